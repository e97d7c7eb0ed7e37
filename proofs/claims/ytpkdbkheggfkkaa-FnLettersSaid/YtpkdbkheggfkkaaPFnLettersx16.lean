/- Walks of functions that FnLetters reaches, shortened. -/
import Derived.Test.YtpkdbkheggfkkaaPFnLettersx0
import Derived.Test.YtpkdbkheggfkkaaPFnLettersx1
import Derived.Test.YtpkdbkheggfkkaaPFnLettersx6
import Derived.Test.YtpkdbkheggfkkaaPFnLettersx7
import Derived.Test.YtpkdbkheggfkkaaPFnLettersx8
import Derived.Test.YtpkdbkheggfkkaaPFnLettersx14
import Derived.Test.YtpkdbkheggfkkaaPFnLettersx15
namespace Go.Proofs.Ytpkdbkheggfkkaa.PFnLetters
open Go.RowKit Go.Proofs.YtpkdbkheggfkkaaW.PrintWords Go.Proofs.YtpkdbkheggfkkaaW.PrintLast Go.Proofs.YtpkdbkheggfkkaaW.PrintMore
attribute [local go_sem] max2_int min2_int max_two min_two max_three min_three max_four min_four
set_option linter.unusedVariables false
set_option linter.unusedSimpArgs false

abbrev b16A0 : Array Bool := #[O, O, O, O, O, O, O, O, O, O, O, O, O, O, O, O, O, O, O, O, O, O, O, O, O, O, O, O, O, O, O, O, O, O, O, O]
abbrev b16A1 : Array Bool := #[I, O, O, O, O, O, O, O, O, O, O, O, O, O, O, O, O, O, O, O, O, O, O, O, O, O, O, O, O, O, O, O, O, O, O, O]
abbrev b16A2 : Array Bool := #[I, I, O, O, O, O, O, O, O, O, O, O, O, O, O, O, O, O, O, O, O, O, O, O, O, O, O, O, O, O, O, O, O, O, O, O]
abbrev b16A3 : Array Bool := #[I, I, I, O, O, O, O, O, O, O, O, O, O, O, O, O, O, O, O, O, O, O, O, O, O, O, O, O, O, O, O, O, O, O, O, O]
abbrev b16A4 : Array Bool := #[I, I, I, I, O, O, O, O, O, O, O, O, O, O, O, O, O, O, O, O, O, O, O, O, O, O, O, O, O, O, O, O, O, O, O, O]
abbrev b16A5 : Array Bool := #[I, I, I, I, I, O, O, O, O, O, O, O, O, O, O, O, O, O, O, O, O, O, O, O, O, O, O, O, O, O, O, O, O, O, O, O]
abbrev b16A6 : Array Bool := #[I, I, I, I, I, I, O, O, O, O, O, O, O, O, O, O, O, O, O, O, O, O, O, O, O, O, O, O, O, O, O, O, O, O, O, O]
abbrev b16A7 : Array Bool := #[I, I, I, I, I, I, I, O, O, O, O, O, O, O, O, O, O, O, O, O, O, O, O, O, O, O, O, O, O, O, O, O, O, O, O, O]
abbrev b16A8 : Array Bool := #[I, I, I, I, I, I, I, I, O, O, O, O, O, O, O, O, O, O, O, O, O, O, O, O, O, O, O, O, O, O, O, O, O, O, O, O]
abbrev b16A9 : Array Bool := #[I, I, I, I, I, I, I, I, I, O, O, O, O, O, O, O, O, O, O, O, O, O, O, O, O, O, O, O, O, O, O, O, O, O, O, O]
abbrev b16A10 : Array Bool := #[I, I, I, I, I, I, I, I, I, I, O, O, O, O, O, O, O, O, O, O, O, O, O, O, O, O, O, O, O, O, O, O, O, O, O, O]
abbrev b16A11 : Array Bool := #[I, I, I, I, I, I, I, I, I, I, I, O, O, O, O, O, O, O, O, O, O, O, O, O, O, O, O, O, O, O, O, O, O, O, O, O]
abbrev b16A12 : Array Bool := #[I, I, I, I, I, I, I, I, I, I, I, I, O, O, O, O, O, O, O, O, O, O, O, O, O, O, O, O, O, O, O, O, O, O, O, O]
abbrev b16A13 : Array Bool := #[I, I, I, I, I, I, I, I, I, I, I, I, I, O, O, O, O, O, O, O, O, O, O, O, O, O, O, O, O, O, O, O, O, O, O, O]
abbrev b16A14 : Array Bool := #[I, I, I, I, I, I, I, I, I, I, I, I, I, I, O, O, O, O, O, O, O, O, O, O, O, O, O, O, O, O, O, O, O, O, O, O]
abbrev b16A15 : Array Bool := #[I, I, I, I, I, I, I, I, I, I, I, I, I, I, I, O, O, O, O, O, O, O, O, O, O, O, O, O, O, O, O, O, O, O, O, O]
abbrev b16A16 : Array Bool := #[I, I, I, I, I, I, I, I, I, I, I, I, I, I, I, I, O, O, O, O, O, O, O, O, O, O, O, O, O, O, O, O, O, O, O, O]
abbrev b16A17 : Array Bool := #[I, I, I, I, I, I, I, I, I, I, I, I, I, I, I, I, I, O, O, O, O, O, O, O, O, O, O, O, O, O, O, O, O, O, O, O]
abbrev b16A18 : Array Bool := #[I, I, I, I, I, I, I, I, I, I, I, I, I, I, I, I, I, I, O, O, O, O, O, O, O, O, O, O, O, O, O, O, O, O, O, O]
abbrev b16A19 : Array Bool := #[I, I, I, I, I, I, I, I, I, I, I, I, I, I, I, I, I, I, I, O, O, O, O, O, O, O, O, O, O, O, O, O, O, O, O, O]
abbrev b16A20 : Array Bool := #[I, I, I, I, I, I, I, I, I, I, I, I, I, I, I, I, I, I, I, I, O, O, O, O, O, O, O, O, O, O, O, O, O, O, O, O]
abbrev b16A21 : Array Bool := #[I, I, I, I, I, I, I, I, I, I, I, I, I, I, I, I, I, I, I, I, I, O, O, O, O, O, O, O, O, O, O, O, O, O, O, O]
abbrev b16A22 : Array Bool := #[I, I, I, I, I, I, I, I, I, I, I, I, I, I, I, I, I, I, I, I, I, I, O, O, O, O, O, O, O, O, O, O, O, O, O, O]
abbrev b16A23 : Array Bool := #[I, I, I, I, I, I, I, I, I, I, I, I, I, I, I, I, I, I, I, I, I, I, I, O, O, O, O, O, O, O, O, O, O, O, O, O]
abbrev b16A24 : Array Bool := #[I, I, I, I, I, I, I, I, I, I, I, I, I, I, I, I, I, I, I, I, I, I, I, I, O, O, O, O, O, O, O, O, O, O, O, O]
abbrev b16A25 : Array Bool := #[I, I, I, I, I, I, I, I, I, I, I, I, I, I, I, I, I, I, I, I, I, I, I, I, I, O, O, O, O, O, O, O, O, O, O, O]
abbrev b16A26 : Array Bool := #[I, I, I, I, I, I, I, I, I, I, I, I, I, I, I, I, I, I, I, I, I, I, I, I, I, I, O, O, O, O, O, O, O, O, O, O]
abbrev b16A27 : Array Bool := #[I, I, I, I, I, I, I, I, I, I, I, I, I, I, I, I, I, I, I, I, I, I, I, I, I, I, I, O, O, O, O, O, O, O, O, O]
abbrev b16A28 : Array Bool := #[I, I, I, I, I, I, I, I, I, I, I, I, I, I, I, I, I, I, I, I, I, I, I, I, I, I, I, I, O, O, O, O, O, O, O, O]
abbrev b16A29 : Array Bool := #[I, I, I, I, I, I, I, I, I, I, I, I, I, I, I, I, I, I, I, I, I, I, I, I, I, I, I, I, I, O, O, O, O, O, O, O]
abbrev b16A30 : Array Bool := #[I, I, I, I, I, I, I, I, I, I, I, I, I, I, I, I, I, I, I, I, I, I, I, I, I, I, I, I, I, I, O, O, O, O, O, O]
abbrev b16A31 : Array Bool := #[I, I, I, I, I, I, I, I, I, I, I, I, I, I, I, I, I, I, I, I, I, I, I, I, I, I, I, I, I, I, I, O, O, O, O, O]
abbrev b16A32 : Array Bool := #[I, I, I, I, I, I, I, I, I, I, I, I, I, I, I, I, I, I, I, I, I, I, I, I, I, I, I, I, I, I, I, I, O, O, O, O]
abbrev b16A33 : Array Bool := #[I, I, I, I, I, I, I, I, I, I, I, I, I, I, I, I, I, I, I, I, I, I, I, I, I, I, I, I, I, I, I, I, I, O, O, O]
abbrev b16A34 : Array Bool := #[I, I, I, I, I, I, I, I, I, I, I, I, I, I, I, I, I, I, I, I, I, I, I, I, I, I, I, I, I, I, I, I, I, I, O, O]
abbrev b16A35 : Array Bool := #[I, I, I, I, I, I, I, I, I, I, I, I, I, I, I, I, I, I, I, I, I, I, I, I, I, I, I, I, I, I, I, I, I, I, I, O]
abbrev b16A36 : Array Bool := #[I, I, I, I, I, I, I, I, I, I, I, I, I, I, I, I, I, I, I, I, I, I, I, I, I, I, I, I, I, I, I, I, I, I, I, I]
abbrev b16A37 : Array Bool := #[I, I, I, I, I, I, O, I, O, O, O, O, O, O, O, O, O, O, O, O, O, O, O, O, O, O, O, O, O, O, O, O, O, O, O, O]
abbrev b16A38 : Array Bool := #[I, I, I, I, I, I, O, I, O, I, O, O, O, O, O, O, O, O, O, O, O, O, O, O, O, O, O, O, O, O, O, O, O, O, O, O]
abbrev b16A39 : Array Bool := #[I, I, I, I, I, I, O, I, O, I, I, O, O, O, O, O, O, O, O, O, O, O, O, O, O, O, O, O, O, O, O, O, O, O, O, O]
abbrev b16A40 : Array Bool := #[I, I, I, I, I, I, O, I, O, I, I, I, O, O, O, O, O, O, O, O, O, O, O, O, O, O, O, O, O, O, O, O, O, O, O, O]
abbrev b16A41 : Array Bool := #[I, I, I, I, I, I, O, I, O, I, I, I, I, O, O, O, O, O, O, O, O, O, O, O, O, O, O, O, O, O, O, O, O, O, O, O]
abbrev b16A42 : Array Bool := #[I, I, I, I, I, I, I, I, O, I, I, I, I, O, O, O, O, O, O, O, O, O, O, O, O, O, O, O, O, O, O, O, O, O, O, O]
abbrev b16A43 : Array Bool := #[I, I, I, I, I, I, I, I, O, I, I, I, I, I, O, O, O, O, O, O, O, O, O, O, O, O, O, O, O, O, O, O, O, O, O, O]
abbrev b16A44 : Array Bool := #[I, I, I, I, I, I, I, I, I, I, I, I, I, I, I, I, I, I, I, I, I, I, O, I, O, O, O, O, O, O, O, O, O, O, O, O]
/-! ### laws_FnLetters: function 9 -/
mutual
def laws_FnLetters.j0 : Nat → List Int → List (S87) → List (S126) → Int → List (S81) → Bool → Option (Bool)
 | 0, _, _, _, _, _, _ => none
 | k + 1, x0, x4, x5, x6, x7, x42 => if x42 = true then (some false) else (laws_FnLetters.l0 k x0 x4 x5 x6 x7 0)
def laws_FnLetters.l0 : Nat → List Int → List (S87) → List (S126) → Int → List (S81) → Int → Option (Bool)
 | 0, _, _, _, _, _, _ => none
 | k + 1, x0, x4, x5, x6, x7, x9 => if x9 < (x7.length : Int) then (if 0 ≤ x9 then ((impl_FindReport.f x4 ((rd_T81 x7 x9).f0)).bind fun t692 => (if t692 < 0 then (some false) else (if 0 ≤ t692 then (if t692 < (x4.length : Int) then ((impl_Candidates.f k ((rd_T87 x4 t692).f0) ((rd_T87 x4 t692).f1) ((rd_T87 x4 t692).f2) ((rd_T87 x4 t692).f3) ((rd_T87 x4 t692).f4) ((rd_T87 x4 t692).f5) ((rd_T87 x4 t692).f6.f0) ((rd_T87 x4 t692).f6.f1) x5).bind fun t694 => ((laws_contains.f k t694 ((rd_T81 x7 x9).f1)).bind fun t698 => (if t698 = true then (if ((rd_T81 x7 x9).f2) = x6 then ((impl_CountLetters.f k x7 ((rd_T81 x7 x9).f0)).bind fun t701 => (if t701 = 1 then (laws_FnLetters.l0 k x0 x4 x5 x6 x7 (wrap64 (x9 + 1))) else (some false))) else (some false)) else (some false)))) else (none)) else (none)))) else (none)) else ((spec_DrawWriteLetter.f k x0).bind fun bt702 => ((impl_WriteLetter.f k bt702.1 bt702.2.1 bt702.2.2.1 bt702.2.2.2).bind fun bt708 => ((impl_MayWrite.f k bt702.1 bt702.2.1 bt702.2.2.1 bt702.2.2.2).bind fun t712 => (if (bt708.2 != t712) = true then (some false) else (if bt708.2 = true then ((impl_LastLetter.f k bt708.1 bt702.2.1).bind fun t713 => (if t713 = bt702.2.2.2 then ((impl_CountLetters.f k bt708.1 bt702.2.1).bind fun t714 => ((impl_CountLetters.f k bt702.1 bt702.2.1).bind fun t715 => (if t714 = (wrap64 (t715 + 1)) then (some true) else (some false)))) else (some false))) else (some ((bt708.1.length : Int) == (bt702.1.length : Int))))))))
end
def laws_FnLetters.f (k : Nat) (l0 : List Int) : Option (Bool) := (laws_big.f l0).bind fun t666 => (if t666 = true then (some true) else ((spec_DrawLettersFor.f k l0).bind fun bt667 => ((impl_LettersFor.f k bt667.1 bt667.2.1 bt667.2.2.1 bt667.2.2.2).bind fun t677 => ((some (([] : List (S81)) : List (S81))).bind fun y680 => (if y680.length + bt667.1.length < 5864062014805 then ((some (y680 ++ bt667.1 : List (S81))).bind fun y683 => (if y683.length + t677.length < 5864062014805 then ((impl_AreLetters.f k bt667.1).bind fun t689 => (if t689 = true then ((impl_AreLetters.f k (y683 ++ t677)).bind fun t690 => (laws_FnLetters.j0 k l0 bt667.2.1 bt667.2.2.1 bt667.2.2.2 t677 (!t690))) else (laws_FnLetters.j0 k l0 bt667.2.1 bt667.2.2.1 bt667.2.2.2 t677 false))) else (none))) else (none))))))
def laws_FnLetters.T12 : Bool × List (List Nat × List Nat) := (true, [([], []), ([0], [0]), ([1], [1]), ([2], [2]), ([2], [2]), ([3, 4, 2], [2, 3, 4]), ([5, 2], [2, 5]), ([2], [2]), ([6, 7, 2, 2], [2, 6, 7]), ([2], [2]), ([2], [2]), ([9, 10, 2], [2, 9, 10]), ([11, 2], [2, 11]), ([12, 2], [2, 12]), ([8, 13, 8, 2], [2, 8, 13]), ([14, 2], [2, 14]), ([2, 15], [2, 15]), ([16, 14], [16]), ([17], [17]), ([17], [17]), ([18, 19, 17], [17, 18, 19]), ([20, 17], [17, 20]), ([21, 17], [17, 21]), ([17], [17]), ([22, 23, 17], [17, 22, 23]), ([17, 24], [17, 24]), ([25, 17], [25]), ([26], [26]), ([26], [26]), ([26], [26]), ([28, 29, 26], [26, 28, 29]), ([30, 26], [26, 30]), ([31, 26], [26, 31]), ([27, 32, 26, 26], [26, 27, 32]), ([33, 26], [26, 33]), ([26, 34], [26, 34])])
def laws_FnLetters.B12 : List Nat := [0, 1, 3, 7, 7, 31, 63, 7, 255, 7, 7, 1543, 3591, 7687, 16383, 32767, 65535, 131071, 262143, 262143, 1048575, 2097151, 4194303, 262143, 16777215, 33554431, 67108863, 134217727, 134217727, 134217727, 939524095, 2013265919, 4160749567, 8589934591, 17179869183, 34359738367]
theorem laws_FnLetters.tab12 : rtab .any (opsOf Try.f9 12) = laws_FnLetters.T12 := by kernel_rfl
theorem laws_FnLetters.bits12 : waitsOk laws_FnLetters.T12.2 laws_FnLetters.B12 = true := by kernel_rfl
set_option maxRecDepth 100000 in
theorem lf16_0 {p : Prop} (h : p := by
  go_wp2_with (first | ((with_reducible refine gate_callee (f := 58) rfl ?_); refine goesL_ (some 94) rfl rfl Try.func58 (by kernel_rfl) rfl #[.slice A0 l0.length c0] rfl M0 ?_; (with_reducible refine (spec_DrawWriteLetter.calls k2 _ _ l0 t702 t703 t704 t705 _ ?side1 ?side2 A59.o).mono ?_); (case side1 => exact Kd.qC (Kd.C_below HR0.o HB.o)); (case side2 => exact HC0.o); rintro e wz0 ⟨v706, rfl, ho0, hb⟩; refine ⟨_, rfl, ?_⟩; have _ := zK (Kd.N_elder' M13 (Kd.R_base ho0) hb); have _ := zK (Kd.R_below (Kd.qR HO_5.o) hb); have _ := zK (Kd.Q_elder' M8 (Kd.R_base ho0) hb); have _ := zK (Kd.R_lower (Kd.R_new' ho0 (Kd.Q_lt M8)) (bZ (qB HB.o))); have _ := zK (bT (qB HB.o) hb); clear HO_4 HO_5 HO_7 HB; rename_i HO_4 HO_5 HO_7 HO707 HB; (try clear hb); (try clear hb2); (try clear hk); (try clear hi); (try clear ho0); obtain ⟨Aoz0, coz0, eoz0⟩ := Kd.R_slice HO707.o; subst eoz0) | ((with_reducible refine gate_callee (f := 59) rfl ?_); refine goesL_ (some 104) rfl rfl Try.func59 (by kernel_rfl) rfl #[.slice Aoz0 t702.length coz0, .int .i64 t703, .int .i64 t704, .int .i64 t705] rfl M0 ?_; (with_reducible refine (impl_WriteLetter.calls k2 _ _ t702 t703 t704 t705 t708 true _ ?side1 ?side2 A60.o).mono ?_); (case side1 => exact Kd.qC (Kd.R_reads' HO707.o).2.2); (case side2 => exact (Kd.R_reads' HO707.o).2.1); rintro e wz1 ⟨v710, rfl, ho0, hb⟩; refine ⟨_, rfl, ?_⟩; have _ := zK (Kd.N_elder' M13 (Kd.R_base ho0) hb); have _ := zK (Kd.R_below (Kd.qR HO_5.o) hb); have _ := zK (Kd.Q_elder' M8 (Kd.R_base ho0) hb); have _ := zK (Kd.R_elder' (Kd.qR HO707.o) (Kd.R_base ho0) hb); have _ := zK (Kd.R_lower (Kd.R_new' (Kd.R_new' ho0 (Kd.Q_lt M8)) (Kd.R_lt (Kd.qR HO707.o))) (bZ (qB HB.o))); have _ := zK (bT (qB HB.o) hb); clear HO_4 HO_5 HO_7 HO707 HB; rename_i HO_4 HO_5 HO_7 HO707 HO711 HB; (try clear hb); (try clear hb2); (try clear hk); (try clear hi); (try clear ho0)) | ((with_reducible refine gate_callee (f := 60) rfl ?_); refine goesL_ (some 112) rfl rfl Try.func60 (by kernel_rfl) rfl #[.slice Aoz0 t702.length coz0, .int .i64 t703, .int .i64 t704, .int .i64 t705] rfl M0 ?_; (with_reducible refine (impl_MayWrite.calls k2 _ _ t702 t703 t704 t705 t712 _ ?side1 ?side2 A61.o).mono ?_); (case side1 => exact Kd.qC (Kd.R_reads' HO707.o).2.2); (case side2 => exact (Kd.R_reads' HO707.o).2.1); rintro e wz2 ⟨rfl, hb⟩; refine ⟨_, rfl, ?_⟩; have _ := zK (Kd.N_below M13 hb); have _ := zK (Kd.R_below (Kd.qR HO_5.o) hb); have _ := zK (Kd.Q_below M8 hb); have _ := zK (Kd.R_below (Kd.qR HO707.o) hb); have _ := zK (Kd.R_below (Kd.qR HO711.o) hb); have _ := zK (bT (qB HB.o) hb); clear HO_4 HO_5 HO_7 HO707 HO711 HB; rename_i HO_4 HO_5 HO_7 HO707 HO711 HB; (try clear hb); (try clear hb2); (try clear hk); (try clear hi); obtain ⟨Aoz1, coz1, eoz1⟩ := Kd.R_slice HO711.o; subst eoz1) | (go_at_call 61; (with_reducible refine (impl_LastLetter.calls k2 _ _ t708 t703 t713 _ ?side1 ?side2 A68.o).mono ?_); (case side1 => exact Kd.qC (Kd.R_reads' HO711.o).2.2); (case side2 => exact (Kd.R_reads' HO711.o).2.1); rintro e wz3 ⟨rfl, hb⟩; have _ := zK (Kd.N_below M13 hb); have _ := zK (Kd.R_below (Kd.qR HO_5.o) hb); have _ := zK (Kd.Q_below M8 hb); have _ := zK (Kd.R_below (Kd.qR HO707.o) hb); have _ := zK (Kd.R_below (Kd.qR HO711.o) hb); have _ := zK (bT (qB HB.o) hb); clear HO_4 HO_5 HO_7 HO707 HO711 HB; rename_i HO_4 HO_5 HO_7 HO707 HO711 HB; (try clear hb); (try clear hb2); (try clear hk); (try clear hi)) | (go_at_call 57; (with_reducible refine (impl_CountLetters.calls k2 _ _ t708 t703 t714 _ ?side1 ?side2 A70.o).mono ?_); (case side1 => exact Kd.qC (Kd.R_reads' HO711.o).2.2); (case side2 => exact (Kd.R_reads' HO711.o).2.1); rintro e wz4 ⟨rfl, hb⟩; have _ := zK (Kd.N_below M13 hb); have _ := zK (Kd.R_below (Kd.qR HO_5.o) hb); have _ := zK (Kd.Q_below M8 hb); have _ := zK (Kd.R_below (Kd.qR HO707.o) hb); have _ := zK (Kd.R_below (Kd.qR HO711.o) hb); have _ := zK (bT (qB HB.o) hb); clear HO_4 HO_5 HO_7 HO707 HO711 HB; rename_i HO_4 HO_5 HO_7 HO707 HO711 HB; (try clear hb); (try clear hb2); (try clear hk); (try clear hi)) | (go_at_call 57; (with_reducible refine (impl_CountLetters.calls k2 _ _ t702 t703 t715 _ ?side1 ?side2 A71.o).mono ?_); (case side1 => exact Kd.qC (Kd.R_reads' HO707.o).2.2); (case side2 => exact (Kd.R_reads' HO707.o).2.1); rintro e wz5 ⟨rfl, hb⟩; have _ := zK (Kd.N_below M13 hb); have _ := zK (Kd.R_below (Kd.qR HO_5.o) hb); have _ := zK (Kd.Q_below M8 hb); have _ := zK (Kd.R_below (Kd.qR HO707.o) hb); have _ := zK (Kd.R_below (Kd.qR HO711.o) hb); have _ := zK (bT (qB HB.o) hb); clear HO_4 HO_5 HO_7 HO707 HO711 HB; rename_i HO_4 HO_5 HO_7 HO707 HO711 HB; (try clear hb); (try clear hb2); (try clear hk); (try clear hi)))
  go_ret
  exact ⟨by first | rfl | (simp [errW_none, errW_some] <;> rfl) | (simp [*, errW_none, errW_some] <;> rfl), by exact qB HB.o⟩) : p := h
set_option maxHeartbeats 8000000 in
set_option maxRecDepth 100000 in
theorem laws_FnLetters.calls (k : Nat) (A0 : Option Addr) (c0 : Nat) (l0 : List Int) (r : Bool) (w : World) (hr0 : Kd.C (Kd.int .u8) w A0 l0.length l0) (hc0 : l0.length ≤ c0) (h : laws_FnLetters.f k l0 = some r) :
  Calls Try.prog 9 #[.slice A0 l0.length c0] w fun e w' => e = .returned (.bool r) ∧ Below w.heap.size w w' := by
 have hu87 := Try.underlying87
 have HR0 := zK hr0
 have HC0 := zK hc0
 clear hr0 hc0
 have HB := zK (Below.refl w.heap.size w)
 have H : ((laws_big.f l0).bind fun t666 => (if t666 = true then (some true) else ((spec_DrawLettersFor.f k l0).bind fun bt667 => ((impl_LettersFor.f k bt667.1 bt667.2.1 bt667.2.2.1 bt667.2.2.2).bind fun t677 => ((some (([] : List (S81)) : List (S81))).bind fun y680 => (if y680.length + bt667.1.length < 5864062014805 then ((some (y680 ++ bt667.1 : List (S81))).bind fun y683 => (if y683.length + t677.length < 5864062014805 then ((impl_AreLetters.f k bt667.1).bind fun t689 => (if t689 = true then ((impl_AreLetters.f k (y683 ++ t677)).bind fun t690 => (laws_FnLetters.j0 k l0 bt667.2.1 bt667.2.2.1 bt667.2.2.2 t677 (!t690))) else (laws_FnLetters.j0 k l0 bt667.2.1 bt667.2.2.1 bt667.2.2.2 t677 false))) else (none))) else (none))))))) = some r := h
 clear h
 replace H := Option.bind_eq_some_iff.mp H
 obtain ⟨t666, A20, H⟩ := H
 try dsimp only at H
 have A2 := zK A20
 clear A20
 by_cases c3 : t666 = true
 ·subst c3
  have H1 : (some true) = some r := by rw [if_pos rfl] at H; exact H
  clear H
  have H := H1
  clear H1
  obtain rfl := Option.some.inj H
  go_enter Try.func9, Try.ntmps9
  go_wp2_with (first | ((with_reducible refine gate_callee (f := 33) rfl ?_); refine goesL_ (some 18) rfl rfl Try.func33 (by kernel_rfl) rfl #[.slice A0 l0.length c0] rfl M0 ?_; (with_reducible refine (laws_big.calls _ _ l0 true _ ?side1 ?side2 A2.o).mono ?_); (case side1 => exact Kd.qC HR0.o); (case side2 => exact HC0.o); rintro e w' ⟨rfl, ⟨nd, rfl⟩⟩; refine ⟨_, rfl, ?_⟩))
  go_ret
  exact ⟨by first | rfl | (simp [errW_none, errW_some] <;> rfl) | (simp [*, errW_none, errW_some] <;> rfl), by exact qB HB.o⟩
 replace c3 := Bool.eq_false_iff.mpr c3
 subst c3
 have H1 : ((spec_DrawLettersFor.f k l0).bind fun bt667 => ((impl_LettersFor.f k bt667.1 bt667.2.1 bt667.2.2.1 bt667.2.2.2).bind fun t677 => ((some (([] : List (S81)) : List (S81))).bind fun y680 => (if y680.length + bt667.1.length < 5864062014805 then ((some (y680 ++ bt667.1 : List (S81))).bind fun y683 => (if y683.length + t677.length < 5864062014805 then ((impl_AreLetters.f k bt667.1).bind fun t689 => (if t689 = true then ((impl_AreLetters.f k (y683 ++ t677)).bind fun t690 => (laws_FnLetters.j0 k l0 bt667.2.1 bt667.2.2.1 bt667.2.2.2 t677 (!t690))) else (laws_FnLetters.j0 k l0 bt667.2.1 bt667.2.2.1 bt667.2.2.2 t677 false))) else (none))) else (none))))) = some r := by rw [if_neg (show ¬ (false = true) by decide)] at H; exact H
 clear H
 have H := H1
 clear H1
 replace H := Option.bind_eq_some_iff.mp H
 obtain ⟨⟨t667, t670, t673, t676⟩, A40, H⟩ := H
 try dsimp only at H
 have A4 := zK A40
 clear A40
 replace H := Option.bind_eq_some_iff.mp H
 obtain ⟨t677, A50, H⟩ := H
 try dsimp only at H
 have A5 := zK A50
 clear A50
 obtain ⟨y680, hy680⟩ : ∃ y_ : List (S81), y_ = (([] : List (S81))) := ⟨_, rfl⟩
 replace H : (if y680.length + t667.length < 5864062014805 then ((some (y680 ++ t667 : List (S81))).bind fun y683 => (if y683.length + t677.length < 5864062014805 then ((impl_AreLetters.f k t667).bind fun t689 => (if t689 = true then ((impl_AreLetters.f k (y683 ++ t677)).bind fun t690 => (laws_FnLetters.j0 k l0 t670 t673 t676 t677 (!t690))) else (laws_FnLetters.j0 k l0 t670 t673 t676 t677 false))) else (none))) else (none)) = some r := by first | (rw [hy680]; with_reducible exact H) | (have H2_ := (Option.bind_some _ _).symm.trans H; rw [hy680]; with_reducible exact H2_) | (have H2_ := (Option.bind_some _ _).symm.trans H; with_reducible exact H2_) | with_reducible exact H | (rw [hy680]; exact H) | exact H
 have Ny680 := zK hy680
 clear hy680
 by_cases c6 : y680.length + t667.length < 5864062014805
 rotate_left
 ·rw [if_neg c6] at H
  exact absurd H (by simp)

 rw [if_pos c6] at H
 have LMc6 := zK c6
 clear c6
 obtain ⟨y683, hy683⟩ : ∃ y_ : List (S81), y_ = (y680 ++ t667) := ⟨_, rfl⟩
 replace H : (if y683.length + t677.length < 5864062014805 then ((impl_AreLetters.f k t667).bind fun t689 => (if t689 = true then ((impl_AreLetters.f k (y683 ++ t677)).bind fun t690 => (laws_FnLetters.j0 k l0 t670 t673 t676 t677 (!t690))) else (laws_FnLetters.j0 k l0 t670 t673 t676 t677 false))) else (none)) = some r := by first | (rw [hy683]; with_reducible exact H) | (have H2_ := (Option.bind_some _ _).symm.trans H; rw [hy683]; with_reducible exact H2_) | (have H2_ := (Option.bind_some _ _).symm.trans H; with_reducible exact H2_) | with_reducible exact H | (rw [hy683]; exact H) | exact H
 have Ny683 := zK hy683
 clear hy683
 by_cases c7 : y683.length + t677.length < 5864062014805
 rotate_left
 ·rw [if_neg c7] at H
  exact absurd H (by simp)
 rw [if_pos c7] at H
 have LMc7 := zK c7
 clear c7
 obtain ⟨y686, hy686⟩ : ∃ y_ : List (S81), y_ = (y683 ++ t677) := ⟨_, rfl⟩
 replace H : ((impl_AreLetters.f k t667).bind fun t689 => (if t689 = true then ((impl_AreLetters.f k y686).bind fun t690 => (laws_FnLetters.j0 k l0 t670 t673 t676 t677 (!t690))) else (laws_FnLetters.j0 k l0 t670 t673 t676 t677 false))) = some r := by first | (rw [hy686]; with_reducible exact H) | (have H2_ := (Option.bind_some _ _).symm.trans H; rw [hy686]; with_reducible exact H2_) | (have H2_ := (Option.bind_some _ _).symm.trans H; with_reducible exact H2_) | with_reducible exact H | (rw [hy686]; exact H) | exact H
 have Ny686 := zK hy686
 clear hy686
 have HC8 := zK H
 clear H
 go_enter Try.func9, Try.ntmps9
 go_upto_region 6 with (first | ((with_reducible refine gate_callee (f := 33) rfl ?_); refine goesL_ (some 18) rfl rfl Try.func33 (by kernel_rfl) rfl #[.slice A0 l0.length c0] rfl M0 ?_; (with_reducible refine (laws_big.calls _ _ l0 false _ ?side1 ?side2 A2.o).mono ?_); (case side1 => exact Kd.qC HR0.o); (case side2 => exact HC0.o); rintro e w' ⟨rfl, ⟨nd, rfl⟩⟩; refine ⟨_, rfl, ?_⟩) | ((with_reducible refine gate_callee (f := 51) rfl ?_); refine goesL_ (some 21) rfl rfl Try.func51 (by kernel_rfl) rfl #[.slice A0 l0.length c0] rfl M0 ?_; (with_reducible refine (spec_DrawLettersFor.calls k _ _ l0 t667 t670 t673 t676 _ ?side1 ?side2 A4.o).mono ?_); (case side1 => exact Kd.qC HR0.o); (case side2 => exact HC0.o); rintro e w9 ⟨v668, v671, v674, rfl, ho0, ho1, ho2, hb⟩; refine ⟨_, rfl, ?_⟩; have _ := zK (Kd.R_lower (Kd.R_mono (ok' := fun k_ => True) ho0 (fun _ hk_ => trivial)) (bZ (qB HB.o))); have _ := zK (Kd.N_lower (Kd.N_mono (ok' := fun k_ => some k_ ≠ (v668 : Value).ownBlock ∧ some k_ ≠ (v674 : Value).ownBlock) ho1 (fun k_ hk_ => ⟨hk_.2.1, hk_.2.2⟩)) (bZ (qB HB.o))); have _ := zK (Kd.R_lower (Kd.R_mono (ok' := fun k_ => True) ho2 (fun _ hk_ => trivial)) (bZ (qB HB.o))); have _ := zK (bT (qB HB.o) hb); clear HB; rename_i HO669 HO672 HO675 HB; (try clear hb); (try clear hb2); (try clear hk); (try clear hi); (try clear ho0); (try clear ho1); (try clear ho2); obtain ⟨Ao10, co10, eo10⟩ := Kd.R_slice HO669.o; subst eo10; obtain ⟨Ao11, co11, eo11⟩ := Kd.N_slice HO672.o; subst eo11; obtain ⟨Ao12, co12, eo12⟩ := Kd.R_slice HO675.o; subst eo12) | ((with_reducible refine gate_callee (f := 52) rfl ?_); refine goesL_ (some 30) rfl rfl Try.func52 (by kernel_rfl) rfl #[.slice Ao10 t667.length co10, .slice Ao11 t670.length co11, .slice Ao12 t673.length co12, .int .i64 t676] rfl M0 ?_; (with_reducible refine (impl_LettersFor.calls k _ _ t667 _ _ t670 _ _ t673 t676 t677 _ ?side1 ?side2 ?side3 ?side4 ?side5 ?side6 A5.o).mono ?_); (case side1 => exact Kd.qC (Kd.R_reads' HO669.o).2.2); (case side2 => exact (Kd.R_reads' HO669.o).2.1); (case side3 => repeat (first | exact (Kd.N_reads' HO672.o).2.2 | (with_reducible refine Kd.CA ?_ _) | (with_reducible refine Kd.CN ?_ _) | (with_reducible refine Kd.CD ?_))); (case side4 => exact (Kd.N_reads' HO672.o).2.1); (case side5 => exact Kd.qC (Kd.R_reads' HO675.o).2.2); (case side6 => exact (Kd.R_reads' HO675.o).2.1); rintro e w13 ⟨v678, rfl, ho0, hb⟩; refine ⟨_, rfl, ?_⟩; have _ := zK (Kd.R_elder' (Kd.qR HO669.o) (Kd.Q_base ho0) hb); have _ := zK (Kd.N_elder' M46 (Kd.Q_base ho0) hb); have _ := zK (Kd.R_below (Kd.qR HO675.o) hb); have _ := zK (Kd.Q_lower (Kd.Q_new' ho0 (Kd.R_lt (Kd.qR HO669.o))) (bZ (qB HB.o))); have _ := zK (bT (qB HB.o) hb); clear HO669 HO672 HO675 HB; rename_i HO669 HO672 HO675 HO679 HB; (try clear hb); (try clear hb2); (try clear hk); (try clear hi); (try clear ho0)) | ((with_reducible refine gate_dst (N := 31) rfl ?_); (try (refine gate_guard (by rfl) ?_; dsimp only)); refine Kd.R_lit k81 _ 81 ?hg (N := 31) ?hd (xs := ([] : List (S81))) (inner := []) (ok := fun _ => True) (okp := fun _ => True) ?hr ?hp (fun _ hk => hk) trivial (Below.refl _ _) (Nat.le_refl _) (by simp) ?_; (case hd => rfl); (case hg => rfl); (case hr => first | (go_simp; done) | (go_simp; rfl)); (case hp => exact (Reps.none _ _)); intro v681 w14 ho15 hb hg_ hnew_; clear hg_ hnew_; (first | rw [← Ny680.o] at ho15 | (simp only [Int.reduceToNat] at ho15; rw [← Ny680.o] at ho15)); have _ := zK (Kd.R_elder' (Kd.qR HO669.o) (Kd.R_base ho15) hb); have _ := zK (Kd.N_elder' M46 (Kd.R_base ho15) hb); have _ := zK (Kd.R_below (Kd.qR HO675.o) hb); have _ := zK (Kd.Q_elder' M39 (Kd.R_base ho15) hb); have _ := zK (Kd.R_lower (Kd.R_new' (Kd.R_new' ho15 (Kd.R_lt (Kd.qR HO669.o))) (Kd.Q_lt M39)) (bZ (qB HB.o))); have _ := zK (bT (qB HB.o) hb); clear HO669 HO672 HO675 HO679 HB; rename_i HO669 HO672 HO675 HO679 HO682 HB; clear hb ho15) | ((with_reducible refine gate_builtin (b := .append) (xs := #[.tmp 31, .tmp 32]) rfl ?_); (try (refine gate_guard (by rfl) ?_; dsimp only)); at_builtin; refine Kd.R_append_rows k81 (w0 := w) w.heap.size rfl (.tmp 31) (.tmp 32) 73 81 (.agg #[(.int .i64 0), (.int .i64 0), (.int .i64 0)]) 24 rfl Try.underlying73 info81 rfl (by decide) (by omega) v681 y680 t667 _ _ _ (fun k_ => some k_ ≠ (.slice Ao10 t667.length co10 : Value).ownBlock ∧ some k_ ≠ (v678 : Value).ownBlock) (fun _ => False) rfl rfl ?aO ?aR (fun _ _ h => h) (fun _ h => h.elim) ?aF ?aB ?aS ?aL ?_; (case aR => exact Kd.qC (Kd.R_reads' HO669.o).2.2); (case aB => exact (qB HB.o)); (case aF => exact (fun k_ hk => ⟨Kd.fresh' (Kd.R_lt (Kd.qR HO669.o)) k_ hk, Kd.fresh' (Kd.Q_lt M39) k_ hk⟩)); (case aO => exact (by (with_reducible repeat (first | apply Kd.RA | apply Kd.RN | apply Kd.RD)); exact Kd.R_mono HO682.o (fun _ hk => ⟨hk.1.2, hk.2⟩))); (case aS => exact (bZ (qB HB.o))); (case aL => have := LMc6.o; omega); intro v684 w16 ho hb hg hat; rw [← Ny683.o] at ho; have _ := zK (Kd.R_after (ok := (fun k_ => some k_ ≠ (v678 : Value).ownBlock)) (by (with_reducible repeat (first | apply Kd.RA | apply Kd.RN | apply Kd.RD)); exact Kd.R_mono HO669.o (fun _ hk => ⟨hk.1.2, hk.2⟩)) hg hat); have _ := zK (Kd.N_afterv (ok := (fun k_ => some k_ ≠ (.slice Ao10 t667.length co10 : Value).ownBlock ∧ some k_ ≠ (.slice Ao12 t673.length co12 : Value).ownBlock ∧ some k_ ≠ (v678 : Value).ownBlock)) (by (with_reducible repeat (first | apply Kd.N_alloc | apply Kd.N_drewN | apply Kd.N_drew)); exact Kd.N_mono HO672.o (fun _ hk => ⟨⟨hk.1.1.1, ⟨hk.1.1.2, hk.1.2⟩⟩, hk.2⟩)) hg hat); have _ := zK (Kd.R_over' (Kd.qR HO675.o) (Kd.R_typed (Kd.qR HO682.o)) (by decide) hg); have _ := zK (Kd.Q_after (ok := (fun k_ => some k_ ≠ (.slice Ao10 t667.length co10 : Value).ownBlock)) (by (with_reducible repeat (first | apply Kd.Q_alloc | apply Kd.Q_drewN | apply Kd.Q_drew)); exact Kd.Q_mono HO679.o (fun _ hk => ⟨hk.1.2, hk.2⟩)) hg hat); have _ := zK (hb); have _ := zK (ho); clear HO669 HO672 HO675 HO679 HB HO682; rename_i HO669 HO672 HO675 HO679 HB HO685; clear ho hb hg hat; obtain ⟨Ao18, co18, eo18, _⟩ := Kd.Q_slice HO679.o; subst eo18) | ((with_reducible refine gate_builtin (b := .append) (xs := #[.tmp 33, .tmp 34]) rfl ?_); (try (refine gate_guard (by rfl) ?_; dsimp only)); at_builtin; refine Kd.R_append_rows k81 (w0 := w) w.heap.size rfl (.tmp 33) (.tmp 34) 73 81 (.agg #[(.int .i64 0), (.int .i64 0), (.int .i64 0)]) 24 rfl Try.underlying73 info81 rfl (by decide) (by omega) v684 y683 t677 _ _ _ (fun k_ => some k_ ≠ (.slice Ao10 t667.length co10 : Value).ownBlock ∧ some k_ ≠ (.slice Ao18 t677.length co18 : Value).ownBlock) (fun _ => False) rfl rfl ?aO ?aR (fun _ _ h => h) (fun _ h => h.elim) ?aF ?aB ?aS ?aL ?_; (case aR => repeat (first | exact (Kd.Q_reads' HO679.o).2.2 | (with_reducible refine Kd.CA ?_ _) | (with_reducible refine Kd.CN ?_ _) | (with_reducible refine Kd.CD ?_))); (case aB => exact (qB HB.o)); (case aF => exact (fun k_ hk => ⟨Kd.fresh' (Kd.R_lt (Kd.qR HO669.o)) k_ hk, Kd.fresh' (Kd.Q_lt M39) k_ hk⟩)); (case aO => exact (Kd.qR HO685.o)); (case aS => exact (bZ (qB HB.o))); (case aL => have := LMc7.o; omega); intro v687 w17 ho hb hg hat; rw [← Ny686.o] at ho; have _ := zK (Kd.R_after (ok := (fun k_ => some k_ ≠ (.slice Ao18 t677.length co18 : Value).ownBlock)) (Kd.qR HO669.o) hg hat); have _ := zK (Kd.N_afterv (ok := (fun k_ => some k_ ≠ (.slice Ao10 t667.length co10 : Value).ownBlock ∧ some k_ ≠ (.slice Ao12 t673.length co12 : Value).ownBlock ∧ some k_ ≠ (.slice Ao18 t677.length co18 : Value).ownBlock)) M46 hg hat); have _ := zK (Kd.R_over' (Kd.qR HO675.o) (Kd.R_typed (Kd.qR HO685.o)) (by decide) hg); have _ := zK (Kd.Q_after (ok := (fun k_ => some k_ ≠ (.slice Ao10 t667.length co10 : Value).ownBlock)) M39 hg hat); have _ := zK (hb); have _ := zK (ho); clear HO669 HO672 HO675 HO679 HB HO685; rename_i HO669 HO672 HO675 HO679 HB HO688; clear ho hb hg hat))
 (try simp only [Act.put, sA, sZ, sS])
 go_cut [42] (fun v42 wc => ∃ (kq : Nat) (x42_7 : Bool), v42 = .bool x42_7 ∧ Aside0 (laws_FnLetters.j0 kq l0 t670 t673 t676 t677 x42_7 = some r) ∧ Aside0 (kq ≤ k) ∧ Aside0 (Kd.N k87 87 wc w.heap.size (fun k_ => some k_ ≠ ((.slice Ao12 t673.length co12) : Value).ownBlock ∧ some k_ ≠ ((.slice Ao18 t677.length co18) : Value).ownBlock) (.slice Ao11 t670.length co11) t670) ∧ Aside0 (Kd.R k126 126 wc w.heap.size (fun _ => True) (.slice Ao12 t673.length co12) t673) ∧ Aside0 (Kd.Q k81 81 wc w.heap.size (fun _ => True) (.slice Ao18 t677.length co18) t677) ∧ Aside0 (Below w.heap.size w wc))
 case first =>
  have H := HC8.o
  clear HC8
  replace H := Option.bind_eq_some_iff.mp H
  obtain ⟨t689, A190, H⟩ := H
  try dsimp only at H
  have A19 := zK A190
  clear A190
  by_cases c20 : t689 = true
  rotate_left
  ·replace c20 := Bool.eq_false_iff.mpr c20
   subst c20
   have H1 : (laws_FnLetters.j0 k l0 t670 t673 t676 t677 false) = some r := by rw [if_neg (show ¬ (false = true) by decide)] at H; exact H
   clear H
   have H := H1
   clear H1
   have H' := zK H
   clear H
   go_wp2_with (first | ((with_reducible refine gate_callee (f := 53) rfl ?_); refine goesL_ (some 37) rfl rfl Try.func53 (by kernel_rfl) rfl #[.slice Ao10 t667.length co10] rfl M0 ?_; (with_reducible refine (impl_AreLetters.calls k _ _ t667 false _ ?side1 ?side2 A19.o).mono ?_); (case side1 => exact Kd.qC (Kd.R_reads' HO669.o).2.2); (case side2 => exact (Kd.R_reads' HO669.o).2.1); rintro e w25 ⟨rfl, hb⟩; refine ⟨_, rfl, ?_⟩; have _ := zK (Kd.R_below (Kd.qR HO669.o) hb); have _ := zK (Kd.N_below M46 hb); have _ := zK (Kd.R_below (Kd.qR HO675.o) hb); have _ := zK (Kd.Q_below M39 hb); have _ := zK (Kd.R_below (Kd.qR HO688.o) hb); have _ := zK (bT (qB HB.o) hb); clear HO669 HO672 HO675 HO679 HO688 HB; rename_i HO669 HO672 HO675 HO679 HO688 HB; (try clear hb); (try clear hb2); (try clear hk); (try clear hi)))
   go_meet
   case rel => exact ⟨_, (false), M7, H', ⟨by first | omega | exact Nat.le_refl _⟩, ⟨by (with_reducible repeat (first | apply Kd.N_alloc | apply Kd.N_drewN | apply Kd.N_drew)); exact Kd.N_mono HO672.o (fun _ hk => ⟨hk.1.2.1, hk.1.2.2⟩)⟩, ⟨by exact Kd.qR HO675.o⟩, ⟨by (with_reducible repeat (first | apply Kd.Q_alloc | apply Kd.Q_drewN | apply Kd.Q_drew)); exact Kd.Q_mono HO679.o (fun _ hk => trivial)⟩, ⟨by exact qB HB.o⟩⟩
  subst c20
  have H1 : ((impl_AreLetters.f k y686).bind fun t690 => (laws_FnLetters.j0 k l0 t670 t673 t676 t677 (!t690))) = some r := by rw [if_pos rfl] at H; exact H
  clear H
  have H := H1
  clear H1
  replace H := Option.bind_eq_some_iff.mp H
  obtain ⟨t690, A210, H⟩ := H
  try dsimp only at H
  have A21 := zK A210
  clear A210
  have H' := zK H
  clear H
  go_wp2_with (first | ((with_reducible refine gate_callee (f := 53) rfl ?_); refine goesL_ (some 37) rfl rfl Try.func53 (by kernel_rfl) rfl #[.slice Ao10 t667.length co10] rfl M0 ?_; (with_reducible refine (impl_AreLetters.calls k _ _ t667 true _ ?side1 ?side2 A19.o).mono ?_); (case side1 => exact Kd.qC (Kd.R_reads' HO669.o).2.2); (case side2 => exact (Kd.R_reads' HO669.o).2.1); rintro e w22 ⟨rfl, hb⟩; refine ⟨_, rfl, ?_⟩; have _ := zK (Kd.R_below (Kd.qR HO669.o) hb); have _ := zK (Kd.N_below M46 hb); have _ := zK (Kd.R_below (Kd.qR HO675.o) hb); have _ := zK (Kd.Q_below M39 hb); have _ := zK (Kd.R_below (Kd.qR HO688.o) hb); have _ := zK (bT (qB HB.o) hb); clear HO669 HO672 HO675 HO679 HO688 HB; rename_i HO669 HO672 HO675 HO679 HO688 HB; (try clear hb); (try clear hb2); (try clear hk); (try clear hi); obtain ⟨Ao23, co23, eo23⟩ := Kd.R_slice HO688.o; subst eo23) | (go_at_call 53; (with_reducible refine (impl_AreLetters.calls k _ _ y686 t690 _ ?side1 ?side2 A21.o).mono ?_); (case side1 => exact Kd.qC (Kd.R_reads' HO688.o).2.2); (case side2 => exact (Kd.R_reads' HO688.o).2.1); rintro e w24 ⟨rfl, hb⟩; have _ := zK (Kd.R_below (Kd.qR HO669.o) hb); have _ := zK (Kd.N_below M46 hb); have _ := zK (Kd.R_below (Kd.qR HO675.o) hb); have _ := zK (Kd.Q_below M39 hb); have _ := zK (Kd.R_below (Kd.qR HO688.o) hb); have _ := zK (bT (qB HB.o) hb); clear HO669 HO672 HO675 HO679 HO688 HB; rename_i HO669 HO672 HO675 HO679 HO688 HB; (try clear hb); (try clear hb2); (try clear hk); (try clear hi)))
  go_meet
  case rel => exact ⟨_, (!t690), M7, H', ⟨by first | omega | exact Nat.le_refl _⟩, ⟨by (with_reducible repeat (first | apply Kd.N_alloc | apply Kd.N_drewN | apply Kd.N_drew)); exact Kd.N_mono HO672.o (fun _ hk => ⟨hk.1.2.1, hk.1.2.2⟩)⟩, ⟨by exact Kd.qR HO675.o⟩, ⟨by (with_reducible repeat (first | apply Kd.Q_alloc | apply Kd.Q_drewN | apply Kd.Q_drew)); exact Kd.Q_mono HO679.o (fun _ hk => trivial)⟩, ⟨by exact qB HB.o⟩⟩
 case rest =>
  clear HC8
  try clear c2
  try clear p2
  try clear c3
  try clear c5
  try clear c6
  try clear c7
  try clear c9
  try clear c20
  obtain ⟨kq, x42_7, rfl, HA, HJ7, HO_4, HO_5, HO_7, HB⟩ := hcut
  cases kq with
  | zero => exact absurd HA.o (by simp [laws_FnLetters.j0])
  | succ kj7 =>
   have H := HA.o
   clear HA
   simp only [laws_FnLetters.j0] at H
   by_cases c26 : x42_7 = true
   ·subst c26
    have H1 : (some false) = some r := by rw [if_pos rfl] at H; exact H
    clear H
    have H := H1
    clear H1
    obtain rfl := Option.some.inj H
    go_wp2
    go_ret
    exact ⟨by first | rfl | (simp [errW_none, errW_some] <;> rfl) | (simp [*, errW_none, errW_some] <;> rfl), by exact qB HB.o⟩
   replace c26 := Bool.eq_false_iff.mpr c26
   subst c26
   have H1 : (laws_FnLetters.l0 kj7 l0 t670 t673 t676 t677 0) = some r := by rw [if_neg (show ¬ (false = true) by decide)] at H; exact H
   clear H
   have H := H1
   clear H1
   have H' := zK H
   clear H
   go_wp2
   go_loopg [9] kj7 (fun kq v9 w' => ∃ (x9_2 : Int), v9 = .int .i64 x9_2 ∧ Aside0 (laws_FnLetters.l0 kq l0 t670 t673 t676 t677 x9_2 = some r) ∧ Aside0 (kq ≤ kj7) ∧ Aside0 (Kd.N k87 87 w' w.heap.size (fun k_ => some k_ ≠ ((.slice Ao12 t673.length co12) : Value).ownBlock ∧ some k_ ≠ ((.slice Ao18 t677.length co18) : Value).ownBlock) (.slice Ao11 t670.length co11) t670) ∧ Aside0 (Kd.R k126 126 w' w.heap.size (fun _ => True) (.slice Ao12 t673.length co12) t673) ∧ Aside0 (Kd.Q k81 81 w' w.heap.size (fun _ => True) (.slice Ao18 t677.length co18) t677) ∧ Aside0 (Below w.heap.size w w'))
   case atStart => exact ⟨(0), M7, H', ⟨Nat.le_refl _⟩, ⟨by (with_reducible repeat (first | apply Kd.N_alloc | apply Kd.N_drewN | apply Kd.N_drew)); exact HO_4.o⟩, ⟨by exact Kd.qR HO_5.o⟩, ⟨by (with_reducible repeat (first | apply Kd.Q_alloc | apply Kd.Q_drewN | apply Kd.Q_drew)); exact HO_7.o⟩, ⟨by exact qB HB.o⟩⟩
   case round =>
    clear H'
    try clear c2
    try clear p2
    try clear c3
    try clear c5
    try clear c6
    try clear c7
    try clear c9
    try clear c20
    try clear c26
    try clear p2
    obtain ⟨x9_2, rfl, HA, HK2, HO_4, HO_5, HO_7, HB⟩ := hrel
    cases gk with
    | zero => exact absurd HA.o (by simp [laws_FnLetters.l0])
    | succ k2 =>
     have H := HA.o
     clear HA
     simp only [laws_FnLetters.l0] at H
     by_cases c27 : x9_2 < (t677.length : Int)
     rotate_left
     ·rw [if_neg c27] at H
      have c27b0 : decide (x9_2 < (t677.length : Int)) = false := decide_eq_false c27
      clear c27
      replace H := Option.bind_eq_some_iff.mp H
      obtain ⟨⟨t702, t703, t704, t705⟩, A590, H⟩ := H
      try dsimp only at H
      have A59 := zK A590
      clear A590
      replace H := Option.bind_eq_some_iff.mp H
      obtain ⟨⟨t708, t709⟩, A600, H⟩ := H
      try dsimp only at H
      have A60 := zK A600
      clear A600
      replace H := Option.bind_eq_some_iff.mp H
      obtain ⟨t712, A610, H⟩ := H
      try dsimp only at H
      have A61 := zK A610
      clear A610
      by_cases c62 : (t709 != t712) = true
      ·rw [if_pos c62] at H
       have c62b0 : (t709 != t712) = true := c62
       (try (have c62b1 : decide (t709 = t712) = false := by simpa using c62))
       (try (have c62b2 : (t709 == t712) = false := by simpa using c62))
       (try (have c62b3 : ¬ (t709 = t712) := by simpa using c62))
       clear c62
       obtain rfl := Option.some.inj H
       go_wp2_with (first | ((with_reducible refine gate_callee (f := 58) rfl ?_); refine goesL_ (some 94) rfl rfl Try.func58 (by kernel_rfl) rfl #[.slice A0 l0.length c0] rfl M0 ?_; (with_reducible refine (spec_DrawWriteLetter.calls k2 _ _ l0 t702 t703 t704 t705 _ ?side1 ?side2 A59.o).mono ?_); (case side1 => exact Kd.qC (Kd.C_below HR0.o HB.o)); (case side2 => exact HC0.o); rintro e w63 ⟨v706, rfl, ho0, hb⟩; refine ⟨_, rfl, ?_⟩; have _ := zK (Kd.N_elder' M13 (Kd.R_base ho0) hb); have _ := zK (Kd.R_below (Kd.qR HO_5.o) hb); have _ := zK (Kd.Q_elder' M8 (Kd.R_base ho0) hb); have _ := zK (Kd.R_lower (Kd.R_new' ho0 (Kd.Q_lt M8)) (bZ (qB HB.o))); have _ := zK (bT (qB HB.o) hb); clear HO_4 HO_5 HO_7 HB; rename_i HO_4 HO_5 HO_7 HO707 HB; (try clear hb); (try clear hb2); (try clear hk); (try clear hi); (try clear ho0); obtain ⟨Ao64, co64, eo64⟩ := Kd.R_slice HO707.o; subst eo64) | ((with_reducible refine gate_callee (f := 59) rfl ?_); refine goesL_ (some 104) rfl rfl Try.func59 (by kernel_rfl) rfl #[.slice Ao64 t702.length co64, .int .i64 t703, .int .i64 t704, .int .i64 t705] rfl M0 ?_; (with_reducible refine (impl_WriteLetter.calls k2 _ _ t702 t703 t704 t705 t708 t709 _ ?side1 ?side2 A60.o).mono ?_); (case side1 => exact Kd.qC (Kd.R_reads' HO707.o).2.2); (case side2 => exact (Kd.R_reads' HO707.o).2.1); rintro e w65 ⟨v710, rfl, ho0, hb⟩; refine ⟨_, rfl, ?_⟩; have _ := zK (Kd.N_elder' M13 (Kd.R_base ho0) hb); have _ := zK (Kd.R_below (Kd.qR HO_5.o) hb); have _ := zK (Kd.Q_elder' M8 (Kd.R_base ho0) hb); have _ := zK (Kd.R_elder' (Kd.qR HO707.o) (Kd.R_base ho0) hb); have _ := zK (Kd.R_lower (Kd.R_new' (Kd.R_new' ho0 (Kd.Q_lt M8)) (Kd.R_lt (Kd.qR HO707.o))) (bZ (qB HB.o))); have _ := zK (bT (qB HB.o) hb); clear HO_4 HO_5 HO_7 HO707 HB; rename_i HO_4 HO_5 HO_7 HO707 HO711 HB; (try clear hb); (try clear hb2); (try clear hk); (try clear hi); (try clear ho0)) | ((with_reducible refine gate_callee (f := 60) rfl ?_); refine goesL_ (some 112) rfl rfl Try.func60 (by kernel_rfl) rfl #[.slice Ao64 t702.length co64, .int .i64 t703, .int .i64 t704, .int .i64 t705] rfl M0 ?_; (with_reducible refine (impl_MayWrite.calls k2 _ _ t702 t703 t704 t705 t712 _ ?side1 ?side2 A61.o).mono ?_); (case side1 => exact Kd.qC (Kd.R_reads' HO707.o).2.2); (case side2 => exact (Kd.R_reads' HO707.o).2.1); rintro e w66 ⟨rfl, hb⟩; refine ⟨_, rfl, ?_⟩; have _ := zK (Kd.N_below M13 hb); have _ := zK (Kd.R_below (Kd.qR HO_5.o) hb); have _ := zK (Kd.Q_below M8 hb); have _ := zK (Kd.R_below (Kd.qR HO707.o) hb); have _ := zK (Kd.R_below (Kd.qR HO711.o) hb); have _ := zK (bT (qB HB.o) hb); clear HO_4 HO_5 HO_7 HO707 HO711 HB; rename_i HO_4 HO_5 HO_7 HO707 HO711 HB; (try clear hb); (try clear hb2); (try clear hk); (try clear hi)))
       go_ret
       exact ⟨by first | rfl | (simp [errW_none, errW_some] <;> rfl) | (simp [*, errW_none, errW_some] <;> rfl), by exact qB HB.o⟩
      rw [if_neg c62] at H
      have c62b0 : (t709 != t712) = false := by simpa using c62
      (try (have c62b1 : decide (t709 = t712) = true := by simpa using c62))
      (try (have c62b2 : (t709 == t712) = true := by simpa using c62))
      clear c62
      by_cases c67 : t709 = true
      rotate_left
      ·replace c67 := Bool.eq_false_iff.mpr c67
       subst c67
       have H1 : (some ((t708.length : Int) == (t702.length : Int))) = some r := by rw [if_neg (show ¬ (false = true) by decide)] at H; exact H
       clear H
       have H := H1
       clear H1
       obtain rfl := Option.some.inj H
       go_wp2_with (first | ((with_reducible refine gate_callee (f := 58) rfl ?_); refine goesL_ (some 94) rfl rfl Try.func58 (by kernel_rfl) rfl #[.slice A0 l0.length c0] rfl M0 ?_; (with_reducible refine (spec_DrawWriteLetter.calls k2 _ _ l0 t702 t703 t704 t705 _ ?side1 ?side2 A59.o).mono ?_); (case side1 => exact Kd.qC (Kd.C_below HR0.o HB.o)); (case side2 => exact HC0.o); rintro e w95 ⟨v706, rfl, ho0, hb⟩; refine ⟨_, rfl, ?_⟩; have _ := zK (Kd.N_elder' M13 (Kd.R_base ho0) hb); have _ := zK (Kd.R_below (Kd.qR HO_5.o) hb); have _ := zK (Kd.Q_elder' M8 (Kd.R_base ho0) hb); have _ := zK (Kd.R_lower (Kd.R_new' ho0 (Kd.Q_lt M8)) (bZ (qB HB.o))); have _ := zK (bT (qB HB.o) hb); clear HO_4 HO_5 HO_7 HB; rename_i HO_4 HO_5 HO_7 HO707 HB; (try clear hb); (try clear hb2); (try clear hk); (try clear hi); (try clear ho0); obtain ⟨Ao96, co96, eo96⟩ := Kd.R_slice HO707.o; subst eo96) | ((with_reducible refine gate_callee (f := 59) rfl ?_); refine goesL_ (some 104) rfl rfl Try.func59 (by kernel_rfl) rfl #[.slice Ao96 t702.length co96, .int .i64 t703, .int .i64 t704, .int .i64 t705] rfl M0 ?_; (with_reducible refine (impl_WriteLetter.calls k2 _ _ t702 t703 t704 t705 t708 false _ ?side1 ?side2 A60.o).mono ?_); (case side1 => exact Kd.qC (Kd.R_reads' HO707.o).2.2); (case side2 => exact (Kd.R_reads' HO707.o).2.1); rintro e w97 ⟨v710, rfl, ho0, hb⟩; refine ⟨_, rfl, ?_⟩; have _ := zK (Kd.N_elder' M13 (Kd.R_base ho0) hb); have _ := zK (Kd.R_below (Kd.qR HO_5.o) hb); have _ := zK (Kd.Q_elder' M8 (Kd.R_base ho0) hb); have _ := zK (Kd.R_elder' (Kd.qR HO707.o) (Kd.R_base ho0) hb); have _ := zK (Kd.R_lower (Kd.R_new' (Kd.R_new' ho0 (Kd.Q_lt M8)) (Kd.R_lt (Kd.qR HO707.o))) (bZ (qB HB.o))); have _ := zK (bT (qB HB.o) hb); clear HO_4 HO_5 HO_7 HO707 HB; rename_i HO_4 HO_5 HO_7 HO707 HO711 HB; (try clear hb); (try clear hb2); (try clear hk); (try clear hi); (try clear ho0)) | ((with_reducible refine gate_callee (f := 60) rfl ?_); refine goesL_ (some 112) rfl rfl Try.func60 (by kernel_rfl) rfl #[.slice Ao96 t702.length co96, .int .i64 t703, .int .i64 t704, .int .i64 t705] rfl M0 ?_; (with_reducible refine (impl_MayWrite.calls k2 _ _ t702 t703 t704 t705 t712 _ ?side1 ?side2 A61.o).mono ?_); (case side1 => exact Kd.qC (Kd.R_reads' HO707.o).2.2); (case side2 => exact (Kd.R_reads' HO707.o).2.1); rintro e w98 ⟨rfl, hb⟩; refine ⟨_, rfl, ?_⟩; have _ := zK (Kd.N_below M13 hb); have _ := zK (Kd.R_below (Kd.qR HO_5.o) hb); have _ := zK (Kd.Q_below M8 hb); have _ := zK (Kd.R_below (Kd.qR HO707.o) hb); have _ := zK (Kd.R_below (Kd.qR HO711.o) hb); have _ := zK (bT (qB HB.o) hb); clear HO_4 HO_5 HO_7 HO707 HO711 HB; rename_i HO_4 HO_5 HO_7 HO707 HO711 HB; (try clear hb); (try clear hb2); (try clear hk); (try clear hi); obtain ⟨Ao99, co99, eo99⟩ := Kd.R_slice HO711.o; subst eo99))
       go_ret
       exact ⟨by first | rfl | (simp [errW_none, errW_some] <;> rfl) | (simp [*, errW_none, errW_some] <;> rfl), by exact qB HB.o⟩
      subst c67
      have H1 : ((impl_LastLetter.f k2 t708 t703).bind fun t713 => (if t713 = t705 then ((impl_CountLetters.f k2 t708 t703).bind fun t714 => ((impl_CountLetters.f k2 t702 t703).bind fun t715 => (if t714 = (wrap64 (t715 + 1)) then (some true) else (some false)))) else (some false))) = some r := by rw [if_pos rfl] at H; exact H
      clear H
      have H := H1
      clear H1
      replace H := Option.bind_eq_some_iff.mp H
      obtain ⟨t713, A680, H⟩ := H
      try dsimp only at H
      have A68 := zK A680
      clear A680
      by_cases c69 : t713 = t705
      rotate_left
      ·rw [if_neg c69] at H
       have c69b0 : (t713 == t705) = false := beq_eq_false_iff_ne.mpr c69
       have c69b1 : (t713 != t705) = true := bne_iff_ne.mpr c69
       obtain rfl := Option.some.inj H
       exact lf16_0
      rw [if_pos c69] at H
      have c69b0 : (t713 == t705) = true := beq_iff_eq.mpr c69
      have c69b1 : (t713 != t705) = false := bne_eq_false_iff_eq.mpr c69
      clear c69
      replace H := Option.bind_eq_some_iff.mp H
      obtain ⟨t714, A700, H⟩ := H
      try dsimp only at H
      have A70 := zK A700
      clear A700
      replace H := Option.bind_eq_some_iff.mp H
      obtain ⟨t715, A710, H⟩ := H
      try dsimp only at H
      have A71 := zK A710
      clear A710
      by_cases c72 : t714 = (wrap64 (t715 + 1))
      rotate_left
      ·rw [if_neg c72] at H
       have c72b0 : (t714 == (wrap64 (t715 + 1))) = false := beq_eq_false_iff_ne.mpr c72
       have c72b1 : (t714 != (wrap64 (t715 + 1))) = true := bne_iff_ne.mpr c72
       obtain rfl := Option.some.inj H
       exact lf16_0
      rw [if_pos c72] at H
      have c72b0 : (t714 == (wrap64 (t715 + 1))) = true := beq_iff_eq.mpr c72
      have c72b1 : (t714 != (wrap64 (t715 + 1))) = false := bne_eq_false_iff_eq.mpr c72
      clear c72
      obtain rfl := Option.some.inj H
      exact lf16_0
     rw [if_pos c27] at H
     have c27b0 : decide (x9_2 < (t677.length : Int)) = true := decide_eq_true c27
     clear c27
     by_cases c28 : 0 ≤ x9_2
     rotate_left
     ·rw [if_neg c28] at H
      exact absurd H (by simp)
     rw [if_pos c28] at H
     have c28b0 : decide (0 ≤ x9_2) = true := decide_eq_true c28
     clear c28
     replace H := Option.bind_eq_some_iff.mp H
     obtain ⟨t692, A290, H⟩ := H
     try dsimp only at H
     have A29 := zK A290
     clear A290
     by_cases c30 : t692 < 0
     ·rw [if_pos c30] at H
      have c30b0 : decide (t692 < 0) = true := decide_eq_true c30
      clear c30
      obtain rfl := Option.some.inj H
      have p691 : 0 ≤ (x9_2 : Int) := oD M3
      have q691 : x9_2 < (t677.length : Int) := oD M3
      obtain ⟨ad691, e691, hx691_0, hx691_1, hx691_2⟩ := at_T81 (Kd.Q_reads' HO_7.o).2.2 x9_2 p691 q691
      cases e691
      replace p691 := eq_true p691
      replace q691 := eq_true q691
      try go_wp2_with (first | ((with_reducible refine gate_callee (f := 54) rfl ?_); refine goesL_ (some 55) rfl rfl Try.func54 (by kernel_rfl) rfl #[.slice Ao11 t670.length co11, .int .i64 ((rd_T81 t677 x9_2).f0)] rfl M0 ?_; (with_reducible refine (impl_FindReport.calls _ _ t670 ((rd_T81 t677 x9_2).f0) t692 _ ?side1 ?side2 A29.o).mono ?_); (case side1 => repeat (first | exact (Kd.N_reads' HO_4.o).2.2 | (with_reducible refine Kd.CA ?_ _) | (with_reducible refine Kd.CN ?_ _) | (with_reducible refine Kd.CD ?_))); (case side2 => exact (Kd.N_reads' HO_4.o).2.1); rintro e w31 ⟨rfl, hb⟩; refine ⟨_, rfl, ?_⟩; have _ := zK (Kd.N_below M13 hb); have _ := zK (Kd.R_below (Kd.qR HO_5.o) hb); have _ := zK (Kd.Q_below M8 hb); have _ := zK (bT (qB HB.o) hb); clear HO_4 HO_5 HO_7 HB; rename_i HO_4 HO_5 HO_7 HB; (try clear hb); (try clear hb2); (try clear hk); (try clear hi)))
      have n0_ := zK (Kd.N_drew HO_4.o)
      have n1_ := zK (Kd.RD HO_5.o)
      have n2_ := zK (Kd.Q_drew HO_7.o)
      have n3_ := zK (below_drew1 HB.o)
      clear HO_4
      clear HO_5
      clear HO_7
      clear HB
      have HO_4 := n0_
      have HO_5 := n1_
      have HO_7 := n2_
      have HB := n3_
      clear n0_ n1_ n2_ n3_
      refine start_ (n := 36) (S := fun w' => True) (ds := []) b16A0 (by kernel_rfl) rfl rfl trivial (fun hHeld => ?_); refine with_tabW laws_FnLetters.tab12 laws_FnLetters.bits12 (fun HT_ HW_ => ?_)
      generalize w31.drew = w32 at HO_4 HO_5 HO_7 HB hHeld ⊢
      refine pI 0 (some 56) b16A1 HT_ ?_
      refine pI 1 (some 57) b16A2 HT_ ?_
      refine pI 2 (some 58) b16A3 HT_ ?_
      refine pU 3 (some 59) b16A4 HT_ ?_
      refine pU 4 (some 60) b16A5 HT_ ?_
      refine pU 5 (some 61) b16A6 HT_ ?_
      refine pU 6 (some 62) b16A7 HT_ ?_
      refine pU 7 (some 63) b16A8 HT_ ?_
      refine pU 8 (some 64) b16A9 HT_ ?_
      refine pU 9 (some 65) b16A10 HT_ ?_
      refine pU 10 (some 66) b16A11 HT_ ?_
      refine pU 11 (some 67) b16A12 HT_ ?_
      refine pU 12 (some 68) b16A13 HT_ ?_
      refine pU 13 (some 69) b16A14 HT_ ?_
      refine pU 14 (some 70) b16A15 HT_ ?_
      refine pU 15 (some 71) b16A16 HT_ ?_
      refine pI 16 (some 72) b16A17 HT_ ?_
      refine pI 17 (some 73) b16A18 HT_ ?_
      refine pU 18 (some 74) b16A19 HT_ ?_
      refine pU 19 (some 75) b16A20 HT_ ?_
      refine pU 20 (some 76) b16A21 HT_ ?_
      refine pU 21 (some 77) b16A22 HT_ ?_
      refine pU 22 (some 78) b16A23 HT_ ?_
      refine pU 23 (some 79) b16A24 HT_ ?_
      refine pU 24 (some 80) b16A25 HT_ ?_
      refine pI 25 (some 81) b16A26 HT_ ?_
      refine pI 26 (some 82) b16A27 HT_ ?_
      refine pU 27 (some 83) b16A28 HT_ ?_
      refine pU 28 (some 84) b16A29 HT_ ?_
      refine pU 29 (some 85) b16A30 HT_ ?_
      refine pU 30 (some 86) b16A31 HT_ ?_
      refine pU 31 (some 87) b16A32 HT_ ?_
      refine pU 32 (some 88) b16A33 HT_ ?_
      refine pU 33 (some 89) b16A34 HT_ ?_
      refine pU 34 (some 90) b16A35 HT_ ?_
      refine pI 35 (some 91) b16A36 HT_ ?_
      refine done_ (done_of HT_.o (by kernel_rfl)) ?_
      try go_wp2
      go_ret
      exact ⟨by first | rfl | (simp [errW_none, errW_some] <;> rfl) | (simp [*, errW_none, errW_some] <;> rfl), by exact qB HB.o⟩
     rw [if_neg c30] at H
     have c30b0 : decide (t692 < 0) = false := decide_eq_false c30
     clear c30
     by_cases c33 : 0 ≤ t692
     rotate_left
     ·rw [if_neg c33] at H
      exact absurd H (by simp)
     rw [if_pos c33] at H
     have c33b0 : decide (0 ≤ t692) = true := decide_eq_true c33
     clear c33
     by_cases c34 : t692 < (t670.length : Int)
     rotate_left
     ·rw [if_neg c34] at H
      exact absurd H (by simp)
     rw [if_pos c34] at H
     have c34b0 : decide (t692 < (t670.length : Int)) = true := decide_eq_true c34
     clear c34
     replace H := Option.bind_eq_some_iff.mp H
     obtain ⟨t694, A350, H⟩ := H
     try dsimp only at H
     have A35 := zK A350
     clear A350
     replace H := Option.bind_eq_some_iff.mp H
     obtain ⟨t698, A360, H⟩ := H
     try dsimp only at H
     have A36 := zK A360
     clear A360
     by_cases c37 : t698 = true
     rotate_left
     ·replace c37 := Bool.eq_false_iff.mpr c37
      subst c37
      have H1 : (some false) = some r := by rw [if_neg (show ¬ (false = true) by decide)] at H; exact H
      clear H
      have H := H1
      clear H1
      obtain rfl := Option.some.inj H
      have p691 : 0 ≤ (x9_2 : Int) := oD M3
      have q691 : x9_2 < (t677.length : Int) := oD M3
      obtain ⟨ad691, e691, hx691_0, hx691_1, hx691_2⟩ := at_T81 (Kd.Q_reads' HO_7.o).2.2 x9_2 p691 q691
      cases e691
      replace p691 := eq_true p691
      replace q691 := eq_true q691
      try go_wp2_with (first | ((with_reducible refine gate_callee (f := 54) rfl ?_); refine goesL_ (some 55) rfl rfl Try.func54 (by kernel_rfl) rfl #[.slice Ao11 t670.length co11, .int .i64 ((rd_T81 t677 x9_2).f0)] rfl M0 ?_; (with_reducible refine (impl_FindReport.calls _ _ t670 ((rd_T81 t677 x9_2).f0) t692 _ ?side1 ?side2 A29.o).mono ?_); (case side1 => repeat (first | exact (Kd.N_reads' HO_4.o).2.2 | (with_reducible refine Kd.CA ?_ _) | (with_reducible refine Kd.CN ?_ _) | (with_reducible refine Kd.CD ?_))); (case side2 => exact (Kd.N_reads' HO_4.o).2.1); rintro e w55 ⟨rfl, hb⟩; refine ⟨_, rfl, ?_⟩; have _ := zK (Kd.N_below M13 hb); have _ := zK (Kd.R_below (Kd.qR HO_5.o) hb); have _ := zK (Kd.Q_below M8 hb); have _ := zK (bT (qB HB.o) hb); clear HO_4 HO_5 HO_7 HB; rename_i HO_4 HO_5 HO_7 HB; (try clear hb); (try clear hb2); (try clear hk); (try clear hi)))
      have n0_ := zK (Kd.N_drew HO_4.o)
      have n1_ := zK (Kd.RD HO_5.o)
      have n2_ := zK (Kd.Q_drew HO_7.o)
      have n3_ := zK (below_drew1 HB.o)
      clear HO_4
      clear HO_5
      clear HO_7
      clear HB
      have HO_4 := n0_
      have HO_5 := n1_
      have HO_7 := n2_
      have HB := n3_
      clear n0_ n1_ n2_ n3_
      have p693 : 0 ≤ (t692 : Int) := oD M3
      have q693 : t692 < (t670.length : Int) := oD M3
      obtain ⟨ad693, A693_2, c693_2, A693_5, c693_5, e693, hx693_0, hx693_1, hx693_2, hx693_3, hx693_4, hx693_5, hx693_6, hx693_7, hl693_2, hi693_2, hl693_5, hi693_5⟩ := at_T87 (Kd.N_reads' HO_4.o).2.2 t692 p693 q693
      cases e693
      obtain ⟨ce693, hce693, hMe693, hcc693⟩ := Kd.N_get HO_4.o z87 t692 p693 (by first | exact q693 | exact oD M3 | (have e_ := (Kd.N_reads' HO_4.o).1; omega))
      obtain ⟨ua693_2, uc693_2, ua693_5, uc693_5, rfl, ul693_2, ge693_2, ul693_5, ge693_5⟩ := k87_openF hMe693
      have hv693_2 := hcc693 2 _ rfl
      rw [add_field _ _ 2 (by omega)] at hv693_2
      replace hv693_2 := Option.some.inj (hv693_2.symm.trans hx693_2)
      injection hv693_2 with hva_ hvn_ hvc_
      rw [hva_] at ge693_2
      rw [hvc_] at ul693_2
      have HL693_2 := zK (show Kd.V (Kd.int .i64) 3 _ w.heap.size _ _ ((rd_T87 t670 t692).f2) from Kd.V_mk ul693_2 ge693_2)
      clear hva_ hvn_ hvc_ ge693_2 ul693_2
      have hv693_5 := hcc693 5 _ rfl
      rw [add_field _ _ 5 (by omega)] at hv693_5
      replace hv693_5 := Option.some.inj (hv693_5.symm.trans hx693_5)
      injection hv693_5 with hva_ hvn_ hvc_
      rw [hva_] at ge693_5
      rw [hvc_] at ul693_5
      have HL693_5 := zK (show Kd.V (Kd.int .i64) 3 _ w.heap.size _ _ ((rd_T87 t670 t692).f5) from Kd.V_mk ul693_5 ge693_5)
      clear hva_ hvn_ hvc_ ge693_5 ul693_5
      clear hcc693 hce693
      have HR693_2 := zK hi693_2
      have HC693_2 := zK hl693_2
      clear hi693_2 hl693_2
      have HR693_5 := zK hi693_5
      have HC693_5 := zK hl693_5
      clear hi693_5 hl693_5
      replace p693 := eq_true p693
      replace q693 := eq_true q693
      have p697 : 0 ≤ (x9_2 : Int) := oD M3
      have q697 : x9_2 < (t677.length : Int) := oD M3
      obtain ⟨ad697, e697, hx697_0, hx697_1, hx697_2⟩ := at_T81 (Kd.Q_reads' HO_7.o).2.2 x9_2 p697 q697
      obtain rfl : ad691 = ad697 := (by injection e697)
      replace p697 := eq_true p697
      replace q697 := eq_true q697
      refine start_ (n := 36) (S := fun w' => w'.cell? (ad693.add ((t692).toNat * 8)) = some (.int .i64 ((rd_T87 t670 t692).f0)) ∧ w'.cell? ⟨(ad693.add ((t692).toNat * 8)).block, (ad693.add ((t692).toNat * 8)).off + 1, none⟩ = some (.int .i64 ((rd_T87 t670 t692).f1)) ∧ w'.cell? ⟨(ad693.add ((t692).toNat * 8)).block, (ad693.add ((t692).toNat * 8)).off + 2, none⟩ = some (.slice A693_2 ((rd_T87 t670 t692).f2).length c693_2) ∧ w'.cell? ⟨(ad693.add ((t692).toNat * 8)).block, (ad693.add ((t692).toNat * 8)).off + 3, none⟩ = some (.int .i64 ((rd_T87 t670 t692).f3)) ∧ w'.cell? ⟨(ad693.add ((t692).toNat * 8)).block, (ad693.add ((t692).toNat * 8)).off + 4, none⟩ = some (.int .i64 ((rd_T87 t670 t692).f4)) ∧ w'.cell? ⟨(ad693.add ((t692).toNat * 8)).block, (ad693.add ((t692).toNat * 8)).off + 5, none⟩ = some (.slice A693_5 ((rd_T87 t670 t692).f5).length c693_5) ∧ w'.cell? ⟨(ad693.add ((t692).toNat * 8)).block, (ad693.add ((t692).toNat * 8)).off + 6, none⟩ = some (.int .i64 ((rd_T87 t670 t692).f6.f0)) ∧ w'.cell? ⟨(ad693.add ((t692).toNat * 8)).block, (ad693.add ((t692).toNat * 8)).off + 7, none⟩ = some (.int .i64 ((rd_T87 t670 t692).f6.f1)) ∧ w'.cell? (ad691.add ((x9_2).toNat * 3)) = some (.int .i64 ((rd_T81 t677 x9_2).f0)) ∧ w'.cell? ⟨(ad691.add ((x9_2).toNat * 3)).block, (ad691.add ((x9_2).toNat * 3)).off + 1, none⟩ = some (.int .i64 ((rd_T81 t677 x9_2).f1)) ∧ w'.cell? ⟨(ad691.add ((x9_2).toNat * 3)).block, (ad691.add ((x9_2).toNat * 3)).off + 2, none⟩ = some (.int .i64 ((rd_T81 t677 x9_2).f2))) (ds := []) b16A0 (by kernel_rfl) rfl rfl ⟨hx693_0, hx693_1, hx693_2, hx693_3, hx693_4, hx693_5, hx693_6, hx693_7, hx697_0, hx697_1, hx697_2⟩ (fun hHeld => ?_); refine with_tabW laws_FnLetters.tab12 laws_FnLetters.bits12 (fun HT_ HW_ => ?_)
      generalize w55.drew = w56 at HO_4 HO_5 HO_7 HB HL693_2 HL693_5 HR693_2 HR693_5 hx693_0 hx693_1 hx693_2 hx693_3 hx693_4 hx693_5 hx693_6 hx693_7 hx697_0 hx697_1 hx697_2 hHeld ⊢
      refine pI 0 (some 56) b16A1 HT_ ?_
      refine pI 1 (some 57) b16A2 HT_ ?_
      refine pI 2 (some 58) b16A3 HT_ ?_
      refine pI 3 (some 59) b16A4 HT_ ?_
      refine pI 4 (some 60) b16A5 HT_ ?_
      refine pI 5 (some 61) b16A6 HT_ ?_
      refine pI 7 (some 63) b16A37 HT_ ?_
      refine pI 9 (some 65) b16A38 HT_ ?_
      refine pI 10 (some 66) b16A39 HT_ ?_
      refine pI 11 (some 67) b16A40 HT_ ?_
      refine pI 12 (some 68) b16A41 HT_ ?_
      refine tI 6 (some 62) b16A42 HT_ HW_ hHeld rfl rfl (Or.inl ⟨by rfl, by rintro w' ⟨s0, s1, s2, s3, s4, s5, s6, s7, s8, s9, s10⟩; go_simp; with_reducible rfl⟩) ?_
      refine tI 13 (some 69) b16A43 HT_ HW_ hHeld rfl rfl (Or.inl ⟨by rfl, by rintro w' ⟨s0, s1, s2, s3, s4, s5, s6, s7, s8, s9, s10⟩; go_simp; with_reducible rfl⟩) ?_
      refine one_ (i := 8) (N := some 64) b16A14 rfl rfl (one_of HT_.o (by kernel_rfl)) (by decide) (fun K hK => ?_)
      refine goes_ Try.func56 (by kernel_rfl) rfl #[.agg #[.int .i64 ((rd_T87 t670 t692).f0), .int .i64 ((rd_T87 t670 t692).f1), .slice A693_2 ((rd_T87 t670 t692).f2).length c693_2, .int .i64 ((rd_T87 t670 t692).f3), .int .i64 ((rd_T87 t670 t692).f4), .slice A693_5 ((rd_T87 t670 t692).f5).length c693_5, .int .i64 ((rd_T87 t670 t692).f6.f0), .int .i64 ((rd_T87 t670 t692).f6.f1)], .slice Ao12 t673.length co12] (by rfl) rfl rfl M0 ?_
      with_reducible refine (impl_Candidates.calls k2 ((rd_T87 t670 t692).f0) ((rd_T87 t670 t692).f1) _ _ ((rd_T87 t670 t692).f2) ((rd_T87 t670 t692).f3) ((rd_T87 t670 t692).f4) _ _ ((rd_T87 t670 t692).f5) ((rd_T87 t670 t692).f6.f0) ((rd_T87 t670 t692).f6.f1) _ _ t673 t694 _ ?side1 ?side2 ?side3 ?side4 ?side5 ?side6 A35.o).mono ?_
      (case side1 => repeat (first | exact M20 | (with_reducible refine Kd.CA ?_ _) | (with_reducible refine Kd.CN ?_ _) | (with_reducible refine Kd.CD ?_)))
      (case side2 => exact HC693_2.o)
      (case side3 => repeat (first | exact M21 | (with_reducible refine Kd.CA ?_ _) | (with_reducible refine Kd.CN ?_ _) | (with_reducible refine Kd.CD ?_)))
      (case side4 => exact HC693_5.o)
      (case side5 => exact Kd.qC (Kd.R_reads' HO_5.o).2.2)
      (case side6 => exact (Kd.R_reads' HO_5.o).2.1)
      rintro e w57 ⟨v695, rfl, ho0, hb⟩
      have HS0_ := (hb.cell (World.block_lt_of_cell? _ _ (hHeld.1))).trans (hHeld.1)
      have HS1_ := (hb.cell (World.block_lt_of_cell? _ _ (hHeld.2.1))).trans (hHeld.2.1)
      have HS2_ := (hb.cell (World.block_lt_of_cell? _ _ (hHeld.2.2.1))).trans (hHeld.2.2.1)
      have HS3_ := (hb.cell (World.block_lt_of_cell? _ _ (hHeld.2.2.2.1))).trans (hHeld.2.2.2.1)
      have HS4_ := (hb.cell (World.block_lt_of_cell? _ _ (hHeld.2.2.2.2.1))).trans (hHeld.2.2.2.2.1)
      have HS5_ := (hb.cell (World.block_lt_of_cell? _ _ (hHeld.2.2.2.2.2.1))).trans (hHeld.2.2.2.2.2.1)
      have HS6_ := (hb.cell (World.block_lt_of_cell? _ _ (hHeld.2.2.2.2.2.2.1))).trans (hHeld.2.2.2.2.2.2.1)
      have HS7_ := (hb.cell (World.block_lt_of_cell? _ _ (hHeld.2.2.2.2.2.2.2.1))).trans (hHeld.2.2.2.2.2.2.2.1)
      have HS8_ := (hb.cell (World.block_lt_of_cell? _ _ (hHeld.2.2.2.2.2.2.2.2.1))).trans (hHeld.2.2.2.2.2.2.2.2.1)
      have HS9_ := (hb.cell (World.block_lt_of_cell? _ _ (hHeld.2.2.2.2.2.2.2.2.2.1))).trans (hHeld.2.2.2.2.2.2.2.2.2.1)
      have HS10_ := (hb.cell (World.block_lt_of_cell? _ _ (hHeld.2.2.2.2.2.2.2.2.2.2))).trans (hHeld.2.2.2.2.2.2.2.2.2.2)
      refine ⟨_, rfl, ?_⟩
      have n0_ := zK (Kd.N_elder' M13 (Kd.R_base ho0) hb)
      have n1_ := zK (Kd.R_below (Kd.qR HO_5.o) hb)
      have n2_ := zK (Kd.Q_below M8 hb)
      have n3_ := zK (Kd.V_elder' M44 (Kd.R_base ho0) hb)
      have n4_ := zK (Kd.V_elder' M45 (Kd.R_base ho0) hb)
      have n5_ := zK (Kd.R_lower ho0 (bZ (qB HB.o)))
      have n6_ := zK (Kd.C_below M20 hb)
      have n7_ := zK (Kd.C_below M21 hb)
      have n8_ := zK (bT (qB HB.o) hb)
      clear HO_4
      clear HO_5
      clear HO_7
      clear HL693_2
      clear HL693_5
      clear HR693_2
      clear HR693_5
      clear HB
      have HO_4 := n0_
      have HO_5 := n1_
      have HO_7 := n2_
      have HL693_2 := n3_
      have HL693_5 := n4_
      have HO696 := n5_
      have HR693_2 := n6_
      have HR693_5 := n7_
      have HB := n8_
      clear n0_ n1_ n2_ n3_ n4_ n5_ n6_ n7_ n8_
      (try clear hb)
      (try clear hb2)
      (try clear hk)
      (try clear hi)
      (try clear ho0)
      obtain ⟨Ao58, co58, eo58⟩ := Kd.R_slice HO696.o
      (first | subst eo58 | (injection eo58 with f1_ f2_ f3_; have f4_ := f1_.symm; have f5_ := f3_.symm; clear f1_ f2_ f3_; subst f4_; subst f5_))
      refine hK.out _ _ ⟨HS0_, HS1_, HS2_, HS3_, HS4_, HS5_, HS6_, HS7_, HS8_, HS9_, HS10_⟩ (fun hHeld => ?_)
      clear hK K
      refine norm_ (a' := ?_) ?_ ?_
      rotate_left
      ·show Act.put _ (some 64) _ = _
       simp only [Act.put, sA, sZ, sS, i64_w, i32_w]
       rfl
      refine one_ (i := 14) (N := some 70) b16A15 rfl rfl (one_of HT_.o (by kernel_rfl)) (by decide) (fun K hK => ?_)
      refine goes_ Try.func55 (by kernel_rfl) rfl #[.slice Ao58 t694.length co58, .int .i64 ((rd_T81 t677 x9_2).f1)] (by rfl) rfl rfl M0 ?_
      with_reducible refine (laws_contains.calls k2 _ _ t694 ((rd_T81 t677 x9_2).f1) false _ ?side1 ?side2 A36.o).mono ?_
      (case side1 => exact Kd.qC (Kd.R_reads' HO696.o).2.2)
      (case side2 => exact (Kd.R_reads' HO696.o).2.1)
      rintro e w' ⟨rfl, ⟨nd, rfl⟩⟩
      refine ⟨_, rfl, ?_⟩
      refine hK.out _ _ ⟨hHeld.1, hHeld.2.1, hHeld.2.2.1, hHeld.2.2.2.1, hHeld.2.2.2.2.1, hHeld.2.2.2.2.2.1, hHeld.2.2.2.2.2.2.1, hHeld.2.2.2.2.2.2.2.1, hHeld.2.2.2.2.2.2.2.2.1, hHeld.2.2.2.2.2.2.2.2.2.1, hHeld.2.2.2.2.2.2.2.2.2.2⟩ (fun hHeld => ?_)
      clear hK K
      refine norm_ (a' := ?_) ?_ ?_
      rotate_left
      ·show Act.put _ (some 70) _ = _
       simp only [Act.put, sA, sZ, sS, i64_w, i32_w]
       rfl
      refine pI 15 (some 71) b16A16 HT_ ?_
      refine pI 16 (some 72) b16A17 HT_ ?_
      refine pI 17 (some 73) b16A18 HT_ ?_
      refine pU 18 (some 74) b16A19 HT_ ?_
      refine pU 19 (some 75) b16A20 HT_ ?_
      refine pU 20 (some 76) b16A21 HT_ ?_
      refine pU 21 (some 77) b16A22 HT_ ?_
      refine pU 22 (some 78) b16A23 HT_ ?_
      refine pU 23 (some 79) b16A24 HT_ ?_
      refine pU 24 (some 80) b16A25 HT_ ?_
      refine pI 25 (some 81) b16A26 HT_ ?_
      refine pI 26 (some 82) b16A27 HT_ ?_
      refine pU 27 (some 83) b16A28 HT_ ?_
      refine pU 28 (some 84) b16A29 HT_ ?_
      refine pU 29 (some 85) b16A30 HT_ ?_
      refine pU 30 (some 86) b16A31 HT_ ?_
      refine pU 31 (some 87) b16A32 HT_ ?_
      refine pU 32 (some 88) b16A33 HT_ ?_
      refine pU 33 (some 89) b16A34 HT_ ?_
      refine pU 34 (some 90) b16A35 HT_ ?_
      refine pI 35 (some 91) b16A36 HT_ ?_
      refine done_ (done_of HT_.o (by kernel_rfl)) ?_
      try go_wp2
      go_ret
      exact ⟨by first | rfl | (simp [errW_none, errW_some] <;> rfl) | (simp [*, errW_none, errW_some] <;> rfl), by exact qB HB.o⟩
     subst c37
     have H1 : (if ((rd_T81 t677 x9_2).f2) = t676 then ((impl_CountLetters.f k2 t677 ((rd_T81 t677 x9_2).f0)).bind fun t701 => (if t701 = 1 then (laws_FnLetters.l0 k2 l0 t670 t673 t676 t677 (wrap64 (x9_2 + 1))) else (some false))) else (some false)) = some r := by rw [if_pos rfl] at H; exact H
     clear H
     have H := H1
     clear H1
     by_cases c38 : ((rd_T81 t677 x9_2).f2) = t676
     rotate_left
     ·rw [if_neg c38] at H
      have c38b0 : (((rd_T81 t677 x9_2).f2) == t676) = false := beq_eq_false_iff_ne.mpr c38
      have c38b1 : (((rd_T81 t677 x9_2).f2) != t676) = true := bne_iff_ne.mpr c38
      obtain rfl := Option.some.inj H
      have p691 : 0 ≤ (x9_2 : Int) := oD M3
      have q691 : x9_2 < (t677.length : Int) := oD M3
      obtain ⟨ad691, e691, hx691_0, hx691_1, hx691_2⟩ := at_T81 (Kd.Q_reads' HO_7.o).2.2 x9_2 p691 q691
      cases e691
      replace p691 := eq_true p691
      replace q691 := eq_true q691
      try go_wp2_with (first | ((with_reducible refine gate_callee (f := 54) rfl ?_); refine goesL_ (some 55) rfl rfl Try.func54 (by kernel_rfl) rfl #[.slice Ao11 t670.length co11, .int .i64 ((rd_T81 t677 x9_2).f0)] rfl M0 ?_; (with_reducible refine (impl_FindReport.calls _ _ t670 ((rd_T81 t677 x9_2).f0) t692 _ ?side1 ?side2 A29.o).mono ?_); (case side1 => repeat (first | exact (Kd.N_reads' HO_4.o).2.2 | (with_reducible refine Kd.CA ?_ _) | (with_reducible refine Kd.CN ?_ _) | (with_reducible refine Kd.CD ?_))); (case side2 => exact (Kd.N_reads' HO_4.o).2.1); rintro e w51 ⟨rfl, hb⟩; refine ⟨_, rfl, ?_⟩; have _ := zK (Kd.N_below M13 hb); have _ := zK (Kd.R_below (Kd.qR HO_5.o) hb); have _ := zK (Kd.Q_below M8 hb); have _ := zK (bT (qB HB.o) hb); clear HO_4 HO_5 HO_7 HB; rename_i HO_4 HO_5 HO_7 HB; (try clear hb); (try clear hb2); (try clear hk); (try clear hi)))
      have n0_ := zK (Kd.N_drew HO_4.o)
      have n1_ := zK (Kd.RD HO_5.o)
      have n2_ := zK (Kd.Q_drew HO_7.o)
      have n3_ := zK (below_drew1 HB.o)
      clear HO_4
      clear HO_5
      clear HO_7
      clear HB
      have HO_4 := n0_
      have HO_5 := n1_
      have HO_7 := n2_
      have HB := n3_
      clear n0_ n1_ n2_ n3_
      have p693 : 0 ≤ (t692 : Int) := oD M3
      have q693 : t692 < (t670.length : Int) := oD M3
      obtain ⟨ad693, A693_2, c693_2, A693_5, c693_5, e693, hx693_0, hx693_1, hx693_2, hx693_3, hx693_4, hx693_5, hx693_6, hx693_7, hl693_2, hi693_2, hl693_5, hi693_5⟩ := at_T87 (Kd.N_reads' HO_4.o).2.2 t692 p693 q693
      cases e693
      obtain ⟨ce693, hce693, hMe693, hcc693⟩ := Kd.N_get HO_4.o z87 t692 p693 (by first | exact q693 | exact oD M3 | (have e_ := (Kd.N_reads' HO_4.o).1; omega))
      obtain ⟨ua693_2, uc693_2, ua693_5, uc693_5, rfl, ul693_2, ge693_2, ul693_5, ge693_5⟩ := k87_openF hMe693
      have hv693_2 := hcc693 2 _ rfl
      rw [add_field _ _ 2 (by omega)] at hv693_2
      replace hv693_2 := Option.some.inj (hv693_2.symm.trans hx693_2)
      injection hv693_2 with hva_ hvn_ hvc_
      rw [hva_] at ge693_2
      rw [hvc_] at ul693_2
      have HL693_2 := zK (show Kd.V (Kd.int .i64) 3 _ w.heap.size _ _ ((rd_T87 t670 t692).f2) from Kd.V_mk ul693_2 ge693_2)
      clear hva_ hvn_ hvc_ ge693_2 ul693_2
      have hv693_5 := hcc693 5 _ rfl
      rw [add_field _ _ 5 (by omega)] at hv693_5
      replace hv693_5 := Option.some.inj (hv693_5.symm.trans hx693_5)
      injection hv693_5 with hva_ hvn_ hvc_
      rw [hva_] at ge693_5
      rw [hvc_] at ul693_5
      have HL693_5 := zK (show Kd.V (Kd.int .i64) 3 _ w.heap.size _ _ ((rd_T87 t670 t692).f5) from Kd.V_mk ul693_5 ge693_5)
      clear hva_ hvn_ hvc_ ge693_5 ul693_5
      clear hcc693 hce693
      have HR693_2 := zK hi693_2
      have HC693_2 := zK hl693_2
      clear hi693_2 hl693_2
      have HR693_5 := zK hi693_5
      have HC693_5 := zK hl693_5
      clear hi693_5 hl693_5
      replace p693 := eq_true p693
      replace q693 := eq_true q693
      have p697 : 0 ≤ (x9_2 : Int) := oD M3
      have q697 : x9_2 < (t677.length : Int) := oD M3
      obtain ⟨ad697, e697, hx697_0, hx697_1, hx697_2⟩ := at_T81 (Kd.Q_reads' HO_7.o).2.2 x9_2 p697 q697
      obtain rfl : ad691 = ad697 := (by injection e697)
      replace p697 := eq_true p697
      replace q697 := eq_true q697
      have p699 : 0 ≤ (x9_2 : Int) := oD M3
      have q699 : x9_2 < (t677.length : Int) := oD M3
      obtain ⟨ad699, e699, hx699_0, hx699_1, hx699_2⟩ := at_T81 (Kd.Q_reads' HO_7.o).2.2 x9_2 p699 q699
      obtain rfl : ad691 = ad699 := (by injection e699)
      replace p699 := eq_true p699
      replace q699 := eq_true q699
      refine start_ (n := 36) (S := fun w' => w'.cell? (ad693.add ((t692).toNat * 8)) = some (.int .i64 ((rd_T87 t670 t692).f0)) ∧ w'.cell? ⟨(ad693.add ((t692).toNat * 8)).block, (ad693.add ((t692).toNat * 8)).off + 1, none⟩ = some (.int .i64 ((rd_T87 t670 t692).f1)) ∧ w'.cell? ⟨(ad693.add ((t692).toNat * 8)).block, (ad693.add ((t692).toNat * 8)).off + 2, none⟩ = some (.slice A693_2 ((rd_T87 t670 t692).f2).length c693_2) ∧ w'.cell? ⟨(ad693.add ((t692).toNat * 8)).block, (ad693.add ((t692).toNat * 8)).off + 3, none⟩ = some (.int .i64 ((rd_T87 t670 t692).f3)) ∧ w'.cell? ⟨(ad693.add ((t692).toNat * 8)).block, (ad693.add ((t692).toNat * 8)).off + 4, none⟩ = some (.int .i64 ((rd_T87 t670 t692).f4)) ∧ w'.cell? ⟨(ad693.add ((t692).toNat * 8)).block, (ad693.add ((t692).toNat * 8)).off + 5, none⟩ = some (.slice A693_5 ((rd_T87 t670 t692).f5).length c693_5) ∧ w'.cell? ⟨(ad693.add ((t692).toNat * 8)).block, (ad693.add ((t692).toNat * 8)).off + 6, none⟩ = some (.int .i64 ((rd_T87 t670 t692).f6.f0)) ∧ w'.cell? ⟨(ad693.add ((t692).toNat * 8)).block, (ad693.add ((t692).toNat * 8)).off + 7, none⟩ = some (.int .i64 ((rd_T87 t670 t692).f6.f1)) ∧ w'.cell? (ad691.add ((x9_2).toNat * 3)) = some (.int .i64 ((rd_T81 t677 x9_2).f0)) ∧ w'.cell? ⟨(ad691.add ((x9_2).toNat * 3)).block, (ad691.add ((x9_2).toNat * 3)).off + 1, none⟩ = some (.int .i64 ((rd_T81 t677 x9_2).f1)) ∧ w'.cell? ⟨(ad691.add ((x9_2).toNat * 3)).block, (ad691.add ((x9_2).toNat * 3)).off + 2, none⟩ = some (.int .i64 ((rd_T81 t677 x9_2).f2)) ∧ w'.cell? (ad691.add ((x9_2).toNat * 3)) = some (.int .i64 ((rd_T81 t677 x9_2).f0)) ∧ w'.cell? ⟨(ad691.add ((x9_2).toNat * 3)).block, (ad691.add ((x9_2).toNat * 3)).off + 1, none⟩ = some (.int .i64 ((rd_T81 t677 x9_2).f1)) ∧ w'.cell? ⟨(ad691.add ((x9_2).toNat * 3)).block, (ad691.add ((x9_2).toNat * 3)).off + 2, none⟩ = some (.int .i64 ((rd_T81 t677 x9_2).f2))) (ds := []) b16A0 (by kernel_rfl) rfl rfl ⟨hx693_0, hx693_1, hx693_2, hx693_3, hx693_4, hx693_5, hx693_6, hx693_7, hx697_0, hx697_1, hx697_2, hx699_0, hx699_1, hx699_2⟩ (fun hHeld => ?_); refine with_tabW laws_FnLetters.tab12 laws_FnLetters.bits12 (fun HT_ HW_ => ?_)
      generalize w51.drew = w52 at HO_4 HO_5 HO_7 HB HL693_2 HL693_5 HR693_2 HR693_5 hx693_0 hx693_1 hx693_2 hx693_3 hx693_4 hx693_5 hx693_6 hx693_7 hx697_0 hx697_1 hx697_2 hx699_0 hx699_1 hx699_2 hHeld ⊢
      refine pI 0 (some 56) b16A1 HT_ ?_
      refine pI 1 (some 57) b16A2 HT_ ?_
      refine pI 2 (some 58) b16A3 HT_ ?_
      refine pI 3 (some 59) b16A4 HT_ ?_
      refine pI 4 (some 60) b16A5 HT_ ?_
      refine pI 5 (some 61) b16A6 HT_ ?_
      refine pI 7 (some 63) b16A37 HT_ ?_
      refine pI 9 (some 65) b16A38 HT_ ?_
      refine pI 10 (some 66) b16A39 HT_ ?_
      refine pI 11 (some 67) b16A40 HT_ ?_
      refine pI 12 (some 68) b16A41 HT_ ?_
      refine tI 6 (some 62) b16A42 HT_ HW_ hHeld rfl rfl (Or.inl ⟨by rfl, by rintro w' ⟨s0, s1, s2, s3, s4, s5, s6, s7, s8, s9, s10, s11, s12, s13⟩; go_simp; with_reducible rfl⟩) ?_
      refine tI 13 (some 69) b16A43 HT_ HW_ hHeld rfl rfl (Or.inl ⟨by rfl, by rintro w' ⟨s0, s1, s2, s3, s4, s5, s6, s7, s8, s9, s10, s11, s12, s13⟩; go_simp; with_reducible rfl⟩) ?_
      refine one_ (i := 8) (N := some 64) b16A14 rfl rfl (one_of HT_.o (by kernel_rfl)) (by decide) (fun K hK => ?_)
      refine goes_ Try.func56 (by kernel_rfl) rfl #[.agg #[.int .i64 ((rd_T87 t670 t692).f0), .int .i64 ((rd_T87 t670 t692).f1), .slice A693_2 ((rd_T87 t670 t692).f2).length c693_2, .int .i64 ((rd_T87 t670 t692).f3), .int .i64 ((rd_T87 t670 t692).f4), .slice A693_5 ((rd_T87 t670 t692).f5).length c693_5, .int .i64 ((rd_T87 t670 t692).f6.f0), .int .i64 ((rd_T87 t670 t692).f6.f1)], .slice Ao12 t673.length co12] (by rfl) rfl rfl M0 ?_
      with_reducible refine (impl_Candidates.calls k2 ((rd_T87 t670 t692).f0) ((rd_T87 t670 t692).f1) _ _ ((rd_T87 t670 t692).f2) ((rd_T87 t670 t692).f3) ((rd_T87 t670 t692).f4) _ _ ((rd_T87 t670 t692).f5) ((rd_T87 t670 t692).f6.f0) ((rd_T87 t670 t692).f6.f1) _ _ t673 t694 _ ?side1 ?side2 ?side3 ?side4 ?side5 ?side6 A35.o).mono ?_
      (case side1 => repeat (first | exact M20 | (with_reducible refine Kd.CA ?_ _) | (with_reducible refine Kd.CN ?_ _) | (with_reducible refine Kd.CD ?_)))
      (case side2 => exact HC693_2.o)
      (case side3 => repeat (first | exact M21 | (with_reducible refine Kd.CA ?_ _) | (with_reducible refine Kd.CN ?_ _) | (with_reducible refine Kd.CD ?_)))
      (case side4 => exact HC693_5.o)
      (case side5 => exact Kd.qC (Kd.R_reads' HO_5.o).2.2)
      (case side6 => exact (Kd.R_reads' HO_5.o).2.1)
      rintro e w53 ⟨v695, rfl, ho0, hb⟩
      have HS0_ := (hb.cell (World.block_lt_of_cell? _ _ (hHeld.1))).trans (hHeld.1)
      have HS1_ := (hb.cell (World.block_lt_of_cell? _ _ (hHeld.2.1))).trans (hHeld.2.1)
      have HS2_ := (hb.cell (World.block_lt_of_cell? _ _ (hHeld.2.2.1))).trans (hHeld.2.2.1)
      have HS3_ := (hb.cell (World.block_lt_of_cell? _ _ (hHeld.2.2.2.1))).trans (hHeld.2.2.2.1)
      have HS4_ := (hb.cell (World.block_lt_of_cell? _ _ (hHeld.2.2.2.2.1))).trans (hHeld.2.2.2.2.1)
      have HS5_ := (hb.cell (World.block_lt_of_cell? _ _ (hHeld.2.2.2.2.2.1))).trans (hHeld.2.2.2.2.2.1)
      have HS6_ := (hb.cell (World.block_lt_of_cell? _ _ (hHeld.2.2.2.2.2.2.1))).trans (hHeld.2.2.2.2.2.2.1)
      have HS7_ := (hb.cell (World.block_lt_of_cell? _ _ (hHeld.2.2.2.2.2.2.2.1))).trans (hHeld.2.2.2.2.2.2.2.1)
      have HS8_ := (hb.cell (World.block_lt_of_cell? _ _ (hHeld.2.2.2.2.2.2.2.2.1))).trans (hHeld.2.2.2.2.2.2.2.2.1)
      have HS9_ := (hb.cell (World.block_lt_of_cell? _ _ (hHeld.2.2.2.2.2.2.2.2.2.1))).trans (hHeld.2.2.2.2.2.2.2.2.2.1)
      have HS10_ := (hb.cell (World.block_lt_of_cell? _ _ (hHeld.2.2.2.2.2.2.2.2.2.2.1))).trans (hHeld.2.2.2.2.2.2.2.2.2.2.1)
      have HS11_ := (hb.cell (World.block_lt_of_cell? _ _ (hHeld.2.2.2.2.2.2.2.2.2.2.2.1))).trans (hHeld.2.2.2.2.2.2.2.2.2.2.2.1)
      have HS12_ := (hb.cell (World.block_lt_of_cell? _ _ (hHeld.2.2.2.2.2.2.2.2.2.2.2.2.1))).trans (hHeld.2.2.2.2.2.2.2.2.2.2.2.2.1)
      have HS13_ := (hb.cell (World.block_lt_of_cell? _ _ (hHeld.2.2.2.2.2.2.2.2.2.2.2.2.2))).trans (hHeld.2.2.2.2.2.2.2.2.2.2.2.2.2)
      refine ⟨_, rfl, ?_⟩
      have n0_ := zK (Kd.N_elder' M13 (Kd.R_base ho0) hb)
      have n1_ := zK (Kd.R_below (Kd.qR HO_5.o) hb)
      have n2_ := zK (Kd.Q_below M8 hb)
      have n3_ := zK (Kd.V_elder' M44 (Kd.R_base ho0) hb)
      have n4_ := zK (Kd.V_elder' M45 (Kd.R_base ho0) hb)
      have n5_ := zK (Kd.R_lower ho0 (bZ (qB HB.o)))
      have n6_ := zK (Kd.C_below M20 hb)
      have n7_ := zK (Kd.C_below M21 hb)
      have n8_ := zK (bT (qB HB.o) hb)
      clear HO_4
      clear HO_5
      clear HO_7
      clear HL693_2
      clear HL693_5
      clear HR693_2
      clear HR693_5
      clear HB
      have HO_4 := n0_
      have HO_5 := n1_
      have HO_7 := n2_
      have HL693_2 := n3_
      have HL693_5 := n4_
      have HO696 := n5_
      have HR693_2 := n6_
      have HR693_5 := n7_
      have HB := n8_
      clear n0_ n1_ n2_ n3_ n4_ n5_ n6_ n7_ n8_
      (try clear hb)
      (try clear hb2)
      (try clear hk)
      (try clear hi)
      (try clear ho0)
      obtain ⟨Ao54, co54, eo54⟩ := Kd.R_slice HO696.o
      (first | subst eo54 | (injection eo54 with f1_ f2_ f3_; have f4_ := f1_.symm; have f5_ := f3_.symm; clear f1_ f2_ f3_; subst f4_; subst f5_))
      refine hK.out _ _ ⟨HS0_, HS1_, HS2_, HS3_, HS4_, HS5_, HS6_, HS7_, HS8_, HS9_, HS10_, HS11_, HS12_, HS13_⟩ (fun hHeld => ?_)
      clear hK K
      refine norm_ (a' := ?_) ?_ ?_
      rotate_left
      ·show Act.put _ (some 64) _ = _
       simp only [Act.put, sA, sZ, sS, i64_w, i32_w]
       rfl
      refine one_ (i := 14) (N := some 70) b16A15 rfl rfl (one_of HT_.o (by kernel_rfl)) (by decide) (fun K hK => ?_)
      refine goes_ Try.func55 (by kernel_rfl) rfl #[.slice Ao54 t694.length co54, .int .i64 ((rd_T81 t677 x9_2).f1)] (by rfl) rfl rfl M0 ?_
      with_reducible refine (laws_contains.calls k2 _ _ t694 ((rd_T81 t677 x9_2).f1) true _ ?side1 ?side2 A36.o).mono ?_
      (case side1 => exact Kd.qC (Kd.R_reads' HO696.o).2.2)
      (case side2 => exact (Kd.R_reads' HO696.o).2.1)
      rintro e w' ⟨rfl, ⟨nd, rfl⟩⟩
      refine ⟨_, rfl, ?_⟩
      refine hK.out _ _ ⟨hHeld.1, hHeld.2.1, hHeld.2.2.1, hHeld.2.2.2.1, hHeld.2.2.2.2.1, hHeld.2.2.2.2.2.1, hHeld.2.2.2.2.2.2.1, hHeld.2.2.2.2.2.2.2.1, hHeld.2.2.2.2.2.2.2.2.1, hHeld.2.2.2.2.2.2.2.2.2.1, hHeld.2.2.2.2.2.2.2.2.2.2.1, hHeld.2.2.2.2.2.2.2.2.2.2.2.1, hHeld.2.2.2.2.2.2.2.2.2.2.2.2.1, hHeld.2.2.2.2.2.2.2.2.2.2.2.2.2⟩ (fun hHeld => ?_)
      clear hK K
      refine norm_ (a' := ?_) ?_ ?_
      rotate_left
      ·show Act.put _ (some 70) _ = _
       simp only [Act.put, sA, sZ, sS, i64_w, i32_w]
       rfl
      refine pI 15 (some 71) b16A16 HT_ ?_
      refine pI 16 (some 72) b16A17 HT_ ?_
      refine pI 17 (some 73) b16A18 HT_ ?_
      refine pI 18 (some 74) b16A19 HT_ ?_
      refine pI 19 (some 75) b16A20 HT_ ?_
      refine pI 20 (some 76) b16A21 HT_ ?_
      refine pI 21 (some 77) b16A22 HT_ ?_
      refine pI 23 (some 79) b16A44 HT_ ?_
      refine tI 22 (some 78) b16A24 HT_ HW_ hHeld rfl rfl (Or.inl ⟨by rfl, by rintro w' ⟨s0, s1, s2, s3, s4, s5, s6, s7, s8, s9, s10, s11, s12, s13⟩; go_simp; with_reducible rfl⟩) ?_
      refine pI 24 (some 80) b16A25 HT_ ?_
      refine pI 25 (some 81) b16A26 HT_ ?_
      refine pI 26 (some 82) b16A27 HT_ ?_
      refine pU 27 (some 83) b16A28 HT_ ?_
      refine pU 28 (some 84) b16A29 HT_ ?_
      refine pU 29 (some 85) b16A30 HT_ ?_
      refine pU 30 (some 86) b16A31 HT_ ?_
      refine pU 31 (some 87) b16A32 HT_ ?_
      refine pU 32 (some 88) b16A33 HT_ ?_
      refine pU 33 (some 89) b16A34 HT_ ?_
      refine pU 34 (some 90) b16A35 HT_ ?_
      refine pI 35 (some 91) b16A36 HT_ ?_
      refine done_ (done_of HT_.o (by kernel_rfl)) ?_
      try go_wp2
      go_ret
      exact ⟨by first | rfl | (simp [errW_none, errW_some] <;> rfl) | (simp [*, errW_none, errW_some] <;> rfl), by exact qB HB.o⟩
     rw [if_pos c38] at H
     have c38b0 : (((rd_T81 t677 x9_2).f2) == t676) = true := beq_iff_eq.mpr c38
     have c38b1 : (((rd_T81 t677 x9_2).f2) != t676) = false := bne_eq_false_iff_eq.mpr c38
     clear c38
     replace H := Option.bind_eq_some_iff.mp H
     obtain ⟨t701, A390, H⟩ := H
     try dsimp only at H
     have A39 := zK A390
     clear A390
     by_cases c40 : t701 = 1
     rotate_left
     ·rw [if_neg c40] at H
      have c40b0 : (t701 == 1) = false := beq_eq_false_iff_ne.mpr c40
      have c40b1 : (t701 != 1) = true := bne_iff_ne.mpr c40
      obtain rfl := Option.some.inj H
      have p691 : 0 ≤ (x9_2 : Int) := oD M3
      have q691 : x9_2 < (t677.length : Int) := oD M3
      obtain ⟨ad691, e691, hx691_0, hx691_1, hx691_2⟩ := at_T81 (Kd.Q_reads' HO_7.o).2.2 x9_2 p691 q691
      cases e691
      replace p691 := eq_true p691
      replace q691 := eq_true q691
      try go_wp2_with (first | ((with_reducible refine gate_callee (f := 54) rfl ?_); refine goesL_ (some 55) rfl rfl Try.func54 (by kernel_rfl) rfl #[.slice Ao11 t670.length co11, .int .i64 ((rd_T81 t677 x9_2).f0)] rfl M0 ?_; (with_reducible refine (impl_FindReport.calls _ _ t670 ((rd_T81 t677 x9_2).f0) t692 _ ?side1 ?side2 A29.o).mono ?_); (case side1 => repeat (first | exact (Kd.N_reads' HO_4.o).2.2 | (with_reducible refine Kd.CA ?_ _) | (with_reducible refine Kd.CN ?_ _) | (with_reducible refine Kd.CD ?_))); (case side2 => exact (Kd.N_reads' HO_4.o).2.1); rintro e w46 ⟨rfl, hb⟩; refine ⟨_, rfl, ?_⟩; have _ := zK (Kd.N_below M13 hb); have _ := zK (Kd.R_below (Kd.qR HO_5.o) hb); have _ := zK (Kd.Q_below M8 hb); have _ := zK (bT (qB HB.o) hb); clear HO_4 HO_5 HO_7 HB; rename_i HO_4 HO_5 HO_7 HB; (try clear hb); (try clear hb2); (try clear hk); (try clear hi)))
      have n0_ := zK (Kd.N_drew HO_4.o)
      have n1_ := zK (Kd.RD HO_5.o)
      have n2_ := zK (Kd.Q_drew HO_7.o)
      have n3_ := zK (below_drew1 HB.o)
      clear HO_4
      clear HO_5
      clear HO_7
      clear HB
      have HO_4 := n0_
      have HO_5 := n1_
      have HO_7 := n2_
      have HB := n3_
      clear n0_ n1_ n2_ n3_
      have p693 : 0 ≤ (t692 : Int) := oD M3
      have q693 : t692 < (t670.length : Int) := oD M3
      obtain ⟨ad693, A693_2, c693_2, A693_5, c693_5, e693, hx693_0, hx693_1, hx693_2, hx693_3, hx693_4, hx693_5, hx693_6, hx693_7, hl693_2, hi693_2, hl693_5, hi693_5⟩ := at_T87 (Kd.N_reads' HO_4.o).2.2 t692 p693 q693
      cases e693
      obtain ⟨ce693, hce693, hMe693, hcc693⟩ := Kd.N_get HO_4.o z87 t692 p693 (by first | exact q693 | exact oD M3 | (have e_ := (Kd.N_reads' HO_4.o).1; omega))
      obtain ⟨ua693_2, uc693_2, ua693_5, uc693_5, rfl, ul693_2, ge693_2, ul693_5, ge693_5⟩ := k87_openF hMe693
      have hv693_2 := hcc693 2 _ rfl
      rw [add_field _ _ 2 (by omega)] at hv693_2
      replace hv693_2 := Option.some.inj (hv693_2.symm.trans hx693_2)
      injection hv693_2 with hva_ hvn_ hvc_
      rw [hva_] at ge693_2
      rw [hvc_] at ul693_2
      have HL693_2 := zK (show Kd.V (Kd.int .i64) 3 _ w.heap.size _ _ ((rd_T87 t670 t692).f2) from Kd.V_mk ul693_2 ge693_2)
      clear hva_ hvn_ hvc_ ge693_2 ul693_2
      have hv693_5 := hcc693 5 _ rfl
      rw [add_field _ _ 5 (by omega)] at hv693_5
      replace hv693_5 := Option.some.inj (hv693_5.symm.trans hx693_5)
      injection hv693_5 with hva_ hvn_ hvc_
      rw [hva_] at ge693_5
      rw [hvc_] at ul693_5
      have HL693_5 := zK (show Kd.V (Kd.int .i64) 3 _ w.heap.size _ _ ((rd_T87 t670 t692).f5) from Kd.V_mk ul693_5 ge693_5)
      clear hva_ hvn_ hvc_ ge693_5 ul693_5
      clear hcc693 hce693
      have HR693_2 := zK hi693_2
      have HC693_2 := zK hl693_2
      clear hi693_2 hl693_2
      have HR693_5 := zK hi693_5
      have HC693_5 := zK hl693_5
      clear hi693_5 hl693_5
      replace p693 := eq_true p693
      replace q693 := eq_true q693
      have p697 : 0 ≤ (x9_2 : Int) := oD M3
      have q697 : x9_2 < (t677.length : Int) := oD M3
      obtain ⟨ad697, e697, hx697_0, hx697_1, hx697_2⟩ := at_T81 (Kd.Q_reads' HO_7.o).2.2 x9_2 p697 q697
      obtain rfl : ad691 = ad697 := (by injection e697)
      replace p697 := eq_true p697
      replace q697 := eq_true q697
      have p699 : 0 ≤ (x9_2 : Int) := oD M3
      have q699 : x9_2 < (t677.length : Int) := oD M3
      obtain ⟨ad699, e699, hx699_0, hx699_1, hx699_2⟩ := at_T81 (Kd.Q_reads' HO_7.o).2.2 x9_2 p699 q699
      obtain rfl : ad691 = ad699 := (by injection e699)
      replace p699 := eq_true p699
      replace q699 := eq_true q699
      have p700 : 0 ≤ (x9_2 : Int) := oD M3
      have q700 : x9_2 < (t677.length : Int) := oD M3
      obtain ⟨ad700, e700, hx700_0, hx700_1, hx700_2⟩ := at_T81 (Kd.Q_reads' HO_7.o).2.2 x9_2 p700 q700
      obtain rfl : ad691 = ad700 := (by injection e700)
      replace p700 := eq_true p700
      replace q700 := eq_true q700
      refine start_ (n := 36) (S := fun w' => w'.cell? (ad693.add ((t692).toNat * 8)) = some (.int .i64 ((rd_T87 t670 t692).f0)) ∧ w'.cell? ⟨(ad693.add ((t692).toNat * 8)).block, (ad693.add ((t692).toNat * 8)).off + 1, none⟩ = some (.int .i64 ((rd_T87 t670 t692).f1)) ∧ w'.cell? ⟨(ad693.add ((t692).toNat * 8)).block, (ad693.add ((t692).toNat * 8)).off + 2, none⟩ = some (.slice A693_2 ((rd_T87 t670 t692).f2).length c693_2) ∧ w'.cell? ⟨(ad693.add ((t692).toNat * 8)).block, (ad693.add ((t692).toNat * 8)).off + 3, none⟩ = some (.int .i64 ((rd_T87 t670 t692).f3)) ∧ w'.cell? ⟨(ad693.add ((t692).toNat * 8)).block, (ad693.add ((t692).toNat * 8)).off + 4, none⟩ = some (.int .i64 ((rd_T87 t670 t692).f4)) ∧ w'.cell? ⟨(ad693.add ((t692).toNat * 8)).block, (ad693.add ((t692).toNat * 8)).off + 5, none⟩ = some (.slice A693_5 ((rd_T87 t670 t692).f5).length c693_5) ∧ w'.cell? ⟨(ad693.add ((t692).toNat * 8)).block, (ad693.add ((t692).toNat * 8)).off + 6, none⟩ = some (.int .i64 ((rd_T87 t670 t692).f6.f0)) ∧ w'.cell? ⟨(ad693.add ((t692).toNat * 8)).block, (ad693.add ((t692).toNat * 8)).off + 7, none⟩ = some (.int .i64 ((rd_T87 t670 t692).f6.f1)) ∧ w'.cell? (ad691.add ((x9_2).toNat * 3)) = some (.int .i64 ((rd_T81 t677 x9_2).f0)) ∧ w'.cell? ⟨(ad691.add ((x9_2).toNat * 3)).block, (ad691.add ((x9_2).toNat * 3)).off + 1, none⟩ = some (.int .i64 ((rd_T81 t677 x9_2).f1)) ∧ w'.cell? ⟨(ad691.add ((x9_2).toNat * 3)).block, (ad691.add ((x9_2).toNat * 3)).off + 2, none⟩ = some (.int .i64 ((rd_T81 t677 x9_2).f2)) ∧ w'.cell? (ad691.add ((x9_2).toNat * 3)) = some (.int .i64 ((rd_T81 t677 x9_2).f0)) ∧ w'.cell? ⟨(ad691.add ((x9_2).toNat * 3)).block, (ad691.add ((x9_2).toNat * 3)).off + 1, none⟩ = some (.int .i64 ((rd_T81 t677 x9_2).f1)) ∧ w'.cell? ⟨(ad691.add ((x9_2).toNat * 3)).block, (ad691.add ((x9_2).toNat * 3)).off + 2, none⟩ = some (.int .i64 ((rd_T81 t677 x9_2).f2)) ∧ w'.cell? (ad691.add ((x9_2).toNat * 3)) = some (.int .i64 ((rd_T81 t677 x9_2).f0)) ∧ w'.cell? ⟨(ad691.add ((x9_2).toNat * 3)).block, (ad691.add ((x9_2).toNat * 3)).off + 1, none⟩ = some (.int .i64 ((rd_T81 t677 x9_2).f1)) ∧ w'.cell? ⟨(ad691.add ((x9_2).toNat * 3)).block, (ad691.add ((x9_2).toNat * 3)).off + 2, none⟩ = some (.int .i64 ((rd_T81 t677 x9_2).f2))) (ds := []) b16A0 (by kernel_rfl) rfl rfl ⟨hx693_0, hx693_1, hx693_2, hx693_3, hx693_4, hx693_5, hx693_6, hx693_7, hx697_0, hx697_1, hx697_2, hx699_0, hx699_1, hx699_2, hx700_0, hx700_1, hx700_2⟩ (fun hHeld => ?_); refine with_tabW laws_FnLetters.tab12 laws_FnLetters.bits12 (fun HT_ HW_ => ?_)
      generalize w46.drew = w47 at HO_4 HO_5 HO_7 HB HL693_2 HL693_5 HR693_2 HR693_5 hx693_0 hx693_1 hx693_2 hx693_3 hx693_4 hx693_5 hx693_6 hx693_7 hx697_0 hx697_1 hx697_2 hx699_0 hx699_1 hx699_2 hx700_0 hx700_1 hx700_2 hHeld ⊢
      refine pI 0 (some 56) b16A1 HT_ ?_
      refine pI 1 (some 57) b16A2 HT_ ?_
      refine pI 2 (some 58) b16A3 HT_ ?_
      refine pI 3 (some 59) b16A4 HT_ ?_
      refine pI 4 (some 60) b16A5 HT_ ?_
      refine pI 5 (some 61) b16A6 HT_ ?_
      refine pI 7 (some 63) b16A37 HT_ ?_
      refine pI 9 (some 65) b16A38 HT_ ?_
      refine pI 10 (some 66) b16A39 HT_ ?_
      refine pI 11 (some 67) b16A40 HT_ ?_
      refine pI 12 (some 68) b16A41 HT_ ?_
      refine tI 6 (some 62) b16A42 HT_ HW_ hHeld rfl rfl (Or.inl ⟨by rfl, by rintro w' ⟨s0, s1, s2, s3, s4, s5, s6, s7, s8, s9, s10, s11, s12, s13, s14, s15, s16⟩; go_simp; with_reducible rfl⟩) ?_
      refine tI 13 (some 69) b16A43 HT_ HW_ hHeld rfl rfl (Or.inl ⟨by rfl, by rintro w' ⟨s0, s1, s2, s3, s4, s5, s6, s7, s8, s9, s10, s11, s12, s13, s14, s15, s16⟩; go_simp; with_reducible rfl⟩) ?_
      refine one_ (i := 8) (N := some 64) b16A14 rfl rfl (one_of HT_.o (by kernel_rfl)) (by decide) (fun K hK => ?_)
      refine goes_ Try.func56 (by kernel_rfl) rfl #[.agg #[.int .i64 ((rd_T87 t670 t692).f0), .int .i64 ((rd_T87 t670 t692).f1), .slice A693_2 ((rd_T87 t670 t692).f2).length c693_2, .int .i64 ((rd_T87 t670 t692).f3), .int .i64 ((rd_T87 t670 t692).f4), .slice A693_5 ((rd_T87 t670 t692).f5).length c693_5, .int .i64 ((rd_T87 t670 t692).f6.f0), .int .i64 ((rd_T87 t670 t692).f6.f1)], .slice Ao12 t673.length co12] (by rfl) rfl rfl M0 ?_
      with_reducible refine (impl_Candidates.calls k2 ((rd_T87 t670 t692).f0) ((rd_T87 t670 t692).f1) _ _ ((rd_T87 t670 t692).f2) ((rd_T87 t670 t692).f3) ((rd_T87 t670 t692).f4) _ _ ((rd_T87 t670 t692).f5) ((rd_T87 t670 t692).f6.f0) ((rd_T87 t670 t692).f6.f1) _ _ t673 t694 _ ?side1 ?side2 ?side3 ?side4 ?side5 ?side6 A35.o).mono ?_
      (case side1 => repeat (first | exact M20 | (with_reducible refine Kd.CA ?_ _) | (with_reducible refine Kd.CN ?_ _) | (with_reducible refine Kd.CD ?_)))
      (case side2 => exact HC693_2.o)
      (case side3 => repeat (first | exact M21 | (with_reducible refine Kd.CA ?_ _) | (with_reducible refine Kd.CN ?_ _) | (with_reducible refine Kd.CD ?_)))
      (case side4 => exact HC693_5.o)
      (case side5 => exact Kd.qC (Kd.R_reads' HO_5.o).2.2)
      (case side6 => exact (Kd.R_reads' HO_5.o).2.1)
      rintro e w48 ⟨v695, rfl, ho0, hb⟩
      have HS0_ := (hb.cell (World.block_lt_of_cell? _ _ (hHeld.1))).trans (hHeld.1)
      have HS1_ := (hb.cell (World.block_lt_of_cell? _ _ (hHeld.2.1))).trans (hHeld.2.1)
      have HS2_ := (hb.cell (World.block_lt_of_cell? _ _ (hHeld.2.2.1))).trans (hHeld.2.2.1)
      have HS3_ := (hb.cell (World.block_lt_of_cell? _ _ (hHeld.2.2.2.1))).trans (hHeld.2.2.2.1)
      have HS4_ := (hb.cell (World.block_lt_of_cell? _ _ (hHeld.2.2.2.2.1))).trans (hHeld.2.2.2.2.1)
      have HS5_ := (hb.cell (World.block_lt_of_cell? _ _ (hHeld.2.2.2.2.2.1))).trans (hHeld.2.2.2.2.2.1)
      have HS6_ := (hb.cell (World.block_lt_of_cell? _ _ (hHeld.2.2.2.2.2.2.1))).trans (hHeld.2.2.2.2.2.2.1)
      have HS7_ := (hb.cell (World.block_lt_of_cell? _ _ (hHeld.2.2.2.2.2.2.2.1))).trans (hHeld.2.2.2.2.2.2.2.1)
      have HS8_ := (hb.cell (World.block_lt_of_cell? _ _ (hHeld.2.2.2.2.2.2.2.2.1))).trans (hHeld.2.2.2.2.2.2.2.2.1)
      have HS9_ := (hb.cell (World.block_lt_of_cell? _ _ (hHeld.2.2.2.2.2.2.2.2.2.1))).trans (hHeld.2.2.2.2.2.2.2.2.2.1)
      have HS10_ := (hb.cell (World.block_lt_of_cell? _ _ (hHeld.2.2.2.2.2.2.2.2.2.2.1))).trans (hHeld.2.2.2.2.2.2.2.2.2.2.1)
      have HS11_ := (hb.cell (World.block_lt_of_cell? _ _ (hHeld.2.2.2.2.2.2.2.2.2.2.2.1))).trans (hHeld.2.2.2.2.2.2.2.2.2.2.2.1)
      have HS12_ := (hb.cell (World.block_lt_of_cell? _ _ (hHeld.2.2.2.2.2.2.2.2.2.2.2.2.1))).trans (hHeld.2.2.2.2.2.2.2.2.2.2.2.2.1)
      have HS13_ := (hb.cell (World.block_lt_of_cell? _ _ (hHeld.2.2.2.2.2.2.2.2.2.2.2.2.2.1))).trans (hHeld.2.2.2.2.2.2.2.2.2.2.2.2.2.1)
      have HS14_ := (hb.cell (World.block_lt_of_cell? _ _ (hHeld.2.2.2.2.2.2.2.2.2.2.2.2.2.2.1))).trans (hHeld.2.2.2.2.2.2.2.2.2.2.2.2.2.2.1)
      have HS15_ := (hb.cell (World.block_lt_of_cell? _ _ (hHeld.2.2.2.2.2.2.2.2.2.2.2.2.2.2.2.1))).trans (hHeld.2.2.2.2.2.2.2.2.2.2.2.2.2.2.2.1)
      have HS16_ := (hb.cell (World.block_lt_of_cell? _ _ (hHeld.2.2.2.2.2.2.2.2.2.2.2.2.2.2.2.2))).trans (hHeld.2.2.2.2.2.2.2.2.2.2.2.2.2.2.2.2)
      refine ⟨_, rfl, ?_⟩
      have n0_ := zK (Kd.N_elder' M13 (Kd.R_base ho0) hb)
      have n1_ := zK (Kd.R_below (Kd.qR HO_5.o) hb)
      have n2_ := zK (Kd.Q_below M8 hb)
      have n3_ := zK (Kd.V_elder' M44 (Kd.R_base ho0) hb)
      have n4_ := zK (Kd.V_elder' M45 (Kd.R_base ho0) hb)
      have n5_ := zK (Kd.R_lower ho0 (bZ (qB HB.o)))
      have n6_ := zK (Kd.C_below M20 hb)
      have n7_ := zK (Kd.C_below M21 hb)
      have n8_ := zK (bT (qB HB.o) hb)
      clear HO_4
      clear HO_5
      clear HO_7
      clear HL693_2
      clear HL693_5
      clear HR693_2
      clear HR693_5
      clear HB
      have HO_4 := n0_
      have HO_5 := n1_
      have HO_7 := n2_
      have HL693_2 := n3_
      have HL693_5 := n4_
      have HO696 := n5_
      have HR693_2 := n6_
      have HR693_5 := n7_
      have HB := n8_
      clear n0_ n1_ n2_ n3_ n4_ n5_ n6_ n7_ n8_
      (try clear hb)
      (try clear hb2)
      (try clear hk)
      (try clear hi)
      (try clear ho0)
      obtain ⟨Ao49, co49, eo49⟩ := Kd.R_slice HO696.o
      (first | subst eo49 | (injection eo49 with f1_ f2_ f3_; have f4_ := f1_.symm; have f5_ := f3_.symm; clear f1_ f2_ f3_; subst f4_; subst f5_))
      refine hK.out _ _ ⟨HS0_, HS1_, HS2_, HS3_, HS4_, HS5_, HS6_, HS7_, HS8_, HS9_, HS10_, HS11_, HS12_, HS13_, HS14_, HS15_, HS16_⟩ (fun hHeld => ?_)
      clear hK K
      refine norm_ (a' := ?_) ?_ ?_
      rotate_left
      ·show Act.put _ (some 64) _ = _
       simp only [Act.put, sA, sZ, sS, i64_w, i32_w]
       rfl
      refine one_ (i := 14) (N := some 70) b16A15 rfl rfl (one_of HT_.o (by kernel_rfl)) (by decide) (fun K hK => ?_)
      refine goes_ Try.func55 (by kernel_rfl) rfl #[.slice Ao49 t694.length co49, .int .i64 ((rd_T81 t677 x9_2).f1)] (by rfl) rfl rfl M0 ?_
      with_reducible refine (laws_contains.calls k2 _ _ t694 ((rd_T81 t677 x9_2).f1) true _ ?side1 ?side2 A36.o).mono ?_
      (case side1 => exact Kd.qC (Kd.R_reads' HO696.o).2.2)
      (case side2 => exact (Kd.R_reads' HO696.o).2.1)
      rintro e w' ⟨rfl, ⟨nd, rfl⟩⟩
      refine ⟨_, rfl, ?_⟩
      refine hK.out _ _ ⟨hHeld.1, hHeld.2.1, hHeld.2.2.1, hHeld.2.2.2.1, hHeld.2.2.2.2.1, hHeld.2.2.2.2.2.1, hHeld.2.2.2.2.2.2.1, hHeld.2.2.2.2.2.2.2.1, hHeld.2.2.2.2.2.2.2.2.1, hHeld.2.2.2.2.2.2.2.2.2.1, hHeld.2.2.2.2.2.2.2.2.2.2.1, hHeld.2.2.2.2.2.2.2.2.2.2.2.1, hHeld.2.2.2.2.2.2.2.2.2.2.2.2.1, hHeld.2.2.2.2.2.2.2.2.2.2.2.2.2.1, hHeld.2.2.2.2.2.2.2.2.2.2.2.2.2.2.1, hHeld.2.2.2.2.2.2.2.2.2.2.2.2.2.2.2.1, hHeld.2.2.2.2.2.2.2.2.2.2.2.2.2.2.2.2⟩ (fun hHeld => ?_)
      clear hK K
      refine norm_ (a' := ?_) ?_ ?_
      rotate_left
      ·show Act.put _ (some 70) _ = _
       simp only [Act.put, sA, sZ, sS, i64_w, i32_w]
       rfl
      refine pI 15 (some 71) b16A16 HT_ ?_
      refine pI 16 (some 72) b16A17 HT_ ?_
      refine pI 17 (some 73) b16A18 HT_ ?_
      refine pI 18 (some 74) b16A19 HT_ ?_
      refine pI 19 (some 75) b16A20 HT_ ?_
      refine pI 20 (some 76) b16A21 HT_ ?_
      refine pI 21 (some 77) b16A22 HT_ ?_
      refine pI 23 (some 79) b16A44 HT_ ?_
      refine tI 22 (some 78) b16A24 HT_ HW_ hHeld rfl rfl (Or.inl ⟨by rfl, by rintro w' ⟨s0, s1, s2, s3, s4, s5, s6, s7, s8, s9, s10, s11, s12, s13, s14, s15, s16⟩; go_simp; with_reducible rfl⟩) ?_
      refine pI 24 (some 80) b16A25 HT_ ?_
      refine pI 25 (some 81) b16A26 HT_ ?_
      refine pI 26 (some 82) b16A27 HT_ ?_
      refine pI 27 (some 83) b16A28 HT_ ?_
      refine pI 28 (some 84) b16A29 HT_ ?_
      refine pI 29 (some 85) b16A30 HT_ ?_
      refine pI 30 (some 86) b16A31 HT_ ?_
      refine pI 31 (some 87) b16A32 HT_ ?_
      refine tI 32 (some 88) b16A33 HT_ HW_ hHeld rfl rfl (Or.inl ⟨by rfl, by rintro w' ⟨s0, s1, s2, s3, s4, s5, s6, s7, s8, s9, s10, s11, s12, s13, s14, s15, s16⟩; go_simp; with_reducible rfl⟩) ?_
      refine one_ (i := 33) (N := some 89) b16A34 rfl rfl (one_of HT_.o (by kernel_rfl)) (by decide) (fun K hK => ?_)
      refine goes_ Try.func57 (by kernel_rfl) rfl #[.slice (some ad691) t677.length co18, .int .i64 ((rd_T81 t677 x9_2).f0)] (by rfl) rfl rfl M0 ?_
      with_reducible refine (impl_CountLetters.calls k2 _ _ t677 ((rd_T81 t677 x9_2).f0) t701 _ ?side1 ?side2 A39.o).mono ?_
      (case side1 => repeat (first | exact (Kd.Q_reads' HO_7.o).2.2 | (with_reducible refine Kd.CA ?_ _) | (with_reducible refine Kd.CN ?_ _) | (with_reducible refine Kd.CD ?_)))
      (case side2 => exact (Kd.Q_reads' HO_7.o).2.1)
      rintro e w50 ⟨rfl, hb⟩
      have HS0_ := (hb.cell (World.block_lt_of_cell? _ _ (hHeld.1))).trans (hHeld.1)
      have HS1_ := (hb.cell (World.block_lt_of_cell? _ _ (hHeld.2.1))).trans (hHeld.2.1)
      have HS2_ := (hb.cell (World.block_lt_of_cell? _ _ (hHeld.2.2.1))).trans (hHeld.2.2.1)
      have HS3_ := (hb.cell (World.block_lt_of_cell? _ _ (hHeld.2.2.2.1))).trans (hHeld.2.2.2.1)
      have HS4_ := (hb.cell (World.block_lt_of_cell? _ _ (hHeld.2.2.2.2.1))).trans (hHeld.2.2.2.2.1)
      have HS5_ := (hb.cell (World.block_lt_of_cell? _ _ (hHeld.2.2.2.2.2.1))).trans (hHeld.2.2.2.2.2.1)
      have HS6_ := (hb.cell (World.block_lt_of_cell? _ _ (hHeld.2.2.2.2.2.2.1))).trans (hHeld.2.2.2.2.2.2.1)
      have HS7_ := (hb.cell (World.block_lt_of_cell? _ _ (hHeld.2.2.2.2.2.2.2.1))).trans (hHeld.2.2.2.2.2.2.2.1)
      have HS8_ := (hb.cell (World.block_lt_of_cell? _ _ (hHeld.2.2.2.2.2.2.2.2.1))).trans (hHeld.2.2.2.2.2.2.2.2.1)
      have HS9_ := (hb.cell (World.block_lt_of_cell? _ _ (hHeld.2.2.2.2.2.2.2.2.2.1))).trans (hHeld.2.2.2.2.2.2.2.2.2.1)
      have HS10_ := (hb.cell (World.block_lt_of_cell? _ _ (hHeld.2.2.2.2.2.2.2.2.2.2.1))).trans (hHeld.2.2.2.2.2.2.2.2.2.2.1)
      have HS11_ := (hb.cell (World.block_lt_of_cell? _ _ (hHeld.2.2.2.2.2.2.2.2.2.2.2.1))).trans (hHeld.2.2.2.2.2.2.2.2.2.2.2.1)
      have HS12_ := (hb.cell (World.block_lt_of_cell? _ _ (hHeld.2.2.2.2.2.2.2.2.2.2.2.2.1))).trans (hHeld.2.2.2.2.2.2.2.2.2.2.2.2.1)
      have HS13_ := (hb.cell (World.block_lt_of_cell? _ _ (hHeld.2.2.2.2.2.2.2.2.2.2.2.2.2.1))).trans (hHeld.2.2.2.2.2.2.2.2.2.2.2.2.2.1)
      have HS14_ := (hb.cell (World.block_lt_of_cell? _ _ (hHeld.2.2.2.2.2.2.2.2.2.2.2.2.2.2.1))).trans (hHeld.2.2.2.2.2.2.2.2.2.2.2.2.2.2.1)
      have HS15_ := (hb.cell (World.block_lt_of_cell? _ _ (hHeld.2.2.2.2.2.2.2.2.2.2.2.2.2.2.2.1))).trans (hHeld.2.2.2.2.2.2.2.2.2.2.2.2.2.2.2.1)
      have HS16_ := (hb.cell (World.block_lt_of_cell? _ _ (hHeld.2.2.2.2.2.2.2.2.2.2.2.2.2.2.2.2))).trans (hHeld.2.2.2.2.2.2.2.2.2.2.2.2.2.2.2.2)
      refine ⟨_, rfl, ?_⟩
      have n0_ := zK (Kd.N_below M13 hb)
      have n1_ := zK (Kd.R_below (Kd.qR HO_5.o) hb)
      have n2_ := zK (Kd.Q_below M8 hb)
      have n3_ := zK (Kd.V_below M44 hb)
      have n4_ := zK (Kd.V_below M45 hb)
      have n5_ := zK (Kd.R_below (Kd.qR HO696.o) hb)
      have n6_ := zK (Kd.C_below (Kd.CN HR693_2.o nd) hb)
      have n7_ := zK (Kd.C_below (Kd.CN HR693_5.o nd) hb)
      have n8_ := zK (bT (qB HB.o) hb)
      clear HO_4
      clear HO_5
      clear HO_7
      clear HL693_2
      clear HL693_5
      clear HO696
      clear HR693_2
      clear HR693_5
      clear HB
      have HO_4 := n0_
      have HO_5 := n1_
      have HO_7 := n2_
      have HL693_2 := n3_
      have HL693_5 := n4_
      have HO696 := n5_
      have HR693_2 := n6_
      have HR693_5 := n7_
      have HB := n8_
      clear n0_ n1_ n2_ n3_ n4_ n5_ n6_ n7_ n8_
      (try clear hb)
      (try clear hb2)
      (try clear hk)
      (try clear hi)
      refine hK.out _ _ ⟨HS0_, HS1_, HS2_, HS3_, HS4_, HS5_, HS6_, HS7_, HS8_, HS9_, HS10_, HS11_, HS12_, HS13_, HS14_, HS15_, HS16_⟩ (fun hHeld => ?_)
      clear hK K
      refine norm_ (a' := ?_) ?_ ?_
      rotate_left
      ·show Act.put _ (some 89) _ = _
       simp only [Act.put, sA, sZ, sS, i64_w, i32_w]
       rfl
      refine pI 34 (some 90) b16A35 HT_ ?_
      refine pI 35 (some 91) b16A36 HT_ ?_
      refine done_ (done_of HT_.o (by kernel_rfl)) ?_
      try go_wp2
      go_ret
      exact ⟨by first | rfl | (simp [errW_none, errW_some] <;> rfl) | (simp [*, errW_none, errW_some] <;> rfl), by exact qB HB.o⟩
     rw [if_pos c40] at H
     have c40b0 : (t701 == 1) = true := beq_iff_eq.mpr c40
     have c40b1 : (t701 != 1) = false := bne_eq_false_iff_eq.mpr c40
     clear c40
     have H' := zK H
     clear H
     have p691 : 0 ≤ (x9_2 : Int) := oD M3
     have q691 : x9_2 < (t677.length : Int) := oD M3
     obtain ⟨ad691, e691, hx691_0, hx691_1, hx691_2⟩ := at_T81 (Kd.Q_reads' HO_7.o).2.2 x9_2 p691 q691
     cases e691
     replace p691 := eq_true p691
     replace q691 := eq_true q691
     try go_wp2_with (first | ((with_reducible refine gate_callee (f := 54) rfl ?_); refine goesL_ (some 55) rfl rfl Try.func54 (by kernel_rfl) rfl #[.slice Ao11 t670.length co11, .int .i64 ((rd_T81 t677 x9_2).f0)] rfl M0 ?_; (with_reducible refine (impl_FindReport.calls _ _ t670 ((rd_T81 t677 x9_2).f0) t692 _ ?side1 ?side2 A29.o).mono ?_); (case side1 => repeat (first | exact (Kd.N_reads' HO_4.o).2.2 | (with_reducible refine Kd.CA ?_ _) | (with_reducible refine Kd.CN ?_ _) | (with_reducible refine Kd.CD ?_))); (case side2 => exact (Kd.N_reads' HO_4.o).2.1); rintro e w41 ⟨rfl, hb⟩; refine ⟨_, rfl, ?_⟩; have _ := zK (Kd.N_below M13 hb); have _ := zK (Kd.R_below (Kd.qR HO_5.o) hb); have _ := zK (Kd.Q_below M8 hb); have _ := zK (bT (qB HB.o) hb); clear HO_4 HO_5 HO_7 HB; rename_i HO_4 HO_5 HO_7 HB; (try clear hb); (try clear hb2); (try clear hk); (try clear hi)))
     have n0_ := zK (Kd.N_drew HO_4.o)
     have n1_ := zK (Kd.RD HO_5.o)
     have n2_ := zK (Kd.Q_drew HO_7.o)
     have n3_ := zK (below_drew1 HB.o)
     clear HO_4
     clear HO_5
     clear HO_7
     clear HB
     have HO_4 := n0_
     have HO_5 := n1_
     have HO_7 := n2_
     have HB := n3_
     clear n0_ n1_ n2_ n3_
     have p693 : 0 ≤ (t692 : Int) := oD M3
     have q693 : t692 < (t670.length : Int) := oD M3
     obtain ⟨ad693, A693_2, c693_2, A693_5, c693_5, e693, hx693_0, hx693_1, hx693_2, hx693_3, hx693_4, hx693_5, hx693_6, hx693_7, hl693_2, hi693_2, hl693_5, hi693_5⟩ := at_T87 (Kd.N_reads' HO_4.o).2.2 t692 p693 q693
     cases e693
     obtain ⟨ce693, hce693, hMe693, hcc693⟩ := Kd.N_get HO_4.o z87 t692 p693 (by first | exact q693 | exact oD M3 | (have e_ := (Kd.N_reads' HO_4.o).1; omega))
     obtain ⟨ua693_2, uc693_2, ua693_5, uc693_5, rfl, ul693_2, ge693_2, ul693_5, ge693_5⟩ := k87_openF hMe693
     have hv693_2 := hcc693 2 _ rfl
     rw [add_field _ _ 2 (by omega)] at hv693_2
     replace hv693_2 := Option.some.inj (hv693_2.symm.trans hx693_2)
     injection hv693_2 with hva_ hvn_ hvc_
     rw [hva_] at ge693_2
     rw [hvc_] at ul693_2
     have HL693_2 := zK (show Kd.V (Kd.int .i64) 3 _ w.heap.size _ _ ((rd_T87 t670 t692).f2) from Kd.V_mk ul693_2 ge693_2)
     clear hva_ hvn_ hvc_ ge693_2 ul693_2
     have hv693_5 := hcc693 5 _ rfl
     rw [add_field _ _ 5 (by omega)] at hv693_5
     replace hv693_5 := Option.some.inj (hv693_5.symm.trans hx693_5)
     injection hv693_5 with hva_ hvn_ hvc_
     rw [hva_] at ge693_5
     rw [hvc_] at ul693_5
     have HL693_5 := zK (show Kd.V (Kd.int .i64) 3 _ w.heap.size _ _ ((rd_T87 t670 t692).f5) from Kd.V_mk ul693_5 ge693_5)
     clear hva_ hvn_ hvc_ ge693_5 ul693_5
     clear hcc693 hce693
     have HR693_2 := zK hi693_2
     have HC693_2 := zK hl693_2
     clear hi693_2 hl693_2
     have HR693_5 := zK hi693_5
     have HC693_5 := zK hl693_5
     clear hi693_5 hl693_5
     replace p693 := eq_true p693
     replace q693 := eq_true q693
     have p697 : 0 ≤ (x9_2 : Int) := oD M3
     have q697 : x9_2 < (t677.length : Int) := oD M3
     obtain ⟨ad697, e697, hx697_0, hx697_1, hx697_2⟩ := at_T81 (Kd.Q_reads' HO_7.o).2.2 x9_2 p697 q697
     obtain rfl : ad691 = ad697 := (by injection e697)
     replace p697 := eq_true p697
     replace q697 := eq_true q697
     have p699 : 0 ≤ (x9_2 : Int) := oD M3
     have q699 : x9_2 < (t677.length : Int) := oD M3
     obtain ⟨ad699, e699, hx699_0, hx699_1, hx699_2⟩ := at_T81 (Kd.Q_reads' HO_7.o).2.2 x9_2 p699 q699
     obtain rfl : ad691 = ad699 := (by injection e699)
     replace p699 := eq_true p699
     replace q699 := eq_true q699
     have p700 : 0 ≤ (x9_2 : Int) := oD M3
     have q700 : x9_2 < (t677.length : Int) := oD M3
     obtain ⟨ad700, e700, hx700_0, hx700_1, hx700_2⟩ := at_T81 (Kd.Q_reads' HO_7.o).2.2 x9_2 p700 q700
     obtain rfl : ad691 = ad700 := (by injection e700)
     replace p700 := eq_true p700
     replace q700 := eq_true q700
     refine start_ (n := 36) (S := fun w' => w'.cell? (ad693.add ((t692).toNat * 8)) = some (.int .i64 ((rd_T87 t670 t692).f0)) ∧ w'.cell? ⟨(ad693.add ((t692).toNat * 8)).block, (ad693.add ((t692).toNat * 8)).off + 1, none⟩ = some (.int .i64 ((rd_T87 t670 t692).f1)) ∧ w'.cell? ⟨(ad693.add ((t692).toNat * 8)).block, (ad693.add ((t692).toNat * 8)).off + 2, none⟩ = some (.slice A693_2 ((rd_T87 t670 t692).f2).length c693_2) ∧ w'.cell? ⟨(ad693.add ((t692).toNat * 8)).block, (ad693.add ((t692).toNat * 8)).off + 3, none⟩ = some (.int .i64 ((rd_T87 t670 t692).f3)) ∧ w'.cell? ⟨(ad693.add ((t692).toNat * 8)).block, (ad693.add ((t692).toNat * 8)).off + 4, none⟩ = some (.int .i64 ((rd_T87 t670 t692).f4)) ∧ w'.cell? ⟨(ad693.add ((t692).toNat * 8)).block, (ad693.add ((t692).toNat * 8)).off + 5, none⟩ = some (.slice A693_5 ((rd_T87 t670 t692).f5).length c693_5) ∧ w'.cell? ⟨(ad693.add ((t692).toNat * 8)).block, (ad693.add ((t692).toNat * 8)).off + 6, none⟩ = some (.int .i64 ((rd_T87 t670 t692).f6.f0)) ∧ w'.cell? ⟨(ad693.add ((t692).toNat * 8)).block, (ad693.add ((t692).toNat * 8)).off + 7, none⟩ = some (.int .i64 ((rd_T87 t670 t692).f6.f1)) ∧ w'.cell? (ad691.add ((x9_2).toNat * 3)) = some (.int .i64 ((rd_T81 t677 x9_2).f0)) ∧ w'.cell? ⟨(ad691.add ((x9_2).toNat * 3)).block, (ad691.add ((x9_2).toNat * 3)).off + 1, none⟩ = some (.int .i64 ((rd_T81 t677 x9_2).f1)) ∧ w'.cell? ⟨(ad691.add ((x9_2).toNat * 3)).block, (ad691.add ((x9_2).toNat * 3)).off + 2, none⟩ = some (.int .i64 ((rd_T81 t677 x9_2).f2)) ∧ w'.cell? (ad691.add ((x9_2).toNat * 3)) = some (.int .i64 ((rd_T81 t677 x9_2).f0)) ∧ w'.cell? ⟨(ad691.add ((x9_2).toNat * 3)).block, (ad691.add ((x9_2).toNat * 3)).off + 1, none⟩ = some (.int .i64 ((rd_T81 t677 x9_2).f1)) ∧ w'.cell? ⟨(ad691.add ((x9_2).toNat * 3)).block, (ad691.add ((x9_2).toNat * 3)).off + 2, none⟩ = some (.int .i64 ((rd_T81 t677 x9_2).f2)) ∧ w'.cell? (ad691.add ((x9_2).toNat * 3)) = some (.int .i64 ((rd_T81 t677 x9_2).f0)) ∧ w'.cell? ⟨(ad691.add ((x9_2).toNat * 3)).block, (ad691.add ((x9_2).toNat * 3)).off + 1, none⟩ = some (.int .i64 ((rd_T81 t677 x9_2).f1)) ∧ w'.cell? ⟨(ad691.add ((x9_2).toNat * 3)).block, (ad691.add ((x9_2).toNat * 3)).off + 2, none⟩ = some (.int .i64 ((rd_T81 t677 x9_2).f2))) (ds := []) b16A0 (by kernel_rfl) rfl rfl ⟨hx693_0, hx693_1, hx693_2, hx693_3, hx693_4, hx693_5, hx693_6, hx693_7, hx697_0, hx697_1, hx697_2, hx699_0, hx699_1, hx699_2, hx700_0, hx700_1, hx700_2⟩ (fun hHeld => ?_); refine with_tabW laws_FnLetters.tab12 laws_FnLetters.bits12 (fun HT_ HW_ => ?_)
     generalize w41.drew = w42 at HO_4 HO_5 HO_7 HB HL693_2 HL693_5 HR693_2 HR693_5 hx693_0 hx693_1 hx693_2 hx693_3 hx693_4 hx693_5 hx693_6 hx693_7 hx697_0 hx697_1 hx697_2 hx699_0 hx699_1 hx699_2 hx700_0 hx700_1 hx700_2 hHeld ⊢
     refine pI 0 (some 56) b16A1 HT_ ?_
     refine pI 1 (some 57) b16A2 HT_ ?_
     refine pI 2 (some 58) b16A3 HT_ ?_
     refine pI 3 (some 59) b16A4 HT_ ?_
     refine pI 4 (some 60) b16A5 HT_ ?_
     refine pI 5 (some 61) b16A6 HT_ ?_
     refine pI 7 (some 63) b16A37 HT_ ?_
     refine pI 9 (some 65) b16A38 HT_ ?_
     refine pI 10 (some 66) b16A39 HT_ ?_
     refine pI 11 (some 67) b16A40 HT_ ?_
     refine pI 12 (some 68) b16A41 HT_ ?_
     refine tI 6 (some 62) b16A42 HT_ HW_ hHeld rfl rfl (Or.inl ⟨by rfl, by rintro w' ⟨s0, s1, s2, s3, s4, s5, s6, s7, s8, s9, s10, s11, s12, s13, s14, s15, s16⟩; go_simp; with_reducible rfl⟩) ?_
     refine tI 13 (some 69) b16A43 HT_ HW_ hHeld rfl rfl (Or.inl ⟨by rfl, by rintro w' ⟨s0, s1, s2, s3, s4, s5, s6, s7, s8, s9, s10, s11, s12, s13, s14, s15, s16⟩; go_simp; with_reducible rfl⟩) ?_
     refine one_ (i := 8) (N := some 64) b16A14 rfl rfl (one_of HT_.o (by kernel_rfl)) (by decide) (fun K hK => ?_)
     refine goes_ Try.func56 (by kernel_rfl) rfl #[.agg #[.int .i64 ((rd_T87 t670 t692).f0), .int .i64 ((rd_T87 t670 t692).f1), .slice A693_2 ((rd_T87 t670 t692).f2).length c693_2, .int .i64 ((rd_T87 t670 t692).f3), .int .i64 ((rd_T87 t670 t692).f4), .slice A693_5 ((rd_T87 t670 t692).f5).length c693_5, .int .i64 ((rd_T87 t670 t692).f6.f0), .int .i64 ((rd_T87 t670 t692).f6.f1)], .slice Ao12 t673.length co12] (by rfl) rfl rfl M0 ?_
     with_reducible refine (impl_Candidates.calls k2 ((rd_T87 t670 t692).f0) ((rd_T87 t670 t692).f1) _ _ ((rd_T87 t670 t692).f2) ((rd_T87 t670 t692).f3) ((rd_T87 t670 t692).f4) _ _ ((rd_T87 t670 t692).f5) ((rd_T87 t670 t692).f6.f0) ((rd_T87 t670 t692).f6.f1) _ _ t673 t694 _ ?side1 ?side2 ?side3 ?side4 ?side5 ?side6 A35.o).mono ?_
     (case side1 => repeat (first | exact M20 | (with_reducible refine Kd.CA ?_ _) | (with_reducible refine Kd.CN ?_ _) | (with_reducible refine Kd.CD ?_)))
     (case side2 => exact HC693_2.o)
     (case side3 => repeat (first | exact M21 | (with_reducible refine Kd.CA ?_ _) | (with_reducible refine Kd.CN ?_ _) | (with_reducible refine Kd.CD ?_)))
     (case side4 => exact HC693_5.o)
     (case side5 => exact Kd.qC (Kd.R_reads' HO_5.o).2.2)
     (case side6 => exact (Kd.R_reads' HO_5.o).2.1)
     rintro e w43 ⟨v695, rfl, ho0, hb⟩
     have HS0_ := (hb.cell (World.block_lt_of_cell? _ _ (hHeld.1))).trans (hHeld.1)
     have HS1_ := (hb.cell (World.block_lt_of_cell? _ _ (hHeld.2.1))).trans (hHeld.2.1)
     have HS2_ := (hb.cell (World.block_lt_of_cell? _ _ (hHeld.2.2.1))).trans (hHeld.2.2.1)
     have HS3_ := (hb.cell (World.block_lt_of_cell? _ _ (hHeld.2.2.2.1))).trans (hHeld.2.2.2.1)
     have HS4_ := (hb.cell (World.block_lt_of_cell? _ _ (hHeld.2.2.2.2.1))).trans (hHeld.2.2.2.2.1)
     have HS5_ := (hb.cell (World.block_lt_of_cell? _ _ (hHeld.2.2.2.2.2.1))).trans (hHeld.2.2.2.2.2.1)
     have HS6_ := (hb.cell (World.block_lt_of_cell? _ _ (hHeld.2.2.2.2.2.2.1))).trans (hHeld.2.2.2.2.2.2.1)
     have HS7_ := (hb.cell (World.block_lt_of_cell? _ _ (hHeld.2.2.2.2.2.2.2.1))).trans (hHeld.2.2.2.2.2.2.2.1)
     have HS8_ := (hb.cell (World.block_lt_of_cell? _ _ (hHeld.2.2.2.2.2.2.2.2.1))).trans (hHeld.2.2.2.2.2.2.2.2.1)
     have HS9_ := (hb.cell (World.block_lt_of_cell? _ _ (hHeld.2.2.2.2.2.2.2.2.2.1))).trans (hHeld.2.2.2.2.2.2.2.2.2.1)
     have HS10_ := (hb.cell (World.block_lt_of_cell? _ _ (hHeld.2.2.2.2.2.2.2.2.2.2.1))).trans (hHeld.2.2.2.2.2.2.2.2.2.2.1)
     have HS11_ := (hb.cell (World.block_lt_of_cell? _ _ (hHeld.2.2.2.2.2.2.2.2.2.2.2.1))).trans (hHeld.2.2.2.2.2.2.2.2.2.2.2.1)
     have HS12_ := (hb.cell (World.block_lt_of_cell? _ _ (hHeld.2.2.2.2.2.2.2.2.2.2.2.2.1))).trans (hHeld.2.2.2.2.2.2.2.2.2.2.2.2.1)
     have HS13_ := (hb.cell (World.block_lt_of_cell? _ _ (hHeld.2.2.2.2.2.2.2.2.2.2.2.2.2.1))).trans (hHeld.2.2.2.2.2.2.2.2.2.2.2.2.2.1)
     have HS14_ := (hb.cell (World.block_lt_of_cell? _ _ (hHeld.2.2.2.2.2.2.2.2.2.2.2.2.2.2.1))).trans (hHeld.2.2.2.2.2.2.2.2.2.2.2.2.2.2.1)
     have HS15_ := (hb.cell (World.block_lt_of_cell? _ _ (hHeld.2.2.2.2.2.2.2.2.2.2.2.2.2.2.2.1))).trans (hHeld.2.2.2.2.2.2.2.2.2.2.2.2.2.2.2.1)
     have HS16_ := (hb.cell (World.block_lt_of_cell? _ _ (hHeld.2.2.2.2.2.2.2.2.2.2.2.2.2.2.2.2))).trans (hHeld.2.2.2.2.2.2.2.2.2.2.2.2.2.2.2.2)
     refine ⟨_, rfl, ?_⟩
     have n0_ := zK (Kd.N_elder' M13 (Kd.R_base ho0) hb)
     have n1_ := zK (Kd.R_below (Kd.qR HO_5.o) hb)
     have n2_ := zK (Kd.Q_below M8 hb)
     have n3_ := zK (Kd.V_elder' M44 (Kd.R_base ho0) hb)
     have n4_ := zK (Kd.V_elder' M45 (Kd.R_base ho0) hb)
     have n5_ := zK (Kd.R_lower ho0 (bZ (qB HB.o)))
     have n6_ := zK (Kd.C_below M20 hb)
     have n7_ := zK (Kd.C_below M21 hb)
     have n8_ := zK (bT (qB HB.o) hb)
     clear HO_4
     clear HO_5
     clear HO_7
     clear HL693_2
     clear HL693_5
     clear HR693_2
     clear HR693_5
     clear HB
     have HO_4 := n0_
     have HO_5 := n1_
     have HO_7 := n2_
     have HL693_2 := n3_
     have HL693_5 := n4_
     have HO696 := n5_
     have HR693_2 := n6_
     have HR693_5 := n7_
     have HB := n8_
     clear n0_ n1_ n2_ n3_ n4_ n5_ n6_ n7_ n8_
     (try clear hb)
     (try clear hb2)
     (try clear hk)
     (try clear hi)
     (try clear ho0)
     obtain ⟨Ao44, co44, eo44⟩ := Kd.R_slice HO696.o
     (first | subst eo44 | (injection eo44 with f1_ f2_ f3_; have f4_ := f1_.symm; have f5_ := f3_.symm; clear f1_ f2_ f3_; subst f4_; subst f5_))
     refine hK.out _ _ ⟨HS0_, HS1_, HS2_, HS3_, HS4_, HS5_, HS6_, HS7_, HS8_, HS9_, HS10_, HS11_, HS12_, HS13_, HS14_, HS15_, HS16_⟩ (fun hHeld => ?_)
     clear hK K
     refine norm_ (a' := ?_) ?_ ?_
     rotate_left
     ·show Act.put _ (some 64) _ = _
      simp only [Act.put, sA, sZ, sS, i64_w, i32_w]
      rfl
     refine one_ (i := 14) (N := some 70) b16A15 rfl rfl (one_of HT_.o (by kernel_rfl)) (by decide) (fun K hK => ?_)
     refine goes_ Try.func55 (by kernel_rfl) rfl #[.slice Ao44 t694.length co44, .int .i64 ((rd_T81 t677 x9_2).f1)] (by rfl) rfl rfl M0 ?_
     with_reducible refine (laws_contains.calls k2 _ _ t694 ((rd_T81 t677 x9_2).f1) true _ ?side1 ?side2 A36.o).mono ?_
     (case side1 => exact Kd.qC (Kd.R_reads' HO696.o).2.2)
     (case side2 => exact (Kd.R_reads' HO696.o).2.1)
     rintro e w' ⟨rfl, ⟨nd, rfl⟩⟩
     refine ⟨_, rfl, ?_⟩
     refine hK.out _ _ ⟨hHeld.1, hHeld.2.1, hHeld.2.2.1, hHeld.2.2.2.1, hHeld.2.2.2.2.1, hHeld.2.2.2.2.2.1, hHeld.2.2.2.2.2.2.1, hHeld.2.2.2.2.2.2.2.1, hHeld.2.2.2.2.2.2.2.2.1, hHeld.2.2.2.2.2.2.2.2.2.1, hHeld.2.2.2.2.2.2.2.2.2.2.1, hHeld.2.2.2.2.2.2.2.2.2.2.2.1, hHeld.2.2.2.2.2.2.2.2.2.2.2.2.1, hHeld.2.2.2.2.2.2.2.2.2.2.2.2.2.1, hHeld.2.2.2.2.2.2.2.2.2.2.2.2.2.2.1, hHeld.2.2.2.2.2.2.2.2.2.2.2.2.2.2.2.1, hHeld.2.2.2.2.2.2.2.2.2.2.2.2.2.2.2.2⟩ (fun hHeld => ?_)
     clear hK K
     refine norm_ (a' := ?_) ?_ ?_
     rotate_left
     ·show Act.put _ (some 70) _ = _
      simp only [Act.put, sA, sZ, sS, i64_w, i32_w]
      rfl
     refine pI 15 (some 71) b16A16 HT_ ?_
     refine pI 16 (some 72) b16A17 HT_ ?_
     refine pI 17 (some 73) b16A18 HT_ ?_
     refine pI 18 (some 74) b16A19 HT_ ?_
     refine pI 19 (some 75) b16A20 HT_ ?_
     refine pI 20 (some 76) b16A21 HT_ ?_
     refine pI 21 (some 77) b16A22 HT_ ?_
     refine pI 23 (some 79) b16A44 HT_ ?_
     refine tI 22 (some 78) b16A24 HT_ HW_ hHeld rfl rfl (Or.inl ⟨by rfl, by rintro w' ⟨s0, s1, s2, s3, s4, s5, s6, s7, s8, s9, s10, s11, s12, s13, s14, s15, s16⟩; go_simp; with_reducible rfl⟩) ?_
     refine pI 24 (some 80) b16A25 HT_ ?_
     refine pI 25 (some 81) b16A26 HT_ ?_
     refine pI 26 (some 82) b16A27 HT_ ?_
     refine pI 27 (some 83) b16A28 HT_ ?_
     refine pI 28 (some 84) b16A29 HT_ ?_
     refine pI 29 (some 85) b16A30 HT_ ?_
     refine pI 30 (some 86) b16A31 HT_ ?_
     refine pI 31 (some 87) b16A32 HT_ ?_
     refine tI 32 (some 88) b16A33 HT_ HW_ hHeld rfl rfl (Or.inl ⟨by rfl, by rintro w' ⟨s0, s1, s2, s3, s4, s5, s6, s7, s8, s9, s10, s11, s12, s13, s14, s15, s16⟩; go_simp; with_reducible rfl⟩) ?_
     refine one_ (i := 33) (N := some 89) b16A34 rfl rfl (one_of HT_.o (by kernel_rfl)) (by decide) (fun K hK => ?_)
     refine goes_ Try.func57 (by kernel_rfl) rfl #[.slice (some ad691) t677.length co18, .int .i64 ((rd_T81 t677 x9_2).f0)] (by rfl) rfl rfl M0 ?_
     with_reducible refine (impl_CountLetters.calls k2 _ _ t677 ((rd_T81 t677 x9_2).f0) t701 _ ?side1 ?side2 A39.o).mono ?_
     (case side1 => repeat (first | exact (Kd.Q_reads' HO_7.o).2.2 | (with_reducible refine Kd.CA ?_ _) | (with_reducible refine Kd.CN ?_ _) | (with_reducible refine Kd.CD ?_)))
     (case side2 => exact (Kd.Q_reads' HO_7.o).2.1)
     rintro e w45 ⟨rfl, hb⟩
     have HS0_ := (hb.cell (World.block_lt_of_cell? _ _ (hHeld.1))).trans (hHeld.1)
     have HS1_ := (hb.cell (World.block_lt_of_cell? _ _ (hHeld.2.1))).trans (hHeld.2.1)
     have HS2_ := (hb.cell (World.block_lt_of_cell? _ _ (hHeld.2.2.1))).trans (hHeld.2.2.1)
     have HS3_ := (hb.cell (World.block_lt_of_cell? _ _ (hHeld.2.2.2.1))).trans (hHeld.2.2.2.1)
     have HS4_ := (hb.cell (World.block_lt_of_cell? _ _ (hHeld.2.2.2.2.1))).trans (hHeld.2.2.2.2.1)
     have HS5_ := (hb.cell (World.block_lt_of_cell? _ _ (hHeld.2.2.2.2.2.1))).trans (hHeld.2.2.2.2.2.1)
     have HS6_ := (hb.cell (World.block_lt_of_cell? _ _ (hHeld.2.2.2.2.2.2.1))).trans (hHeld.2.2.2.2.2.2.1)
     have HS7_ := (hb.cell (World.block_lt_of_cell? _ _ (hHeld.2.2.2.2.2.2.2.1))).trans (hHeld.2.2.2.2.2.2.2.1)
     have HS8_ := (hb.cell (World.block_lt_of_cell? _ _ (hHeld.2.2.2.2.2.2.2.2.1))).trans (hHeld.2.2.2.2.2.2.2.2.1)
     have HS9_ := (hb.cell (World.block_lt_of_cell? _ _ (hHeld.2.2.2.2.2.2.2.2.2.1))).trans (hHeld.2.2.2.2.2.2.2.2.2.1)
     have HS10_ := (hb.cell (World.block_lt_of_cell? _ _ (hHeld.2.2.2.2.2.2.2.2.2.2.1))).trans (hHeld.2.2.2.2.2.2.2.2.2.2.1)
     have HS11_ := (hb.cell (World.block_lt_of_cell? _ _ (hHeld.2.2.2.2.2.2.2.2.2.2.2.1))).trans (hHeld.2.2.2.2.2.2.2.2.2.2.2.1)
     have HS12_ := (hb.cell (World.block_lt_of_cell? _ _ (hHeld.2.2.2.2.2.2.2.2.2.2.2.2.1))).trans (hHeld.2.2.2.2.2.2.2.2.2.2.2.2.1)
     have HS13_ := (hb.cell (World.block_lt_of_cell? _ _ (hHeld.2.2.2.2.2.2.2.2.2.2.2.2.2.1))).trans (hHeld.2.2.2.2.2.2.2.2.2.2.2.2.2.1)
     have HS14_ := (hb.cell (World.block_lt_of_cell? _ _ (hHeld.2.2.2.2.2.2.2.2.2.2.2.2.2.2.1))).trans (hHeld.2.2.2.2.2.2.2.2.2.2.2.2.2.2.1)
     have HS15_ := (hb.cell (World.block_lt_of_cell? _ _ (hHeld.2.2.2.2.2.2.2.2.2.2.2.2.2.2.2.1))).trans (hHeld.2.2.2.2.2.2.2.2.2.2.2.2.2.2.2.1)
     have HS16_ := (hb.cell (World.block_lt_of_cell? _ _ (hHeld.2.2.2.2.2.2.2.2.2.2.2.2.2.2.2.2))).trans (hHeld.2.2.2.2.2.2.2.2.2.2.2.2.2.2.2.2)
     refine ⟨_, rfl, ?_⟩
     have n0_ := zK (Kd.N_below M13 hb)
     have n1_ := zK (Kd.R_below (Kd.qR HO_5.o) hb)
     have n2_ := zK (Kd.Q_below M8 hb)
     have n3_ := zK (Kd.V_below M44 hb)
     have n4_ := zK (Kd.V_below M45 hb)
     have n5_ := zK (Kd.R_below (Kd.qR HO696.o) hb)
     have n6_ := zK (Kd.C_below (Kd.CN HR693_2.o nd) hb)
     have n7_ := zK (Kd.C_below (Kd.CN HR693_5.o nd) hb)
     have n8_ := zK (bT (qB HB.o) hb)
     clear HO_4
     clear HO_5
     clear HO_7
     clear HL693_2
     clear HL693_5
     clear HO696
     clear HR693_2
     clear HR693_5
     clear HB
     have HO_4 := n0_
     have HO_5 := n1_
     have HO_7 := n2_
     have HL693_2 := n3_
     have HL693_5 := n4_
     have HO696 := n5_
     have HR693_2 := n6_
     have HR693_5 := n7_
     have HB := n8_
     clear n0_ n1_ n2_ n3_ n4_ n5_ n6_ n7_ n8_
     (try clear hb)
     (try clear hb2)
     (try clear hk)
     (try clear hi)
     refine hK.out _ _ ⟨HS0_, HS1_, HS2_, HS3_, HS4_, HS5_, HS6_, HS7_, HS8_, HS9_, HS10_, HS11_, HS12_, HS13_, HS14_, HS15_, HS16_⟩ (fun hHeld => ?_)
     clear hK K
     refine norm_ (a' := ?_) ?_ ?_
     rotate_left
     ·show Act.put _ (some 89) _ = _
      simp only [Act.put, sA, sZ, sS, i64_w, i32_w]
      rfl
     refine pI 34 (some 90) b16A35 HT_ ?_
     refine pI 35 (some 91) b16A36 HT_ ?_
     refine done_ (done_of HT_.o (by kernel_rfl)) ?_
     try go_wp2
     go_roundg k2
     case measure => have := HJ7.o; have := HK2.o; omega
     case rel => exact ⟨(wrap64 (x9_2 + 1)), M7, H', ⟨by have := HJ7.o; have := HK2.o; omega⟩, ⟨by (with_reducible repeat (first | apply Kd.N_alloc | apply Kd.N_drewN | apply Kd.N_drew)); exact Kd.N_mono HO_4.o (fun _ hk => ⟨hk.1.1, hk.1.2⟩)⟩, ⟨by exact Kd.qR HO_5.o⟩, ⟨by (with_reducible repeat (first | apply Kd.Q_alloc | apply Kd.Q_drewN | apply Kd.Q_drew)); exact HO_7.o⟩, ⟨by exact qB HB.o⟩⟩
/-- THE ONE PURE STATEMENT of laws_FnLetters: yours. -/
def laws_FnLetters.Pure : Prop := ∀ (l0 : List Int), l0.length ≤ maxLen → l0.length * 1 ≤ 140737488351232 → (∀ x ∈ l0, (Lit.int .u8 x).wf = true) → ∃ k, laws_FnLetters.f k l0 = some true
theorem laws_FnLetters.walk (P : laws_FnLetters.Pure) (a0 : Option Addr) (len0 cap0 : Nat) (z0 : List Int) (w : World) (w0 : (a0 = none ∧ len0 = 0 ∧ cap0 = 0 ∧ z0 = []) ∨ ∃ x, a0 = some x ∧ len0 ≤ cap0 ∧ cap0 ≤ maxLen ∧ z0.length = cap0 ∧ (∀ i, i < z0.length → w.cell? (x.add i) = some (.int .u8 (z0.getD i 0))) ∧ ∀ n ∈ z0, (Lit.int .u8 n).wf = true) (y0 : len0 * 1 ≤ 140737488351232) :
  Calls Try.prog 9 #[.slice a0 len0 cap0] w fun e w' => e = .returned (.bool true) ∧ Below w.heap.size w w' := by
 obtain ⟨l0, rfl, hr0, hm0, hw0, hc0⟩ := ReadsInt.ofRowC w0
 obtain ⟨k, h⟩ := P l0 hm0 y0 hw0
 refine (laws_FnLetters.calls k _ _ l0 true w (Kd.C_of_reads (d := (0 : Int)) (h1 := fun _ => rfl) hr0) hc0 h).mono ?_
 rintro e w' ⟨rfl, hd⟩
 exact ⟨rfl, hd⟩

end Go.Proofs.Ytpkdbkheggfkkaa.PFnLetters
