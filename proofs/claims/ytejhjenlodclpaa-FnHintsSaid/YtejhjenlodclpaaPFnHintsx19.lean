/- Walks of functions that FnHints reaches, shortened. -/
import Derived.Test.YtejhjenlodclpaaPFnHintsx0
import Derived.Test.YtejhjenlodclpaaPFnHintsx2
import Derived.Test.YtejhjenlodclpaaPFnHintsx3
import Derived.Test.YtejhjenlodclpaaPFnHintsx4
import Derived.Test.YtejhjenlodclpaaPFnHintsx5
import Derived.Test.YtejhjenlodclpaaPFnHintsx9
import Derived.Test.YtejhjenlodclpaaPFnHintsx13
import Derived.Test.YtejhjenlodclpaaPFnHintsx14
import Derived.Test.YtejhjenlodclpaaPFnHintsx17
import Derived.Test.YtejhjenlodclpaaPFnHintsx18
namespace Go.Proofs.Ytejhjenlodclpaa.PFnHints
open Go.RowKit Go.Proofs.YtejhjenlodclpaaW.PrintWords Go.Proofs.YtejhjenlodclpaaW.PrintLast Go.Proofs.YtejhjenlodclpaaW.PrintMore
attribute [local go_sem] max2_int min2_int max_two min_two max_three min_three max_four min_four
set_option maxHeartbeats 8000000
set_option maxRecDepth 100000
set_option linter.unusedVariables false
set_option linter.unusedSimpArgs false

abbrev b19A0 : Array Bool := #[O, O, O, O, O, O, O, O, O, O, O, O, O, O, O, O, O, O, O, O, O, O, O, O, O, O, O, O, O, O, O, O]
abbrev b19A1 : Array Bool := #[I, O, O, O, O, O, O, O, O, O, O, O, O, O, O, O, O, O, O, O, O, O, O, O, O, O, O, O, O, O, O, O]
abbrev b19A2 : Array Bool := #[I, I, O, O, O, O, O, O, O, O, O, O, O, O, O, O, O, O, O, O, O, O, O, O, O, O, O, O, O, O, O, O]
abbrev b19A3 : Array Bool := #[I, I, I, O, O, O, O, O, O, O, O, O, O, O, O, O, O, O, O, O, O, O, O, O, O, O, O, O, O, O, O, O]
abbrev b19A4 : Array Bool := #[I, I, I, I, O, O, O, O, O, O, O, O, O, O, O, O, O, O, O, O, O, O, O, O, O, O, O, O, O, O, O, O]
abbrev b19A5 : Array Bool := #[I, I, I, I, I, O, O, O, O, O, O, O, O, O, O, O, O, O, O, O, O, O, O, O, O, O, O, O, O, O, O, O]
abbrev b19A6 : Array Bool := #[I, I, I, I, I, O, I, O, O, O, O, O, O, O, O, O, O, O, O, O, O, O, O, O, O, O, O, O, O, O, O, O]
abbrev b19A7 : Array Bool := #[I, I, I, I, I, I, I, O, O, O, O, O, O, O, O, O, O, O, O, O, O, O, O, O, O, O, O, O, O, O, O, O]
abbrev b19A8 : Array Bool := #[I, I, I, I, I, I, I, I, O, O, O, O, O, O, O, O, O, O, O, O, O, O, O, O, O, O, O, O, O, O, O, O]
abbrev b19A9 : Array Bool := #[I, I, I, I, I, I, I, I, I, O, O, O, O, O, O, O, O, O, O, O, O, O, O, O, O, O, O, O, O, O, O, O]
abbrev b19A10 : Array Bool := #[I, I, I, I, I, I, I, I, I, I, O, O, O, O, O, O, O, O, O, O, O, O, O, O, O, O, O, O, O, O, O, O]
abbrev b19A11 : Array Bool := #[I, I, I, I, I, I, I, I, I, I, I, O, O, O, O, O, O, O, O, O, O, O, O, O, O, O, O, O, O, O, O, O]
abbrev b19A12 : Array Bool := #[I, I, I, I, I, I, I, I, I, I, I, O, I, O, O, O, O, O, O, O, O, O, O, O, O, O, O, O, O, O, O, O]
abbrev b19A13 : Array Bool := #[I, I, I, I, I, I, I, I, I, I, I, O, I, I, O, O, O, O, O, O, O, O, O, O, O, O, O, O, O, O, O, O]
abbrev b19A14 : Array Bool := #[I, I, I, I, I, I, I, I, I, I, I, O, I, I, I, O, O, O, O, O, O, O, O, O, O, O, O, O, O, O, O, O]
abbrev b19A15 : Array Bool := #[I, I, I, I, I, I, I, I, I, I, I, I, I, I, I, O, O, O, O, O, O, O, O, O, O, O, O, O, O, O, O, O]
abbrev b19A16 : Array Bool := #[I, I, I, I, I, I, I, I, I, I, I, I, I, I, I, I, O, O, O, O, O, O, O, O, O, O, O, O, O, O, O, O]
abbrev b19A17 : Array Bool := #[I, I, I, I, I, I, I, I, I, I, I, I, I, I, I, I, I, O, O, O, O, O, O, O, O, O, O, O, O, O, O, O]
abbrev b19A18 : Array Bool := #[I, I, I, I, I, I, I, I, I, I, I, I, I, I, I, I, I, I, O, O, O, O, O, O, O, O, O, O, O, O, O, O]
abbrev b19A19 : Array Bool := #[I, I, I, I, I, I, I, I, I, I, I, I, I, I, I, I, I, I, O, I, O, O, O, O, O, O, O, O, O, O, O, O]
abbrev b19A20 : Array Bool := #[I, I, I, I, I, I, I, I, I, I, I, I, I, I, I, I, I, I, O, I, O, I, O, O, O, O, O, O, O, O, O, O]
abbrev b19A21 : Array Bool := #[I, I, I, I, I, I, I, I, I, I, I, I, I, I, I, I, I, I, O, I, O, I, I, O, O, O, O, O, O, O, O, O]
abbrev b19A22 : Array Bool := #[I, I, I, I, I, I, I, I, I, I, I, I, I, I, I, I, I, I, O, I, O, I, I, I, O, O, O, O, O, O, O, O]
abbrev b19A23 : Array Bool := #[I, I, I, I, I, I, I, I, I, I, I, I, I, I, I, I, I, I, O, I, O, I, I, I, I, O, O, O, O, O, O, O]
abbrev b19A24 : Array Bool := #[I, I, I, I, I, I, I, I, I, I, I, I, I, I, I, I, I, I, O, I, O, I, I, I, I, O, I, O, O, O, O, O]
abbrev b19A25 : Array Bool := #[I, I, I, I, I, I, I, I, I, I, I, I, I, I, I, I, I, I, I, I, O, I, I, I, I, O, I, O, O, O, O, O]
abbrev b19A26 : Array Bool := #[I, I, I, I, I, I, I, I, I, I, I, I, I, I, I, I, I, I, I, I, O, I, I, I, I, I, I, O, O, O, O, O]
abbrev b19A27 : Array Bool := #[I, I, I, I, I, I, I, I, I, I, I, I, I, I, I, I, I, I, I, I, I, I, I, I, I, I, I, O, O, O, O, O]
abbrev b19A28 : Array Bool := #[I, I, I, I, I, I, I, I, I, I, I, I, I, I, I, I, I, I, I, I, I, I, I, I, I, I, I, I, O, O, O, O]
abbrev b19A29 : Array Bool := #[I, I, I, I, I, I, I, I, I, I, I, I, I, I, I, I, I, I, I, I, I, I, I, I, I, I, I, I, I, O, O, O]
abbrev b19A30 : Array Bool := #[I, I, I, I, I, I, I, I, I, I, I, I, I, I, I, I, I, I, I, I, I, I, I, I, I, I, I, I, I, I, O, O]
abbrev b19A31 : Array Bool := #[I, I, I, I, I, I, I, I, I, I, I, I, I, I, I, I, I, I, I, I, I, I, I, I, I, I, I, I, I, I, I, O]
abbrev b19A32 : Array Bool := #[I, I, I, I, I, I, I, I, I, I, I, I, I, I, I, I, I, I, I, I, I, I, I, I, I, I, I, I, I, I, I, I]
abbrev b19A33 : Array Bool := #[I, I, I, I, I, I, I, I, I, I, I, I, I, I, I, I, I, I, I, O, O, O, O, O, O, O, O, O, O, O, O, O]
abbrev b19A34 : Array Bool := #[I, I, I, I, I, I, I, I, I, I, I, I, I, I, I, I, I, I, I, I, O, O, O, O, O, O, O, O, O, O, O, O]
abbrev b19A35 : Array Bool := #[I, I, I, I, I, I, I, I, I, I, I, I, I, I, I, I, I, I, I, I, I, O, O, O, O, O, O, O, O, O, O, O]
abbrev b19A36 : Array Bool := #[I, I, I, I, I, I, I, I, I, I, I, I, I, I, I, I, I, I, I, I, I, I, O, O, O, O, O, O, O, O, O, O]
abbrev b19A37 : Array Bool := #[I, I, I, I, I, I, I, I, I, I, I, I, I, I, I, I, I, I, I, I, I, I, I, O, O, O, O, O, O, O, O, O]
abbrev b19A38 : Array Bool := #[I, I, I, I, I, I, I, I, I, I, I, I, I, I, I, I, I, I, I, I, I, I, I, I, O, O, O, O, O, O, O, O]
abbrev b19A39 : Array Bool := #[I, I, I, I, I, I, I, I, I, I, I, I, I, I, I, I, I, I, I, I, I, I, I, I, I, O, O, O, O, O, O, O]
abbrev b19A40 : Array Bool := #[I, I, I, I, I, I, I, I, I, I, I, I, I, I, I, I, I, I, I, I, I, I, I, I, I, I, O, O, O, O, O, O]
abbrev b19A41 : Array Bool := #[I, I, I, I, I, I, I, I, I, I, I, I, O, O, O, O, O, O, O, O, O, O, O, O, O, O, O, O, O, O, O, O]
abbrev b19A42 : Array Bool := #[I, I, I, I, I, I, I, I, I, I, I, I, I, O, O, O, O, O, O, O, O, O, O, O, O, O, O, O, O, O, O, O]
abbrev b19A43 : Array Bool := #[I, I, I, I, I, I, I, I, I, I, I, I, I, I, O, O, O, O, O, O, O, O, O, O, O, O, O, O, O, O, O, O]
abbrev b19A44 : Array Bool := #[O, O, O, O, O, O, O, O, O, O, O]
abbrev b19A45 : Array Bool := #[I, O, O, O, O, O, O, O, O, O, O]
abbrev b19A46 : Array Bool := #[I, I, O, O, O, O, O, O, O, O, O]
abbrev b19A47 : Array Bool := #[I, I, O, O, I, O, O, O, O, O, O]
abbrev b19A48 : Array Bool := #[I, I, O, O, I, I, O, O, O, O, O]
abbrev b19A49 : Array Bool := #[I, I, O, O, I, I, I, O, O, O, O]
abbrev b19A50 : Array Bool := #[I, I, O, O, I, I, I, O, I, O, O]
abbrev b19A51 : Array Bool := #[I, I, O, I, I, I, I, O, I, O, O]
abbrev b19A52 : Array Bool := #[I, I, O, I, I, I, I, I, I, O, O]
abbrev b19A53 : Array Bool := #[I, I, I, I, I, I, I, I, I, O, O]
abbrev b19A54 : Array Bool := #[I, I, I, I, I, I, I, I, I, I, O]
abbrev b19A55 : Array Bool := #[I, I, I, I, I, I, I, I, I, I, I]
/-! ### laws_FnHints: function 11 -/
mutual
def laws_FnHints.l0 : Nat → List Int → List (S113) → Int → Int → Int → List Int → Int → Int → List Int → Int → Int → Option (Bool)
 | 0, _, _, _, _, _, _, _, _, _, _, _ => none
 | k + 1, x0, x4, x5, x852000, x852001, x852002, x852003, x852004, x852005, x852006, x852007 => if x5 < 2 then ((impl_HintsOf.f k x4 x5).bind fun t852 => ((laws_ascends.f k t852).bind fun t855 => (if t855 = true then ((impl_Candidates.f k x852000 x852001 x852002 x852003 x852004 x852005 x852006 x852007 x4).bind fun t856 => (if (t856.length : Int) > 0 then ((impl_MayHave.f k x852000 x852001 x852002 x852003 x852004 x852005 x852006 x852007 t852 x5).bind fun t859 => (laws_FnHints.j1 k x0 x4 x5 t852 (!t859) x852000 x852001 x852002 x852003 x852004 x852005 x852006 x852007)) else (laws_FnHints.j1 k x0 x4 x5 t852 false x852000 x852001 x852002 x852003 x852004 x852005 x852006 x852007))) else (laws_FnHints.j1 k x0 x4 x5 t852 true x852000 x852001 x852002 x852003 x852004 x852005 x852006 x852007)))) else ((spec_DrawAskHouses.f k x0).bind fun bt872 => ((impl_AskHouses.f k bt872.1 bt872.2.1 bt872.2.2.1 bt872.2.2.2.1 bt872.2.2.2.2.1 bt872.2.2.2.2.2.1 bt872.2.2.2.2.2.2.1 bt872.2.2.2.2.2.2.2.1 bt872.2.2.2.2.2.2.2.2.1 bt872.2.2.2.2.2.2.2.2.2).bind fun t889 => ((spec_AskHouses.f k bt872.1 bt872.2.1 bt872.2.2.1 bt872.2.2.2.1 bt872.2.2.2.2.1 bt872.2.2.2.2.2.1 bt872.2.2.2.2.2.2.1 bt872.2.2.2.2.2.2.2.1 bt872.2.2.2.2.2.2.2.2.1 bt872.2.2.2.2.2.2.2.2.2).bind fun t892 => (if (t889.length : Int) = (t892.length : Int) then (laws_FnHints.l2 k x0 bt872.2.2.2.2.2.2.2.2.1 bt872.2.2.2.2.2.2.2.2.2 t889 0 bt872.1 bt872.2.1 bt872.2.2.1 bt872.2.2.2.1 bt872.2.2.2.2.1 bt872.2.2.2.2.2.1 bt872.2.2.2.2.2.2.1 bt872.2.2.2.2.2.2.2.1) else (some false)))))
def laws_FnHints.j1 : Nat → List Int → List (S113) → Int → List Int → Bool → Int → Int → List Int → Int → Int → List Int → Int → Int → Option (Bool)
 | 0, _, _, _, _, _, _, _, _, _, _, _, _, _ => none
 | k + 1, x0, x4, x5, x6, x45, x852000, x852001, x852002, x852003, x852004, x852005, x852006, x852007 => if x45 = true then (some false) else (laws_FnHints.l1 k x0 x4 x5 x6 0 x852000 x852001 x852002 x852003 x852004 x852005 x852006 x852007)
def laws_FnHints.l1 : Nat → List Int → List (S113) → Int → List Int → Int → Int → Int → List Int → Int → Int → List Int → Int → Int → Option (Bool)
 | 0, _, _, _, _, _, _, _, _, _, _, _, _, _ => none
 | k + 1, x0, x4, x5, x6, x7, x852000, x852001, x852002, x852003, x852004, x852005, x852006, x852007 => if x7 < (x4.length : Int) then ((impl_AreFinds.f k x4).bind fun t860 => (laws_FnHints.j3 k x0 x4 x5 x6 x7 t860 x852000 x852001 x852002 x852003 x852004 x852005 x852006 x852007)) else (laws_FnHints.j3 k x0 x4 x5 x6 x7 false x852000 x852001 x852002 x852003 x852004 x852005 x852006 x852007)
def laws_FnHints.j3 : Nat → List Int → List (S113) → Int → List Int → Int → Bool → Int → Int → List Int → Int → Int → List Int → Int → Int → Option (Bool)
 | 0, _, _, _, _, _, _, _, _, _, _, _, _, _, _ => none
 | k + 1, x0, x4, x5, x6, x7, x53, x852000, x852001, x852002, x852003, x852004, x852005, x852006, x852007 => if x53 = true then (if 0 ≤ x7 then (if x7 < (x4.length : Int) then ((impl_HintOf.f k ((rd_T113 x4 x7).f0.f0) ((rd_T113 x4 x7).f0.f1) ((rd_T113 x4 x7).f0.f2) ((rd_T113 x4 x7).f0.f3) ((rd_T113 x4 x7).f0.f4) x5).bind fun t862 => ((laws_contains.f k x6 t862).bind fun t863 => (if t863 = true then ((impl_CanBe.f k x852000 x852001 x852002 x852003 x852004 x852005 x852006 x852007 ((rd_T113 x4 x7).f0.f0) ((rd_T113 x4 x7).f0.f1) ((rd_T113 x4 x7).f0.f2) ((rd_T113 x4 x7).f0.f3) ((rd_T113 x4 x7).f0.f4) ((rd_T113 x4 x7).f1) ((rd_T113 x4 x7).f2) ((rd_T113 x4 x7).f3)).bind fun t865 => (if t865 = true then ((impl_HintsFor.f k x852000 x852001 x852002 x852003 x852004 x852005 x852006 x852007 x5).bind fun t866 => ((impl_HintOf.f k ((rd_T113 x4 x7).f0.f0) ((rd_T113 x4 x7).f0.f1) ((rd_T113 x4 x7).f0.f2) ((rd_T113 x4 x7).f0.f3) ((rd_T113 x4 x7).f0.f4) x5).bind fun t870 => ((laws_contains.f k t866 t870).bind fun t871 => (if t871 = true then (laws_FnHints.l1 k x0 x4 x5 x6 (wrap64 (x7 + 1)) x852000 x852001 x852002 x852003 x852004 x852005 x852006 x852007) else (some false))))) else (laws_FnHints.l1 k x0 x4 x5 x6 (wrap64 (x7 + 1)) x852000 x852001 x852002 x852003 x852004 x852005 x852006 x852007))) else (some false)))) else (none)) else (none)) else (laws_FnHints.l0 k x0 x4 (wrap64 (x5 + 1)) x852000 x852001 x852002 x852003 x852004 x852005 x852006 x852007)
def laws_FnHints.l2 : Nat → List Int → List (List Int) → Int → List Int → Int → Int → Int → List Int → Int → Int → List Int → Int → Int → Option (Bool)
 | 0, _, _, _, _, _, _, _, _, _, _, _, _, _ => none
 | k + 1, x0, x9, x10, x11, x12, x889000, x889001, x889002, x889003, x889004, x889005, x889006, x889007 => if x12 < (x9.length : Int) then ((laws_contains.f k x11 x12).bind fun t895 => (if 0 ≤ x12 then ((impl_MayHave.f k x889000 x889001 x889002 x889003 x889004 x889005 x889006 x889007 (rd_L4 x9 x12) x10).bind fun t897 => (if (t895 != t897) = true then (some false) else (laws_FnHints.l2 k x0 x9 x10 x11 (wrap64 (x12 + 1)) x889000 x889001 x889002 x889003 x889004 x889005 x889006 x889007))) else (none))) else ((spec_DrawSharedHints.f k x0).bind fun bt898 => ((laws_ascends.f k x11).bind fun t904 => (if t904 = true then ((impl_SharedHints.f k bt898.1 bt898.2).bind fun t905 => (if t905 ≤ (bt898.1.length : Int) then ((impl_SharedHints.f k bt898.1 bt898.2).bind fun t906 => ((impl_SharedHints.f k bt898.2 bt898.1).bind fun t907 => (some (t906 == t907)))) else (some false))) else (some false))))
end
def laws_FnHints.f (k : Nat) (l0 : List Int) : Option (Bool) := (laws_big.f l0).bind fun t835 => (if t835 = true then (some true) else ((spec_DrawCandidates.f k l0).bind fun bt836 => (laws_FnHints.l0 k l0 bt836.2.2.2.2.2.2.2.2 0 bt836.1 bt836.2.1 bt836.2.2.1 bt836.2.2.2.1 bt836.2.2.2.2.1 bt836.2.2.2.2.2.1 bt836.2.2.2.2.2.2.1 bt836.2.2.2.2.2.2.2.1)))
def laws_FnHints.T13 : Bool × List (List Nat × List Nat) := (true, [([], []), ([], []), ([], []), ([1, 2], [1, 2]), ([3], [3]), ([4], [4]), ([], []), ([5, 6], [5, 6]), ([0, 7, 7], [0, 7]), ([8], [8]), ([9, 8], [9]), ([10], [10]), ([10], [10]), ([10], [10]), ([12, 13, 10], [10, 12, 13]), ([14, 10], [10, 14]), ([11, 15, 10, 10], [10, 11, 15]), ([16, 16, 10], [10, 16]), ([17], [17]), ([17], [17]), ([18, 19, 17, 17], [17, 18, 19]), ([17], [17]), ([17], [17]), ([21, 22, 17], [17, 21, 22]), ([23, 17], [17, 23]), ([24, 17], [17, 24]), ([17], [17]), ([25, 26, 20, 17], [17, 25, 26]), ([20, 27, 27, 17], [17, 20, 27]), ([28, 17], [17, 28]), ([17, 29, 10], [10, 17, 29]), ([10, 30], [10, 30])])
def laws_FnHints.B13 : List Nat := [0, 0, 0, 6, 14, 30, 0, 126, 255, 511, 1023, 2047, 2047, 2047, 14335, 30719, 65535, 131071, 262143, 262143, 1048575, 262143, 262143, 6553599, 14942207, 31719423, 262143, 134217727, 268435455, 536870911, 1073741823, 2147483647]
theorem laws_FnHints.tab13 : rtab .any (opsOf Try.f11 13) = laws_FnHints.T13 := by kernel_rfl
theorem laws_FnHints.bits13 : waitsOk laws_FnHints.T13.2 laws_FnHints.B13 = true := by kernel_rfl
def laws_FnHints.T22 : Bool × List (List Nat × List Nat) := (true, [([], []), ([], []), ([0, 1], [0, 1]), ([], []), ([], []), ([], []), ([4, 5], [4, 5]), ([6], [6]), ([], []), ([3, 7, 8, 2], [3, 7, 8]), ([2, 9], [2, 9])])
def laws_FnHints.B22 : List Nat := [0, 0, 3, 0, 0, 0, 48, 112, 0, 511, 1023]
theorem laws_FnHints.tab22 : rtab .any (opsOf Try.f11 22) = laws_FnHints.T22 := by kernel_rfl
theorem laws_FnHints.bits22 : waitsOk laws_FnHints.T22.2 laws_FnHints.B22 = true := by kernel_rfl
theorem lf19_0 {p : Prop} (h : p := by
  go_wp2_with (first | ((with_reducible refine gc (f := 79) rfl ?_); refine gL (some 90) Try.func79 #[.slice A0 l0.length c0] ?_; (with_reducible refine (spec_DrawAskHouses.calls k1 _ _ l0 t872 t873 t874 t877 t878 t879 t882 t883 t884 t887 _ ?side1 ?side2 A69.o).mono ?_); (case side1 => exact Kd.qC (Kd.C_below HR0.o HB.o)); (case side2 => exact HC0.o); rintro e wz0 ⟨v875, v880, v885, rfl, ho0, ho1, ho2, hb⟩; refine ⟨_, rfl, ?_⟩; have _ := zK (Kd.R_below (Kd.qR HO_4.o) hb); have _ := zK (Kd.R_mono (Kd.R_told (Kd.R_told (Kd.R_old (Kd.qR HO_852002.o) hb) (Kd.R_base ho0)) (Kd.R_base ho1)) (fun _ h_ => h_.1)); have _ := zK (Kd.R_mono (Kd.R_told (Kd.R_told (Kd.R_old (Kd.qR HO_852005.o) hb) (Kd.R_base ho0)) (Kd.R_base ho1)) (fun _ h_ => h_.1)); have _ := zK (Kd.R_lower (Kd.R_new' (Kd.R_new' (Kd.R_mono (ok' := fun k_ => some k_ ≠ (v880 : Value).ownBlock) ho0 (fun _ hk_ => hk_.2)) (Kd.R_lt (Kd.qR HO_852002.o))) (Kd.R_lt (Kd.qR HO_852005.o))) (bZ M11)); have _ := zK (Kd.R_lower (Kd.R_new' (Kd.R_new' (Kd.R_mono (ok' := fun k_ => some k_ ≠ (v875 : Value).ownBlock) ho1 (fun _ hk_ => hk_.2)) (Kd.R_lt (Kd.qR HO_852002.o))) (Kd.R_lt (Kd.qR HO_852005.o))) (bZ M11)); have _ := zK (Kd.N_lower (Kd.N_mono (ok' := fun k_ => some k_ ≠ (v875 : Value).ownBlock ∧ some k_ ≠ (v880 : Value).ownBlock ∧ some k_ ≠ (v849 : Value).ownBlock ∧ some k_ ≠ (.slice Ao8 t838.length co8 : Value).ownBlock ∧ some k_ ≠ (.slice Ao9 t843.length co9 : Value).ownBlock ∧ k_ ≠ gb851) ho2 (fun k_ hk_ => ⟨hk_.2.1, hk_.2.2, (Kd.fresh' (Kd.R_lt (Kd.qR HO_4.o)) k_ hk_.1), (Kd.fresh' (Kd.R_lt (Kd.qR HO_852002.o)) k_ hk_.1), (Kd.fresh' (Kd.R_lt (Kd.qR HO_852005.o)) k_ hk_.1), (Kd.freshB (qK BK851.o) k_ hk_.1)⟩)) (bZ M11)); have _ := zK (bB (qK BK851.o) hb); have _ := zK (bT M11 hb); clear HO_4 HO_852002 HO_852005 BK851 HB; rename_i HO_4 HO_852002 HO_852005 HO876 HO881 HO886 BK851 HB; clear hb ho0 ho1 ho2) | ((with_reducible refine gd (N := 8) rfl ?_); (try (refine gate_guard (by rfl) ?_; dsimp only)); refine bE (N := 8) (cs := #[.int .i64 0, .int .i64 0, .slice none 0 0, .int .i64 0, .int .i64 0, .slice none 0 0, .int .i64 0, .int .i64 0]) (t := 41) ?_; intro gb888 hg wz1 hbox hb; have _ := zK (Kd.R_below (Kd.qR HO_4.o) hb); have _ := zK (Kd.R_below (Kd.qR HO_852002.o) hb); have _ := zK (Kd.R_below (Kd.qR HO_852005.o) hb); have _ := zK (Kd.R_below (Kd.qR HO876.o) hb); have _ := zK (Kd.R_below (Kd.qR HO881.o) hb); have _ := zK (Kd.N_below (Kd.N_elderB (by (with_reducible repeat (first | apply Kd.N_alloc | apply Kd.N_drewN | apply Kd.N_drew)); exact HO886.o) gb888 (Nat.le_of_eq hg.symm)) hb); have _ := zK (bB (qK BK851.o) hb); have _ := zK (bT M11 hb); have _ := zK (hbox); have _ := zK ((by rw [hg]; exact (bZ M11) : w.heap.size ≤ gb888)); have _ := zK ((by rw [hg]; exact (bZ M11) : w.heap.size ≤ gb888)); have _ := zK ((by rw [hg]; exact Nat.ne_of_lt (blk_lt (qK BK851.o)) : gb851 ≠ gb888)); have _ := zK ((by rw [hg]; exact Nat.ne_of_gt (blk_lt (qK BK851.o)) : gb888 ≠ gb851)); clear HO_4 HO_852002 HO_852005 HO876 HO881 HO886 BK851 HB; rename_i HO_4 HO_852002 HO_852005 HO876 HO881 HO886 BK851 HB BK888 GW888 GE888 NB851_888 NB888_851; clear hb hbox hg; have hnbz0 := NB888_851.o; have hncz0 := NB851_888.o; obtain ⟨hczz1_0, hczz1_1, hczz1_2, hczz1_3, hczz1_4, hczz1_5, hczz1_6, hczz1_7, hfzz1_0, hfzz1_1, hfzz1_2, hfzz1_3, hfzz1_4, hfzz1_5, hfzz1_6, hfzz1_7⟩ := bx8 BK888.o; obtain ⟨Aoz0, coz0, eoz0⟩ := Kd.R_slice HO876.o; subst eoz0; obtain ⟨Aoz1, coz1, eoz1⟩ := Kd.R_slice HO881.o; subst eoz1; obtain ⟨Aoz2, coz2, eoz2⟩ := Kd.N_slice HO886.o; subst eoz2) | ((with_reducible refine gc (f := 44) rfl ?_); refine goesL_ (some 97) rfl rfl Try.func44 (by kernel_rfl) rfl #[.agg #[.int .i64 t872, .int .i64 t873, .slice Aoz0 t874.length coz0, .int .i64 t877, .int .i64 t878, .slice Aoz1 t879.length coz1, .int .i64 t882, .int .i64 t883], .slice Aoz2 t884.length coz2, .int .i64 t887] rfl M0 ?_; (with_reducible refine (impl_AskHouses.calls k1 t872 t873 _ _ t874 t877 t878 _ _ t879 t882 t883 _ _ t884 t887 t889 _ ?side1 ?side2 ?side3 ?side4 ?side5 ?side6 A70.o).mono ?_); (case side1 => refine (Kd.R_reads' (e := 3) (base := w.heap.size) (ok := fun k_ => ((some k_ ≠ (.slice Aoz1 t879.length coz1 : Value).ownBlock ∧ some k_ ≠ (.slice Ao8 t838.length co8 : Value).ownBlock) ∧ some k_ ≠ (.slice Ao9 t843.length co9 : Value).ownBlock)) (n := t874.length) (c := coz0) ?_).2.2; exact (Kd.qF HO876.o BK888.o)); (case side2 => exact (Kd.R_reads' HO876.o).2.1); (case side3 => refine (Kd.R_reads' (e := 3) (base := w.heap.size) (ok := fun k_ => ((some k_ ≠ (.slice Aoz0 t874.length coz0 : Value).ownBlock ∧ some k_ ≠ (.slice Ao8 t838.length co8 : Value).ownBlock) ∧ some k_ ≠ (.slice Ao9 t843.length co9 : Value).ownBlock)) (n := t879.length) (c := coz1) ?_).2.2; exact (Kd.qF HO881.o BK888.o)); (case side4 => exact (Kd.R_reads' HO881.o).2.1); (case side5 => refine (Kd.N_reads' (e := 24) (base := w.heap.size) (ok := fun k_ => ((some k_ ≠ (.slice Aoz0 t874.length coz0 : Value).ownBlock ∧ (some k_ ≠ (.slice Aoz1 t879.length coz1 : Value).ownBlock ∧ (some k_ ≠ (v849 : Value).ownBlock ∧ (some k_ ≠ (.slice Ao8 t838.length co8 : Value).ownBlock ∧ (some k_ ≠ (.slice Ao9 t843.length co9 : Value).ownBlock ∧ k_ ≠ gb851))))) ∧ k_ ≠ gb888)) (n := t884.length) (c := coz2) ?_).2.2; exact M43); (case side6 => exact (Kd.N_reads' HO886.o).2.1); rintro e wz2 ⟨v890, rfl, ho0, hb⟩; refine ⟨_, rfl, ?_⟩; have _ := zK (Kd.R_below (Kd.qF HO_4.o BK888.o) hb); have _ := zK (Kd.R_elder' (Kd.qF HO_852002.o BK888.o) (Kd.R_base ho0) hb); have _ := zK (Kd.R_elder' (Kd.qF HO_852005.o BK888.o) (Kd.R_base ho0) hb); have _ := zK (Kd.R_elder' (Kd.qF HO876.o BK888.o) (Kd.R_base ho0) hb); have _ := zK (Kd.R_elder' (Kd.qF HO881.o BK888.o) (Kd.R_base ho0) hb); have _ := zK (Kd.N_elder' M43 (Kd.R_base ho0) hb); have _ := zK (Kd.R_lower (Kd.R_new' (Kd.R_new' (Kd.R_new' (Kd.R_new' ho0 (Kd.R_lt (Kd.qF HO_852002.o BK888.o))) (Kd.R_lt (Kd.qF HO_852005.o BK888.o))) (Kd.R_lt (Kd.qF HO876.o BK888.o))) (Kd.R_lt (Kd.qF HO881.o BK888.o))) (bZ M11)); have _ := zK (bB (g := gb851) (o := .cells #[.int .i64 t836, .int .i64 t837, .slice Ao8 t838.length co8, .int .i64 t841, .int .i64 t842, .slice Ao9 t843.length co9, .int .i64 t846, .int .i64 t847] 41 (0, 0)) (qP BK851.o) hb); have _ := zK (bB (g := gb888) (o := .cells #[.int .i64 t872, .int .i64 t873, .slice Aoz0 t874.length coz0, .int .i64 t877, .int .i64 t878, .slice Aoz1 t879.length coz1, .int .i64 t882, .int .i64 t883] 41 (0, 0)) (qP BK888.o) hb); have _ := zK (bT M11 hb); clear HO_4 HO_852002 HO_852005 HO876 HO881 HO886 BK851 BK888 HB; rename_i HO_4 HO_852002 HO_852005 HO876 HO881 HO886 HO891 BK851 BK888 HB; clear hb ho0; obtain ⟨Aoz3, coz3, eoz3⟩ := Kd.R_slice HO891.o; subst eoz3; obtain ⟨hczz2_0, hczz2_1, hczz2_2, hczz2_3, hczz2_4, hczz2_5, hczz2_6, hczz2_7, hfzz2_0, hfzz2_1, hfzz2_2, hfzz2_3, hfzz2_4, hfzz2_5, hfzz2_6, hfzz2_7⟩ := bx8 BK888.o) | ((with_reducible refine gc (f := 42) rfl ?_); refine goesL_ (some 103) rfl rfl Try.func42 (by kernel_rfl) rfl #[.agg #[.int .i64 t872, .int .i64 t873, .slice Aoz0 t874.length coz0, .int .i64 t877, .int .i64 t878, .slice Aoz1 t879.length coz1, .int .i64 t882, .int .i64 t883], .slice Aoz2 t884.length coz2, .int .i64 t887] rfl M0 ?_; (with_reducible refine (spec_AskHouses.calls k1 t872 t873 _ _ t874 t877 t878 _ _ t879 t882 t883 _ _ t884 t887 t892 _ ?side1 ?side2 ?side3 ?side4 ?side5 ?side6 A71.o).mono ?_); (case side1 => exact Kd.qC (Kd.R_reads' HO876.o).2.2); (case side2 => exact (Kd.R_reads' HO876.o).2.1); (case side3 => exact Kd.qC (Kd.R_reads' HO881.o).2.2); (case side4 => exact (Kd.R_reads' HO881.o).2.1); (case side5 => exact J13); (case side6 => exact (Kd.N_reads' HO886.o).2.1); rintro e wz3 ⟨v893, rfl, ho0, hb⟩; refine ⟨_, rfl, ?_⟩; have _ := zK (Kd.R_below (Kd.qR HO_4.o) hb); have _ := zK (Kd.R_elder' (Kd.qR HO_852002.o) (Kd.R_base ho0) hb); have _ := zK (Kd.R_elder' (Kd.qR HO_852005.o) (Kd.R_base ho0) hb); have _ := zK (Kd.R_elder' (Kd.qR HO876.o) (Kd.R_base ho0) hb); have _ := zK (Kd.R_elder' (Kd.qR HO881.o) (Kd.R_base ho0) hb); have _ := zK (Kd.N_elder' (by (with_reducible repeat (first | apply Kd.N_alloc | apply Kd.N_drewN | apply Kd.N_drew)); exact HO886.o) (Kd.R_base ho0) hb); have _ := zK (Kd.R_elder' (Kd.qR HO891.o) (Kd.R_base ho0) hb); have _ := zK (Kd.R_lower (Kd.R_new' (Kd.R_new' (Kd.R_new' (Kd.R_new' (Kd.R_new' ho0 (Kd.R_lt (Kd.qR HO_852002.o))) (Kd.R_lt (Kd.qR HO_852005.o))) (Kd.R_lt (Kd.qR HO876.o))) (Kd.R_lt (Kd.qR HO881.o))) (Kd.R_lt (Kd.qR HO891.o))) (bZ M11)); have _ := zK (bB (qK BK851.o) hb); have _ := zK (bB (qK BK888.o) hb); have _ := zK (bT M11 hb); clear HO_4 HO_852002 HO_852005 HO876 HO881 HO886 HO891 BK851 BK888 HB; rename_i HO_4 HO_852002 HO_852005 HO876 HO881 HO886 HO891 HO894 BK851 BK888 HB; (try clear hb); (try clear hb2); (try clear hk); (try clear hi); (try clear ho0); obtain ⟨Aoz4, coz4, eoz4⟩ := Kd.R_slice HO894.o; subst eoz4) | ((with_reducible refine gc (f := 80) rfl ?_); refine gL (some 125) Try.func80 #[.slice A0 l0.length c0] ?_; (with_reducible refine (spec_DrawSharedHints.calls k2 _ _ l0 t898 t901 _ ?side1 ?side2 A94.o).mono ?_); (case side1 => exact Kd.qC (Kd.C_below HR0.o HB.o)); (case side2 => exact HC0.o); rintro e wz0 ⟨v899, v902, rfl, ho0, ho1, hb⟩; refine ⟨_, rfl, ?_⟩; have _ := zK (Kd.N_below M42 hb); have _ := zK (Kd.R_below (Kd.qR HO_11.o) hb); have _ := zK (Kd.R_below (Kd.qR HO_852002.o) hb); have _ := zK (Kd.R_below (Kd.qR HO_852005.o) hb); have _ := zK (Kd.R_below (Kd.qR HO_889002.o) hb); have _ := zK (Kd.R_below (Kd.qR HO_889005.o) hb); have _ := zK (Kd.V_lower (Kd.V_mono (ok' := fun k_ => some k_ ≠ (.slice Ao79 t884.length co79 : Value).ownBlock ∧ some k_ ≠ (.slice Ao81 t889.length co81 : Value).ownBlock ∧ some k_ ≠ (.slice Ao8 t838.length co8 : Value).ownBlock ∧ some k_ ≠ (.slice Ao9 t843.length co9 : Value).ownBlock ∧ some k_ ≠ (.slice Ao77 t874.length co77 : Value).ownBlock ∧ some k_ ≠ (.slice Ao78 t879.length co78 : Value).ownBlock ∧ k_ ≠ gb851 ∧ k_ ≠ gb888) ho0 (fun k_ hk_ => ⟨(Kd.fresh' (Kd.N_lt M42) k_ hk_), (Kd.fresh' (Kd.R_lt (Kd.qR HO_11.o)) k_ hk_), (Kd.fresh' (Kd.R_lt (Kd.qR HO_852002.o)) k_ hk_), (Kd.fresh' (Kd.R_lt (Kd.qR HO_852005.o)) k_ hk_), (Kd.fresh' (Kd.R_lt (Kd.qR HO_889002.o)) k_ hk_), (Kd.fresh' (Kd.R_lt (Kd.qR HO_889005.o)) k_ hk_), (Kd.freshB (qK BK851.o) k_ hk_), (Kd.freshB (qK BK888.o) k_ hk_)⟩)) (bZ M11)); have _ := zK (Kd.V_lower (Kd.V_mono (ok' := fun k_ => some k_ ≠ (.slice Ao79 t884.length co79 : Value).ownBlock ∧ some k_ ≠ (.slice Ao81 t889.length co81 : Value).ownBlock ∧ some k_ ≠ (.slice Ao8 t838.length co8 : Value).ownBlock ∧ some k_ ≠ (.slice Ao9 t843.length co9 : Value).ownBlock ∧ some k_ ≠ (.slice Ao77 t874.length co77 : Value).ownBlock ∧ some k_ ≠ (.slice Ao78 t879.length co78 : Value).ownBlock ∧ k_ ≠ gb851 ∧ k_ ≠ gb888) ho1 (fun k_ hk_ => ⟨(Kd.fresh' (Kd.N_lt M42) k_ hk_), (Kd.fresh' (Kd.R_lt (Kd.qR HO_11.o)) k_ hk_), (Kd.fresh' (Kd.R_lt (Kd.qR HO_852002.o)) k_ hk_), (Kd.fresh' (Kd.R_lt (Kd.qR HO_852005.o)) k_ hk_), (Kd.fresh' (Kd.R_lt (Kd.qR HO_889002.o)) k_ hk_), (Kd.fresh' (Kd.R_lt (Kd.qR HO_889005.o)) k_ hk_), (Kd.freshB (qK BK851.o) k_ hk_), (Kd.freshB (qK BK888.o) k_ hk_)⟩)) (bZ M11)); have _ := zK (bB (qK BK851.o) hb); have _ := zK (bB (qK BK888.o) hb); have _ := zK (bT M11 hb); clear HO_9 HO_11 HO_852002 HO_852005 HO_889002 HO_889005 BK851 BK888 HB; rename_i HO_9 HO_11 HO_852002 HO_852005 HO_889002 HO_889005 HO900 HO903 BK851 BK888 HB; clear hb ho0 ho1) | ((with_reducible refine gc (f := 74) rfl ?_); refine gL (some 129) Try.func74 #[.slice Ao81 t889.length co81] ?_; (with_reducible refine (laws_ascends.calls k2 _ _ t889 true _ ?side1 ?side2 A95.o).mono ?_); (case side1 => exact Kd.qC (Kd.R_reads' HO_11.o).2.2); (case side2 => exact (Kd.R_reads' HO_11.o).2.1); rintro e w' ⟨rfl, ⟨nd, rfl⟩⟩; refine ⟨_, rfl, ?_⟩; obtain ⟨Aoz0, coz0, eoz0⟩ := Kd.V_slice HO900.o; subst eoz0; obtain ⟨Aoz1, coz1, eoz1⟩ := Kd.V_slice HO903.o; subst eoz1) | (go_at_call 81; (with_reducible refine (impl_SharedHints.calls k2 _ _ t898 _ _ t901 t905 _ ?side1 ?side2 ?side3 ?side4 A97.o).mono ?_); (case side1 => exact J7); (case side2 => exact (Kd.V_reads' HO900.o).2.1); (case side3 => exact J8); (case side4 => exact (Kd.V_reads' HO903.o).2.1); rintro e wz1 ⟨rfl, hb⟩; have _ := zK (Kd.N_below M42 hb); have _ := zK (Kd.R_below (Kd.qR HO_11.o) hb); have _ := zK (Kd.R_below (Kd.qR HO_852002.o) hb); have _ := zK (Kd.R_below (Kd.qR HO_852005.o) hb); have _ := zK (Kd.R_below (Kd.qR HO_889002.o) hb); have _ := zK (Kd.R_below (Kd.qR HO_889005.o) hb); have _ := zK (Kd.V_below (by (with_reducible repeat (first | apply Kd.V_alloc | apply Kd.V_drewN | apply Kd.V_drew)); exact HO900.o) hb); have _ := zK (Kd.V_below (by (with_reducible repeat (first | apply Kd.V_alloc | apply Kd.V_drewN | apply Kd.V_drew)); exact HO903.o) hb); have _ := zK (bB (qK BK851.o) hb); have _ := zK (bB (qK BK888.o) hb); have _ := zK (bT M11 hb); clear HO_9 HO_11 HO_852002 HO_852005 HO_889002 HO_889005 HO900 HO903 BK851 BK888 HB; rename_i HO_9 HO_11 HO_852002 HO_852005 HO_889002 HO_889005 HO900 HO903 BK851 BK888 HB; (try clear hb); (try clear hb2); (try clear hk); (try clear hi)) | (go_at_call 81; (with_reducible refine (impl_SharedHints.calls k2 _ _ t898 _ _ t901 t906 _ ?side1 ?side2 ?side3 ?side4 A99.o).mono ?_); (case side1 => exact J7); (case side2 => exact (Kd.V_reads' HO900.o).2.1); (case side3 => exact J8); (case side4 => exact (Kd.V_reads' HO903.o).2.1); rintro e wz2 ⟨rfl, hb⟩; have _ := zK (Kd.N_below M42 hb); have _ := zK (Kd.R_below (Kd.qR HO_11.o) hb); have _ := zK (Kd.R_below (Kd.qR HO_852002.o) hb); have _ := zK (Kd.R_below (Kd.qR HO_852005.o) hb); have _ := zK (Kd.R_below (Kd.qR HO_889002.o) hb); have _ := zK (Kd.R_below (Kd.qR HO_889005.o) hb); have _ := zK (Kd.V_below (by (with_reducible repeat (first | apply Kd.V_alloc | apply Kd.V_drewN | apply Kd.V_drew)); exact HO900.o) hb); have _ := zK (Kd.V_below (by (with_reducible repeat (first | apply Kd.V_alloc | apply Kd.V_drewN | apply Kd.V_drew)); exact HO903.o) hb); have _ := zK (bB (qK BK851.o) hb); have _ := zK (bB (qK BK888.o) hb); have _ := zK (bT M11 hb); clear HO_9 HO_11 HO_852002 HO_852005 HO_889002 HO_889005 HO900 HO903 BK851 BK888 HB; rename_i HO_9 HO_11 HO_852002 HO_852005 HO_889002 HO_889005 HO900 HO903 BK851 BK888 HB; (try clear hb); (try clear hb2); (try clear hk); (try clear hi)) | (go_at_call 81; (with_reducible refine (impl_SharedHints.calls k2 _ _ t901 _ _ t898 t907 _ ?side1 ?side2 ?side3 ?side4 A100.o).mono ?_); (case side1 => exact J8); (case side2 => exact (Kd.V_reads' HO903.o).2.1); (case side3 => exact J7); (case side4 => exact (Kd.V_reads' HO900.o).2.1); rintro e wz3 ⟨rfl, hb⟩; have _ := zK (Kd.N_below M42 hb); have _ := zK (Kd.R_below (Kd.qR HO_11.o) hb); have _ := zK (Kd.R_below (Kd.qR HO_852002.o) hb); have _ := zK (Kd.R_below (Kd.qR HO_852005.o) hb); have _ := zK (Kd.R_below (Kd.qR HO_889002.o) hb); have _ := zK (Kd.R_below (Kd.qR HO_889005.o) hb); have _ := zK (Kd.V_below (by (with_reducible repeat (first | apply Kd.V_alloc | apply Kd.V_drewN | apply Kd.V_drew)); exact HO900.o) hb); have _ := zK (Kd.V_below (by (with_reducible repeat (first | apply Kd.V_alloc | apply Kd.V_drewN | apply Kd.V_drew)); exact HO903.o) hb); have _ := zK (bB (qK BK851.o) hb); have _ := zK (bB (qK BK888.o) hb); have _ := zK (bT M11 hb); clear HO_9 HO_11 HO_852002 HO_852005 HO_889002 HO_889005 HO900 HO903 BK851 BK888 HB; rename_i HO_9 HO_11 HO_852002 HO_852005 HO_889002 HO_889005 HO900 HO903 BK851 BK888 HB; (try clear hb); (try clear hb2); (try clear hk); (try clear hi)))
  go_ret
  exact ⟨o0, o3⟩) : p := h
theorem laws_FnHints.calls (k : Nat) (A0 : Option Addr) (c0 : Nat) (l0 : List Int) (r : Bool) (w : World) (hr0 : Kd.C (Kd.int .u8) w A0 l0.length l0) (hc0 : l0.length ≤ c0) (h : laws_FnHints.f k l0 = some r) :
  Calls Try.prog 11 #[.slice A0 l0.length c0] w fun e w' => e = .returned (.bool r) ∧ Below w.heap.size w w' := by
 have hu41 := Try.underlying41
 have hu111 := Try.underlying111
 have hu113 := Try.underlying113
 have HR0 := zK hr0
 have HC0 := zK hc0
 clear hr0 hc0
 have HB := zK (Below.refl w.heap.size w)
 have H : ((laws_big.f l0).bind fun t835 => (if t835 = true then (some true) else ((spec_DrawCandidates.f k l0).bind fun bt836 => (laws_FnHints.l0 k l0 bt836.2.2.2.2.2.2.2.2 0 bt836.1 bt836.2.1 bt836.2.2.1 bt836.2.2.2.1 bt836.2.2.2.2.1 bt836.2.2.2.2.2.1 bt836.2.2.2.2.2.2.1 bt836.2.2.2.2.2.2.2.1)))) = some r := h
 clear h
 replace H := Option.bind_eq_some_iff.mp H
 obtain ⟨t835, A20, H⟩ := H
 try dsimp only at H
 have A2 := zK A20
 clear A20
 by_cases c3 : t835 = true
 ·subst c3
  have H1 : (some true) = some r := by rw [if_pos rfl] at H; exact H
  clear H
  have H := H1
  clear H1
  obtain rfl := Option.some.inj H
  go_enter Try.func11, Try.ntmps11
  go_wp2_with (first | ((with_reducible refine gc (f := 30) rfl ?_); refine gL (some 16) Try.func30 #[.slice A0 l0.length c0] ?_; (with_reducible refine (laws_big.calls _ _ l0 true _ ?side1 ?side2 A2.o).mono ?_); (case side1 => exact Kd.qC HR0.o); (case side2 => exact HC0.o); rintro e w' ⟨rfl, ⟨nd, rfl⟩⟩; refine ⟨_, rfl, ?_⟩))
  go_ret
  exact ⟨o0, o8⟩
 replace c3 := Bool.eq_false_iff.mpr c3
 subst c3
 have H1 : ((spec_DrawCandidates.f k l0).bind fun bt836 => (laws_FnHints.l0 k l0 bt836.2.2.2.2.2.2.2.2 0 bt836.1 bt836.2.1 bt836.2.2.1 bt836.2.2.2.1 bt836.2.2.2.2.1 bt836.2.2.2.2.2.1 bt836.2.2.2.2.2.2.1 bt836.2.2.2.2.2.2.2.1)) = some r := by rw [if_neg (show ¬ (false = true) by decide)] at H; exact H
 clear H
 have H := H1
 clear H1
 replace H := Option.bind_eq_some_iff.mp H
 obtain ⟨⟨t836, t837, t838, t841, t842, t843, t846, t847, t848⟩, A40, H⟩ := H
 try dsimp only at H
 have A4 := zK A40
 clear A40
 have H' := zK H
 clear H
 go_enter Try.func11, Try.ntmps11
 go_wp2_with (first | ((with_reducible refine gc (f := 30) rfl ?_); refine gL (some 16) Try.func30 #[.slice A0 l0.length c0] ?_; (with_reducible refine (laws_big.calls _ _ l0 false _ ?side1 ?side2 A2.o).mono ?_); (case side1 => exact Kd.qC HR0.o); (case side2 => exact HC0.o); rintro e w' ⟨rfl, ⟨nd, rfl⟩⟩; refine ⟨_, rfl, ?_⟩) | ((with_reducible refine gc (f := 73) rfl ?_); refine gL (some 19) Try.func73 #[.slice A0 l0.length c0] ?_; (with_reducible refine (spec_DrawCandidates.calls k _ _ l0 t836 t837 t838 t841 t842 t843 t846 t847 t848 _ ?side1 ?side2 A4.o).mono ?_); (case side1 => exact Kd.qC HR0.o); (case side2 => exact HC0.o); rintro e w5 ⟨v839, v844, v849, rfl, ho0, ho1, ho2, hb⟩; refine ⟨_, rfl, ?_⟩; have _ := zK (Kd.R_lower ho0 (bZ (qB HB.o))); have _ := zK (Kd.R_lower ho1 (bZ (qB HB.o))); have _ := zK (Kd.R_lower ho2 (bZ (qB HB.o))); have _ := zK (bT (qB HB.o) hb); clear HB; rename_i HO840 HO845 HO850 HB; clear hb ho0 ho1 ho2) | ((with_reducible refine gd (N := 3) rfl ?_); (try (refine gate_guard (by rfl) ?_; dsimp only)); refine bE (N := 3) (cs := #[.int .i64 0, .int .i64 0, .slice none 0 0, .int .i64 0, .int .i64 0, .slice none 0 0, .int .i64 0, .int .i64 0]) (t := 41) ?_; intro gb851 hg w6 hbox hb; have _ := zK (Kd.R_below (Kd.qR HO840.o) hb); have _ := zK (Kd.R_below (Kd.qR HO845.o) hb); have _ := zK (Kd.R_below (Kd.qR HO850.o) hb); have _ := zK (bT (qB HB.o) hb); have _ := zK (hbox); have _ := zK ((by rw [hg]; exact (bZ (qB HB.o)) : w.heap.size ≤ gb851)); have _ := zK ((by rw [hg]; exact (bZ (qB HB.o)) : w.heap.size ≤ gb851)); clear HO840 HO845 HO850 HB; rename_i HO840 HO845 HO850 HB BK851 GW851 GE851; clear hb hbox hg; obtain ⟨hcz7_0, hcz7_1, hcz7_2, hcz7_3, hcz7_4, hcz7_5, hcz7_6, hcz7_7, hfz7_0, hfz7_1, hfz7_2, hfz7_3, hfz7_4, hfz7_5, hfz7_6, hfz7_7⟩ := bx8 BK851.o; obtain ⟨Ao8, co8, eo8⟩ := Kd.R_slice HO840.o; subst eo8; obtain ⟨Ao9, co9, eo9⟩ := Kd.R_slice HO845.o; subst eo9))
 go_loopg [5] k (fun kq v5 w' => ∃ (x5_1 : Int), v5 = .int .i64 x5_1 ∧ Aside0 (laws_FnHints.l0 kq l0 t848 x5_1 t836 t837 t838 t841 t842 t843 t846 t847 = some r) ∧ Aside0 (kq ≤ k) ∧ Aside0 (Kd.R k113 113 w' w.heap.size (fun _ => True) v849 t848) ∧ Aside0 (Kd.R (Kd.int .i64) 3 w' w.heap.size (fun k_ => some k_ ≠ ((.slice Ao9 t843.length co9) : Value).ownBlock) (.slice Ao8 t838.length co8) t838) ∧ Aside0 (Kd.R (Kd.int .i64) 3 w' w.heap.size (fun k_ => some k_ ≠ ((.slice Ao8 t838.length co8) : Value).ownBlock) (.slice Ao9 t843.length co9) t843) ∧ Aside0 (w'.heap[gb851]? = some (.cells #[.int .i64 t836, .int .i64 t837, (.slice Ao8 t838.length co8), .int .i64 t841, .int .i64 t842, (.slice Ao9 t843.length co9), .int .i64 t846, .int .i64 t847] 41 (0, 0))) ∧ Aside0 (Below w.heap.size w w'))
 case atStart => exact ⟨(0), M12, H', ⟨Nat.le_refl _⟩, ⟨Kd.R_mono (Kd.qF HO850.o BK851.o) (fun _ hk => trivial)⟩, ⟨Kd.qF HO840.o BK851.o⟩, ⟨Kd.qF HO845.o BK851.o⟩, ⟨qP BK851.o⟩, ⟨o3⟩⟩
 case round =>
  clear H'
  try clear c1
  try clear p2
  try clear c3
  try clear c7
  try clear hcz7_0 hcz7_1 hcz7_2 hcz7_3 hcz7_4 hcz7_5 hcz7_6 hcz7_7 hfz7_0 hfz7_1 hfz7_2 hfz7_3 hfz7_4 hfz7_5 hfz7_6 hfz7_7
  obtain ⟨x5_1, rfl, HA, HK1, HO_4, HO_852002, HO_852005, BK851, HB⟩ := hrel
  cases gk with
  | zero => exact absurd HA.o (by simp [laws_FnHints.l0])
  | succ k1 =>
   have H := HA.o
   clear HA
   simp only [laws_FnHints.l0] at H
   by_cases c10 : x5_1 < 2
   rotate_left
   ·rw [if_neg c10] at H
    have c10b0 : decide (x5_1 < 2) = false := decide_eq_false c10
    clear c10
    replace H := Option.bind_eq_some_iff.mp H
    obtain ⟨⟨t872, t873, t874, t877, t878, t879, t882, t883, t884, t887⟩, A690, H⟩ := H
    try dsimp only at H
    have A69 := zK A690
    clear A690
    replace H := Option.bind_eq_some_iff.mp H
    obtain ⟨t889, A700, H⟩ := H
    try dsimp only at H
    have A70 := zK A700
    clear A700
    replace H := Option.bind_eq_some_iff.mp H
    obtain ⟨t892, A710, H⟩ := H
    try dsimp only at H
    have A71 := zK A710
    clear A710
    by_cases c72 : (t889.length : Int) = (t892.length : Int)
    rotate_left
    ·rw [if_neg c72] at H
     have c72b0 : ((t889.length : Int) == (t892.length : Int)) = false := beq_eq_false_iff_ne.mpr c72
     have c72b1 : ((t889.length : Int) != (t892.length : Int)) = true := bne_iff_ne.mpr c72
     have c72b2 : (t889.length == t892.length) = false := by first | simpa using c72 | (simp at c72 ⊢; omega)
     obtain rfl := Option.some.inj H
     exact lf19_0

    rw [if_pos c72] at H
    have c72b0 : ((t889.length : Int) == (t892.length : Int)) = true := beq_iff_eq.mpr c72
    have c72b1 : ((t889.length : Int) != (t892.length : Int)) = false := bne_eq_false_iff_eq.mpr c72
    have c72b2 : (t889.length == t892.length) = true := by first | simpa using c72 | (simp at c72 ⊢; omega)
    clear c72
    have H' := zK H
    clear H
    go_wp2_with (first | ((with_reducible refine gc (f := 79) rfl ?_); refine gL (some 90) Try.func79 #[.slice A0 l0.length c0] ?_; (with_reducible refine (spec_DrawAskHouses.calls k1 _ _ l0 t872 t873 t874 t877 t878 t879 t882 t883 t884 t887 _ ?side1 ?side2 A69.o).mono ?_); (case side1 => exact Kd.qC (Kd.C_below HR0.o HB.o)); (case side2 => exact HC0.o); rintro e w73 ⟨v875, v880, v885, rfl, ho0, ho1, ho2, hb⟩; refine ⟨_, rfl, ?_⟩; have _ := zK (Kd.R_below (Kd.qR HO_4.o) hb); have _ := zK (Kd.R_mono (Kd.R_told (Kd.R_told (Kd.R_old (Kd.qR HO_852002.o) hb) (Kd.R_base ho0)) (Kd.R_base ho1)) (fun _ h_ => h_.1)); have _ := zK (Kd.R_mono (Kd.R_told (Kd.R_told (Kd.R_old (Kd.qR HO_852005.o) hb) (Kd.R_base ho0)) (Kd.R_base ho1)) (fun _ h_ => h_.1)); have _ := zK (Kd.R_lower (Kd.R_new' (Kd.R_new' (Kd.R_mono (ok' := fun k_ => some k_ ≠ (v880 : Value).ownBlock) ho0 (fun _ hk_ => hk_.2)) (Kd.R_lt (Kd.qR HO_852002.o))) (Kd.R_lt (Kd.qR HO_852005.o))) (bZ M11)); have _ := zK (Kd.R_lower (Kd.R_new' (Kd.R_new' (Kd.R_mono (ok' := fun k_ => some k_ ≠ (v875 : Value).ownBlock) ho1 (fun _ hk_ => hk_.2)) (Kd.R_lt (Kd.qR HO_852002.o))) (Kd.R_lt (Kd.qR HO_852005.o))) (bZ M11)); have _ := zK (Kd.N_lower (Kd.N_mono (ok' := fun k_ => some k_ ≠ (v875 : Value).ownBlock ∧ some k_ ≠ (v880 : Value).ownBlock ∧ some k_ ≠ (v849 : Value).ownBlock ∧ some k_ ≠ (.slice Ao8 t838.length co8 : Value).ownBlock ∧ some k_ ≠ (.slice Ao9 t843.length co9 : Value).ownBlock ∧ k_ ≠ gb851) ho2 (fun k_ hk_ => ⟨hk_.2.1, hk_.2.2, (Kd.fresh' (Kd.R_lt (Kd.qR HO_4.o)) k_ hk_.1), (Kd.fresh' (Kd.R_lt (Kd.qR HO_852002.o)) k_ hk_.1), (Kd.fresh' (Kd.R_lt (Kd.qR HO_852005.o)) k_ hk_.1), (Kd.freshB (qK BK851.o) k_ hk_.1)⟩)) (bZ M11)); have _ := zK (bB (qK BK851.o) hb); have _ := zK (bT M11 hb); clear HO_4 HO_852002 HO_852005 BK851 HB; rename_i HO_4 HO_852002 HO_852005 HO876 HO881 HO886 BK851 HB; clear hb ho0 ho1 ho2) | ((with_reducible refine gd (N := 8) rfl ?_); (try (refine gate_guard (by rfl) ?_; dsimp only)); refine bE (N := 8) (cs := #[.int .i64 0, .int .i64 0, .slice none 0 0, .int .i64 0, .int .i64 0, .slice none 0 0, .int .i64 0, .int .i64 0]) (t := 41) ?_; intro gb888 hg w74 hbox hb; have _ := zK (Kd.R_below (Kd.qR HO_4.o) hb); have _ := zK (Kd.R_below (Kd.qR HO_852002.o) hb); have _ := zK (Kd.R_below (Kd.qR HO_852005.o) hb); have _ := zK (Kd.R_below (Kd.qR HO876.o) hb); have _ := zK (Kd.R_below (Kd.qR HO881.o) hb); have _ := zK (Kd.N_below (Kd.N_elderB (by (with_reducible repeat (first | apply Kd.N_alloc | apply Kd.N_drewN | apply Kd.N_drew)); exact HO886.o) gb888 (Nat.le_of_eq hg.symm)) hb); have _ := zK (bB (qK BK851.o) hb); have _ := zK (bT M11 hb); have _ := zK (hbox); have _ := zK ((by rw [hg]; exact (bZ M11) : w.heap.size ≤ gb888)); have _ := zK ((by rw [hg]; exact (bZ M11) : w.heap.size ≤ gb888)); have _ := zK ((by rw [hg]; exact Nat.ne_of_lt (blk_lt (qK BK851.o)) : gb851 ≠ gb888)); have _ := zK ((by rw [hg]; exact Nat.ne_of_gt (blk_lt (qK BK851.o)) : gb888 ≠ gb851)); clear HO_4 HO_852002 HO_852005 HO876 HO881 HO886 BK851 HB; rename_i HO_4 HO_852002 HO_852005 HO876 HO881 HO886 BK851 HB BK888 GW888 GE888 NB851_888 NB888_851; clear hb hbox hg; have hnb75 := NB888_851.o; have hnc75 := NB851_888.o; obtain ⟨hcz76_0, hcz76_1, hcz76_2, hcz76_3, hcz76_4, hcz76_5, hcz76_6, hcz76_7, hfz76_0, hfz76_1, hfz76_2, hfz76_3, hfz76_4, hfz76_5, hfz76_6, hfz76_7⟩ := bx8 BK888.o; obtain ⟨Ao77, co77, eo77⟩ := Kd.R_slice HO876.o; subst eo77; obtain ⟨Ao78, co78, eo78⟩ := Kd.R_slice HO881.o; subst eo78; obtain ⟨Ao79, co79, eo79⟩ := Kd.N_slice HO886.o; subst eo79) | ((with_reducible refine gc (f := 44) rfl ?_); refine goesL_ (some 97) rfl rfl Try.func44 (by kernel_rfl) rfl #[.agg #[.int .i64 t872, .int .i64 t873, .slice Ao77 t874.length co77, .int .i64 t877, .int .i64 t878, .slice Ao78 t879.length co78, .int .i64 t882, .int .i64 t883], .slice Ao79 t884.length co79, .int .i64 t887] rfl M0 ?_; (with_reducible refine (impl_AskHouses.calls k1 t872 t873 _ _ t874 t877 t878 _ _ t879 t882 t883 _ _ t884 t887 t889 _ ?side1 ?side2 ?side3 ?side4 ?side5 ?side6 A70.o).mono ?_); (case side1 => refine (Kd.R_reads' (e := 3) (base := w.heap.size) (ok := fun k_ => ((some k_ ≠ (.slice Ao78 t879.length co78 : Value).ownBlock ∧ some k_ ≠ (.slice Ao8 t838.length co8 : Value).ownBlock) ∧ some k_ ≠ (.slice Ao9 t843.length co9 : Value).ownBlock)) (n := t874.length) (c := co77) ?_).2.2; exact (Kd.qF HO876.o BK888.o)); (case side2 => exact (Kd.R_reads' HO876.o).2.1); (case side3 => refine (Kd.R_reads' (e := 3) (base := w.heap.size) (ok := fun k_ => ((some k_ ≠ (.slice Ao77 t874.length co77 : Value).ownBlock ∧ some k_ ≠ (.slice Ao8 t838.length co8 : Value).ownBlock) ∧ some k_ ≠ (.slice Ao9 t843.length co9 : Value).ownBlock)) (n := t879.length) (c := co78) ?_).2.2; exact (Kd.qF HO881.o BK888.o)); (case side4 => exact (Kd.R_reads' HO881.o).2.1); (case side5 => refine (Kd.N_reads' (e := 24) (base := w.heap.size) (ok := fun k_ => ((some k_ ≠ (.slice Ao77 t874.length co77 : Value).ownBlock ∧ (some k_ ≠ (.slice Ao78 t879.length co78 : Value).ownBlock ∧ (some k_ ≠ (v849 : Value).ownBlock ∧ (some k_ ≠ (.slice Ao8 t838.length co8 : Value).ownBlock ∧ (some k_ ≠ (.slice Ao9 t843.length co9 : Value).ownBlock ∧ k_ ≠ gb851))))) ∧ k_ ≠ gb888)) (n := t884.length) (c := co79) ?_).2.2; exact M44); (case side6 => exact (Kd.N_reads' HO886.o).2.1); rintro e w80 ⟨v890, rfl, ho0, hb⟩; refine ⟨_, rfl, ?_⟩; have _ := zK (Kd.R_below (Kd.qF HO_4.o BK888.o) hb); have _ := zK (Kd.R_elder' (Kd.qF HO_852002.o BK888.o) (Kd.R_base ho0) hb); have _ := zK (Kd.R_elder' (Kd.qF HO_852005.o BK888.o) (Kd.R_base ho0) hb); have _ := zK (Kd.R_elder' (Kd.qF HO876.o BK888.o) (Kd.R_base ho0) hb); have _ := zK (Kd.R_elder' (Kd.qF HO881.o BK888.o) (Kd.R_base ho0) hb); have _ := zK (Kd.N_elder' M44 (Kd.R_base ho0) hb); have _ := zK (Kd.R_lower (Kd.R_new' (Kd.R_new' (Kd.R_new' (Kd.R_new' ho0 (Kd.R_lt (Kd.qF HO_852002.o BK888.o))) (Kd.R_lt (Kd.qF HO_852005.o BK888.o))) (Kd.R_lt (Kd.qF HO876.o BK888.o))) (Kd.R_lt (Kd.qF HO881.o BK888.o))) (bZ M11)); have _ := zK (bB (g := gb851) (o := .cells #[.int .i64 t836, .int .i64 t837, .slice Ao8 t838.length co8, .int .i64 t841, .int .i64 t842, .slice Ao9 t843.length co9, .int .i64 t846, .int .i64 t847] 41 (0, 0)) (qP BK851.o) hb); have _ := zK (bB (g := gb888) (o := .cells #[.int .i64 t872, .int .i64 t873, .slice Ao77 t874.length co77, .int .i64 t877, .int .i64 t878, .slice Ao78 t879.length co78, .int .i64 t882, .int .i64 t883] 41 (0, 0)) (qP BK888.o) hb); have _ := zK (bT M11 hb); clear HO_4 HO_852002 HO_852005 HO876 HO881 HO886 BK851 BK888 HB; rename_i HO_4 HO_852002 HO_852005 HO876 HO881 HO886 HO891 BK851 BK888 HB; clear hb ho0; obtain ⟨Ao81, co81, eo81⟩ := Kd.R_slice HO891.o; subst eo81; obtain ⟨hcz82_0, hcz82_1, hcz82_2, hcz82_3, hcz82_4, hcz82_5, hcz82_6, hcz82_7, hfz82_0, hfz82_1, hfz82_2, hfz82_3, hfz82_4, hfz82_5, hfz82_6, hfz82_7⟩ := bx8 BK888.o) | ((with_reducible refine gc (f := 42) rfl ?_); refine goesL_ (some 103) rfl rfl Try.func42 (by kernel_rfl) rfl #[.agg #[.int .i64 t872, .int .i64 t873, .slice Ao77 t874.length co77, .int .i64 t877, .int .i64 t878, .slice Ao78 t879.length co78, .int .i64 t882, .int .i64 t883], .slice Ao79 t884.length co79, .int .i64 t887] rfl M0 ?_; (with_reducible refine (spec_AskHouses.calls k1 t872 t873 _ _ t874 t877 t878 _ _ t879 t882 t883 _ _ t884 t887 t892 _ ?side1 ?side2 ?side3 ?side4 ?side5 ?side6 A71.o).mono ?_); (case side1 => exact Kd.qC (Kd.R_reads' HO876.o).2.2); (case side2 => exact (Kd.R_reads' HO876.o).2.1); (case side3 => exact Kd.qC (Kd.R_reads' HO881.o).2.2); (case side4 => exact (Kd.R_reads' HO881.o).2.1); (case side5 => exact J13); (case side6 => exact (Kd.N_reads' HO886.o).2.1); rintro e w83 ⟨v893, rfl, ho0, hb⟩; refine ⟨_, rfl, ?_⟩; have _ := zK (Kd.R_below (Kd.qR HO_4.o) hb); have _ := zK (Kd.R_elder' (Kd.qR HO_852002.o) (Kd.R_base ho0) hb); have _ := zK (Kd.R_elder' (Kd.qR HO_852005.o) (Kd.R_base ho0) hb); have _ := zK (Kd.R_elder' (Kd.qR HO876.o) (Kd.R_base ho0) hb); have _ := zK (Kd.R_elder' (Kd.qR HO881.o) (Kd.R_base ho0) hb); have _ := zK (Kd.N_elder' (by (with_reducible repeat (first | apply Kd.N_alloc | apply Kd.N_drewN | apply Kd.N_drew)); exact HO886.o) (Kd.R_base ho0) hb); have _ := zK (Kd.R_elder' (Kd.qR HO891.o) (Kd.R_base ho0) hb); have _ := zK (Kd.R_lower (Kd.R_new' (Kd.R_new' (Kd.R_new' (Kd.R_new' (Kd.R_new' ho0 (Kd.R_lt (Kd.qR HO_852002.o))) (Kd.R_lt (Kd.qR HO_852005.o))) (Kd.R_lt (Kd.qR HO876.o))) (Kd.R_lt (Kd.qR HO881.o))) (Kd.R_lt (Kd.qR HO891.o))) (bZ M11)); have _ := zK (bB (qK BK851.o) hb); have _ := zK (bB (qK BK888.o) hb); have _ := zK (bT M11 hb); clear HO_4 HO_852002 HO_852005 HO876 HO881 HO886 HO891 BK851 BK888 HB; rename_i HO_4 HO_852002 HO_852005 HO876 HO881 HO886 HO891 HO894 BK851 BK888 HB; (try clear hb); (try clear hb2); (try clear hk); (try clear hi); (try clear ho0); obtain ⟨Ao84, co84, eo84⟩ := Kd.R_slice HO894.o; subst eo84))
    go_loopg [12] k1 (fun kq v12 w' => ∃ (x12_2 : Int), v12 = .int .i64 x12_2 ∧ Aside0 (laws_FnHints.l2 kq l0 t884 t887 t889 x12_2 t872 t873 t874 t877 t878 t879 t882 t883 = some r) ∧ Aside0 (kq ≤ k1) ∧ Aside0 (Kd.N (Kd.slice 3 (Kd.int .i64)) 24 w' w.heap.size (fun k_ => some k_ ≠ ((.slice Ao81 t889.length co81) : Value).ownBlock ∧ some k_ ≠ ((.slice Ao8 t838.length co8) : Value).ownBlock ∧ some k_ ≠ ((.slice Ao9 t843.length co9) : Value).ownBlock ∧ some k_ ≠ ((.slice Ao77 t874.length co77) : Value).ownBlock ∧ some k_ ≠ ((.slice Ao78 t879.length co78) : Value).ownBlock ∧ k_ ≠ gb851 ∧ k_ ≠ gb888) (.slice Ao79 t884.length co79) t884) ∧ Aside0 (Kd.R (Kd.int .i64) 3 w' w.heap.size (fun k_ => some k_ ≠ ((.slice Ao8 t838.length co8) : Value).ownBlock ∧ some k_ ≠ ((.slice Ao9 t843.length co9) : Value).ownBlock ∧ some k_ ≠ ((.slice Ao77 t874.length co77) : Value).ownBlock ∧ some k_ ≠ ((.slice Ao78 t879.length co78) : Value).ownBlock) (.slice Ao81 t889.length co81) t889) ∧ Aside0 (Kd.R (Kd.int .i64) 3 w' w.heap.size (fun k_ => some k_ ≠ ((.slice Ao81 t889.length co81) : Value).ownBlock ∧ some k_ ≠ ((.slice Ao9 t843.length co9) : Value).ownBlock ∧ some k_ ≠ ((.slice Ao77 t874.length co77) : Value).ownBlock ∧ some k_ ≠ ((.slice Ao78 t879.length co78) : Value).ownBlock) (.slice Ao8 t838.length co8) t838) ∧ Aside0 (Kd.R (Kd.int .i64) 3 w' w.heap.size (fun k_ => some k_ ≠ ((.slice Ao81 t889.length co81) : Value).ownBlock ∧ some k_ ≠ ((.slice Ao8 t838.length co8) : Value).ownBlock ∧ some k_ ≠ ((.slice Ao77 t874.length co77) : Value).ownBlock ∧ some k_ ≠ ((.slice Ao78 t879.length co78) : Value).ownBlock) (.slice Ao9 t843.length co9) t843) ∧ Aside0 (Kd.R (Kd.int .i64) 3 w' w.heap.size (fun k_ => some k_ ≠ ((.slice Ao81 t889.length co81) : Value).ownBlock ∧ some k_ ≠ ((.slice Ao8 t838.length co8) : Value).ownBlock ∧ some k_ ≠ ((.slice Ao9 t843.length co9) : Value).ownBlock ∧ some k_ ≠ ((.slice Ao78 t879.length co78) : Value).ownBlock) (.slice Ao77 t874.length co77) t874) ∧ Aside0 (Kd.R (Kd.int .i64) 3 w' w.heap.size (fun k_ => some k_ ≠ ((.slice Ao81 t889.length co81) : Value).ownBlock ∧ some k_ ≠ ((.slice Ao8 t838.length co8) : Value).ownBlock ∧ some k_ ≠ ((.slice Ao9 t843.length co9) : Value).ownBlock ∧ some k_ ≠ ((.slice Ao77 t874.length co77) : Value).ownBlock) (.slice Ao78 t879.length co78) t879) ∧ Aside0 (w'.heap[gb851]? = some (.cells #[.int .i64 t836, .int .i64 t837, (.slice Ao8 t838.length co8), .int .i64 t841, .int .i64 t842, (.slice Ao9 t843.length co9), .int .i64 t846, .int .i64 t847] 41 (0, 0))) ∧ Aside0 (w'.heap[gb888]? = some (.cells #[.int .i64 t872, .int .i64 t873, (.slice Ao77 t874.length co77), .int .i64 t877, .int .i64 t878, (.slice Ao78 t879.length co78), .int .i64 t882, .int .i64 t883] 41 (0, 0))) ∧ Aside0 (Below w.heap.size w w'))
    case atStart => exact ⟨(0), M12, H', ⟨Nat.le_refl _⟩, ⟨by (with_reducible repeat (first | apply Kd.N_alloc | apply Kd.N_drewN | apply Kd.N_drew)); exact Kd.N_mono HO886.o (fun _ hk => ⟨hk.1.2, ⟨hk.1.1.1.2.2.2.1, ⟨hk.1.1.1.2.2.2.2.1, ⟨hk.1.1.1.1, ⟨hk.1.1.1.2.1, ⟨hk.1.1.1.2.2.2.2.2, hk.1.1.2⟩⟩⟩⟩⟩⟩)⟩, ⟨by (with_reducible repeat (first | apply Kd.RA | apply Kd.RN | apply Kd.RD)); exact Kd.R_mono HO891.o (fun _ hk => ⟨hk.1.1.1.1.2, ⟨hk.1.1.1.2, ⟨hk.1.1.2, hk.1.2⟩⟩⟩)⟩, ⟨by (with_reducible repeat (first | apply Kd.RA | apply Kd.RN | apply Kd.RD)); exact Kd.R_mono HO_852002.o (fun _ hk => ⟨hk.1.2, ⟨hk.1.1.1.1, ⟨hk.1.1.1.2, hk.1.1.2⟩⟩⟩)⟩, ⟨by (with_reducible repeat (first | apply Kd.RA | apply Kd.RN | apply Kd.RD)); exact Kd.R_mono HO_852005.o (fun _ hk => ⟨hk.1.2, ⟨hk.1.1.1.1, ⟨hk.1.1.1.2, hk.1.1.2⟩⟩⟩)⟩, ⟨by (with_reducible repeat (first | apply Kd.RA | apply Kd.RN | apply Kd.RD)); exact Kd.R_mono HO876.o (fun _ hk => ⟨hk.1.2, ⟨hk.1.1.1.2, ⟨hk.1.1.2, hk.1.1.1.1⟩⟩⟩)⟩, ⟨by (with_reducible repeat (first | apply Kd.RA | apply Kd.RN | apply Kd.RD)); exact Kd.R_mono HO881.o (fun _ hk => ⟨hk.1.2, ⟨hk.1.1.1.2, ⟨hk.1.1.2, hk.1.1.1.1⟩⟩⟩)⟩, ⟨by exact qK BK851.o⟩, ⟨by exact qK BK888.o⟩, ⟨o3⟩⟩
    case round =>
     clear H'
     try clear c1
     try clear p2
     try clear c3
     try clear c4
     try clear p6
     try clear c7
     try clear p8
     try clear q8
     try clear hx8
     try clear c10
     try clear c10b0
     try clear c36
     try clear c37
     try clear c38
     try clear c41
     try clear c42
     try clear c44
     try clear p64
     try clear c72
     try clear c72b0
     try clear c72b1
     try clear c72b2
     try clear c75
     try clear c77
     try clear c78
     try clear c79
     try clear hcz76_0 hcz76_1 hcz76_2 hcz76_3 hcz76_4 hcz76_5 hcz76_6 hcz76_7 hcz82_0 hcz82_1 hcz82_2 hcz82_3 hcz82_4 hcz82_5 hcz82_6 hcz82_7 hfz76_0 hfz76_1 hfz76_2 hfz76_3 hfz76_4 hfz76_5 hfz76_6 hfz76_7 hfz82_0 hfz82_1 hfz82_2 hfz82_3 hfz82_4 hfz82_5 hfz82_6 hfz82_7
     try clear hx861_0
     try clear hx861_1
     try clear hx861_2
     try clear hx861_3
     try clear hx861_4
     try clear hx861_5
     try clear hx861_6
     try clear hx861_7
     try clear p861
     try clear q861
     obtain ⟨x12_2, rfl, HA, HK2, HO_9, HO_11, HO_852002, HO_852005, HO_889002, HO_889005, BK851, BK888, HB⟩ := hrel
     cases gk with
     | zero => exact absurd HA.o (by simp [laws_FnHints.l2])
     | succ k2 =>
      have H := HA.o
      clear HA
      simp only [laws_FnHints.l2] at H
      by_cases c85 : x12_2 < (t884.length : Int)
      ·rw [if_pos c85] at H
       have c85b0 : decide (x12_2 < (t884.length : Int)) = true := decide_eq_true c85
       clear c85
       replace H := Option.bind_eq_some_iff.mp H
       obtain ⟨t895, A860, H⟩ := H
       try dsimp only at H
       have A86 := zK A860
       clear A860
       by_cases c87 : 0 ≤ x12_2
       rotate_left
       ·rw [if_neg c87] at H
        exact absurd H (by simp)
       rw [if_pos c87] at H
       have c87b0 : decide (0 ≤ x12_2) = true := decide_eq_true c87
       clear c87
       replace H := Option.bind_eq_some_iff.mp H
       obtain ⟨t897, A880, H⟩ := H
       try dsimp only at H
       have A88 := zK A880
       clear A880
       by_cases c89 : (t895 != t897) = true
       ·rw [if_pos c89] at H
        have c89b0 : (t895 != t897) = true := c89
        (try (have c89b1 : decide (t895 = t897) = false := by simpa using c89))
        (try (have c89b2 : (t895 == t897) = false := by simpa using c89))
        (try (have c89b3 : ¬ (t895 = t897) := by simpa using c89))
        clear c89
        obtain rfl := Option.some.inj H
        try go_wp2
        have _ := zK (Kd.N_drew HO_9.o)
        have _ := zK (Kd.RD HO_11.o)
        have _ := zK (Kd.RD HO_852002.o)
        have _ := zK (Kd.RD HO_852005.o)
        have _ := zK (Kd.RD HO_889002.o)
        have _ := zK (Kd.RD HO_889005.o)
        have _ := zK (kD BK851.o)
        have _ := zK (kD BK888.o)
        have _ := zK (b1 HB.o)
        clear HO_9 HO_11 HO_852002 HO_852005 HO_889002 HO_889005 BK851 BK888 HB
        rename_i HO_9 HO_11 HO_852002 HO_852005 HO_889002 HO_889005 BK851 BK888 HB
        have p896 : 0 ≤ (x12_2 : Int) := oD M4
        have q896 : x12_2 < (t884.length : Int) := oD M4
        obtain ⟨ad896, A896_0, c896_0, e896, hx896_0, hl896_0, hi896_0⟩ := at_L4 (Kd.N_reads' HO_9.o).2.2 x12_2 p896 q896
        cases e896
        obtain ⟨ce896, hce896, hMe896, hcc896⟩ := Kd.N_get HO_9.o [] x12_2 p896 (by first | exact q896 | exact oD M4 | (have e_ := (Kd.N_reads' HO_9.o).1; omega))
        obtain ⟨ua896_0, uc896_0, rfl, ul896_0, ge896_0⟩ := Kd.FK_slice_open hMe896
        have hv896_0 := hcc896 0 _ rfl
        rw [Nat.add_zero, show ((Kd.slice 3 (Kd.int .i64))).sz = 1 from rfl, Nat.mul_one] at hv896_0
        replace hv896_0 := Option.some.inj (hv896_0.symm.trans hx896_0)
        injection hv896_0 with hva_ hvn_ hvc_
        rw [hva_] at ge896_0
        rw [hvc_] at ul896_0
        have HL896_0 := zK (show Kd.V (Kd.int .i64) 3 _ w.heap.size _ _ (rd_L4 t884 x12_2) from Kd.V_mk ul896_0 ge896_0)
        clear hva_ hvn_ hvc_ ge896_0 ul896_0 hcc896 hce896
        have HR896_0 := zK hi896_0
        have HC896_0 := zK hl896_0
        clear hi896_0 hl896_0
        replace p896 := eq_true p896
        replace q896 := eq_true q896
        refine start_ (n := 11) (S := fun w' => w'.cell? ⟨gb888, 0, none⟩ = some (.int .i64 t872) ∧ w'.cell? ⟨gb888, 1, none⟩ = some (.int .i64 t873) ∧ w'.cell? ⟨gb888, 2, none⟩ = some (.slice Ao77 t874.length co77) ∧ w'.cell? ⟨gb888, 3, none⟩ = some (.int .i64 t877) ∧ w'.cell? ⟨gb888, 4, none⟩ = some (.int .i64 t878) ∧ w'.cell? ⟨gb888, 5, none⟩ = some (.slice Ao78 t879.length co78) ∧ w'.cell? ⟨gb888, 6, none⟩ = some (.int .i64 t882) ∧ w'.cell? ⟨gb888, 7, none⟩ = some (.int .i64 t883) ∧ w'.cell? (ad896.add (x12_2).toNat) = some (.slice A896_0 (rd_L4 t884 x12_2).length c896_0)) (ds := []) b19A44 (by kernel_rfl) rfl rfl (j8 BK888.o (hx896_0)) (fun hHeld => ?_); refine with_tabW laws_FnHints.tab22 laws_FnHints.bits22 (fun HT_ HW_ => ?_)
        generalize wr.drew = w90 at HO_9 HO_11 HO_852002 HO_852005 HO_889002 HO_889005 BK851 BK888 HB HL896_0 HR896_0 hx896_0 hHeld ⊢
        refine pI 0 (some 112) b19A45 HT_ ?_
        refine pI 1 (some 113) b19A46 HT_ ?_
        refine pI 4 (some 116) b19A47 HT_ ?_
        refine pI 5 (some 117) b19A48 HT_ ?_
        refine pI 6 (some 118) b19A49 HT_ ?_
        refine pI 8 (some 120) b19A50 HT_ ?_
        refine tI 3 (some 115) b19A51 HT_ HW_ hHeld rfl rfl (Or.inl ⟨by rfl, o11⟩) ?_
        refine tI 7 (some 119) b19A52 HT_ HW_ hHeld rfl rfl (Or.inl ⟨by rfl, o11⟩) ?_
        refine one_ (i := 2) (N := some 114) b19A53 rfl rfl (one_of HT_.o (by kernel_rfl)) (by decide) (fun K hK => ?_)
        refine goes_ Try.func37 (by kernel_rfl) rfl #[.slice Ao81 t889.length co81, .int .i64 x12_2] (by rfl) rfl rfl M0 ?_
        with_reducible refine (laws_contains.calls k2 _ _ t889 x12_2 t895 _ ?side1 ?side2 A86.o).mono ?_
        (case side1 => exact Kd.qC (Kd.R_reads' HO_11.o).2.2)
        (case side2 => exact (Kd.R_reads' HO_11.o).2.1)
        rintro e w' ⟨rfl, ⟨nd, rfl⟩⟩
        refine ⟨_, rfl, ?_⟩
        refine hK.out _ _ (j8 BK888.o ((d8 hHeld))) (fun hHeld => ?_)
        clear hK K
        refine norm_ (a' := ?_) ?_ ?_
        rotate_left
        ·show Act.put _ (some 114) _ = _
         simp only [Act.put, sA, sZ, sS, i64_w, i32_w]
         rfl
        refine one_ (i := 9) (N := some 121) b19A54 rfl rfl (one_of HT_.o (by kernel_rfl)) (by decide) (fun K hK => ?_)
        refine goes_ Try.func29 (by kernel_rfl) rfl #[.agg #[.int .i64 t872, .int .i64 t873, .slice Ao77 t874.length co77, .int .i64 t877, .int .i64 t878, .slice Ao78 t879.length co78, .int .i64 t882, .int .i64 t883], .slice A896_0 (rd_L4 t884 x12_2).length c896_0, .int .i64 t887] (by rfl) rfl rfl M0 ?_
        with_reducible refine (impl_MayHave.calls k2 t872 t873 _ _ t874 t877 t878 _ _ t879 t882 t883 _ _ (rd_L4 t884 x12_2) t887 t897 _ ?side1 ?side2 ?side3 ?side4 ?side5 ?side6 A88.o).mono ?_
        (case side1 => exact Kd.qC (Kd.R_reads' HO_889002.o).2.2)
        (case side2 => exact (Kd.R_reads' HO_889002.o).2.1)
        (case side3 => exact Kd.qC (Kd.R_reads' HO_889005.o).2.2)
        (case side4 => exact (Kd.R_reads' HO_889005.o).2.1)
        (case side5 => exact J14)
        (case side6 => exact HC896_0.o)
        rintro e w91 ⟨rfl, hb⟩
        have HS8_ := cB hb ((d8 hHeld))
        refine ⟨_, rfl, ?_⟩
        have _ := zK (Kd.N_below M42 hb)
        have _ := zK (Kd.R_below (Kd.qR HO_11.o) hb)
        have _ := zK (Kd.R_below (Kd.qR HO_852002.o) hb)
        have _ := zK (Kd.R_below (Kd.qR HO_852005.o) hb)
        have _ := zK (Kd.R_below (Kd.qR HO_889002.o) hb)
        have _ := zK (Kd.R_below (Kd.qR HO_889005.o) hb)
        have _ := zK (Kd.V_below (by (with_reducible repeat (first | apply Kd.V_alloc | apply Kd.V_drewN | apply Kd.V_drew)); exact HL896_0.o) hb)
        have _ := zK (bB (qK BK851.o) hb)
        have _ := zK (bB (qK BK888.o) hb)
        have _ := zK (Kd.C_below M76 hb)
        have _ := zK (bT M11 hb)
        clear HO_9 HO_11 HO_852002 HO_852005 HO_889002 HO_889005 HL896_0 BK851 BK888 HR896_0 HB
        rename_i HO_9 HO_11 HO_852002 HO_852005 HO_889002 HO_889005 HL896_0 BK851 BK888 HR896_0 HB
        (try clear hb)
        (try clear hb2)
        (try clear hk)
        (try clear hi)
        refine hK.out _ _ (j8 BK888.o (HS8_)) (fun hHeld => ?_)
        clear hK K
        refine norm_ (a' := ?_) ?_ ?_
        rotate_left
        ·show Act.put _ (some 121) _ = _
         simp only [Act.put, sA, sZ, sS, i64_w, i32_w]
         rfl
        refine pI 10 (some 122) b19A55 HT_ ?_
        refine done_ (done_of HT_.o (by kernel_rfl)) ?_
        try go_wp2
        go_ret
        exact ⟨o0, o3⟩
       rw [if_neg c89] at H
       have c89b0 : (t895 != t897) = false := by simpa using c89
       (try (have c89b1 : decide (t895 = t897) = true := by simpa using c89))
       (try (have c89b2 : (t895 == t897) = true := by simpa using c89))
       clear c89
       have H' := zK H
       clear H
       try go_wp2
       have _ := zK (Kd.N_drew HO_9.o)
       have _ := zK (Kd.RD HO_11.o)
       have _ := zK (Kd.RD HO_852002.o)
       have _ := zK (Kd.RD HO_852005.o)
       have _ := zK (Kd.RD HO_889002.o)
       have _ := zK (Kd.RD HO_889005.o)
       have _ := zK (kD BK851.o)
       have _ := zK (kD BK888.o)
       have _ := zK (b1 HB.o)
       clear HO_9 HO_11 HO_852002 HO_852005 HO_889002 HO_889005 BK851 BK888 HB
       rename_i HO_9 HO_11 HO_852002 HO_852005 HO_889002 HO_889005 BK851 BK888 HB
       have p896 : 0 ≤ (x12_2 : Int) := oD M4
       have q896 : x12_2 < (t884.length : Int) := oD M4
       obtain ⟨ad896, A896_0, c896_0, e896, hx896_0, hl896_0, hi896_0⟩ := at_L4 (Kd.N_reads' HO_9.o).2.2 x12_2 p896 q896
       cases e896
       obtain ⟨ce896, hce896, hMe896, hcc896⟩ := Kd.N_get HO_9.o [] x12_2 p896 (by first | exact q896 | exact oD M4 | (have e_ := (Kd.N_reads' HO_9.o).1; omega))
       obtain ⟨ua896_0, uc896_0, rfl, ul896_0, ge896_0⟩ := Kd.FK_slice_open hMe896
       have hv896_0 := hcc896 0 _ rfl
       rw [Nat.add_zero, show ((Kd.slice 3 (Kd.int .i64))).sz = 1 from rfl, Nat.mul_one] at hv896_0
       replace hv896_0 := Option.some.inj (hv896_0.symm.trans hx896_0)
       injection hv896_0 with hva_ hvn_ hvc_
       rw [hva_] at ge896_0
       rw [hvc_] at ul896_0
       have HL896_0 := zK (show Kd.V (Kd.int .i64) 3 _ w.heap.size _ _ (rd_L4 t884 x12_2) from Kd.V_mk ul896_0 ge896_0)
       clear hva_ hvn_ hvc_ ge896_0 ul896_0 hcc896 hce896
       have HR896_0 := zK hi896_0
       have HC896_0 := zK hl896_0
       clear hi896_0 hl896_0
       replace p896 := eq_true p896
       replace q896 := eq_true q896
       refine start_ (n := 11) (S := fun w' => w'.cell? ⟨gb888, 0, none⟩ = some (.int .i64 t872) ∧ w'.cell? ⟨gb888, 1, none⟩ = some (.int .i64 t873) ∧ w'.cell? ⟨gb888, 2, none⟩ = some (.slice Ao77 t874.length co77) ∧ w'.cell? ⟨gb888, 3, none⟩ = some (.int .i64 t877) ∧ w'.cell? ⟨gb888, 4, none⟩ = some (.int .i64 t878) ∧ w'.cell? ⟨gb888, 5, none⟩ = some (.slice Ao78 t879.length co78) ∧ w'.cell? ⟨gb888, 6, none⟩ = some (.int .i64 t882) ∧ w'.cell? ⟨gb888, 7, none⟩ = some (.int .i64 t883) ∧ w'.cell? (ad896.add (x12_2).toNat) = some (.slice A896_0 (rd_L4 t884 x12_2).length c896_0)) (ds := []) b19A44 (by kernel_rfl) rfl rfl (j8 BK888.o (hx896_0)) (fun hHeld => ?_); refine with_tabW laws_FnHints.tab22 laws_FnHints.bits22 (fun HT_ HW_ => ?_)
       generalize wr.drew = w92 at HO_9 HO_11 HO_852002 HO_852005 HO_889002 HO_889005 BK851 BK888 HB HL896_0 HR896_0 hx896_0 hHeld ⊢
       refine pI 0 (some 112) b19A45 HT_ ?_
       refine pI 1 (some 113) b19A46 HT_ ?_
       refine pI 4 (some 116) b19A47 HT_ ?_
       refine pI 5 (some 117) b19A48 HT_ ?_
       refine pI 6 (some 118) b19A49 HT_ ?_
       refine pI 8 (some 120) b19A50 HT_ ?_
       refine tI 3 (some 115) b19A51 HT_ HW_ hHeld rfl rfl (Or.inl ⟨by rfl, o11⟩) ?_
       refine tI 7 (some 119) b19A52 HT_ HW_ hHeld rfl rfl (Or.inl ⟨by rfl, o11⟩) ?_
       refine one_ (i := 2) (N := some 114) b19A53 rfl rfl (one_of HT_.o (by kernel_rfl)) (by decide) (fun K hK => ?_)
       refine goes_ Try.func37 (by kernel_rfl) rfl #[.slice Ao81 t889.length co81, .int .i64 x12_2] (by rfl) rfl rfl M0 ?_
       with_reducible refine (laws_contains.calls k2 _ _ t889 x12_2 t895 _ ?side1 ?side2 A86.o).mono ?_
       (case side1 => exact Kd.qC (Kd.R_reads' HO_11.o).2.2)
       (case side2 => exact (Kd.R_reads' HO_11.o).2.1)
       rintro e w' ⟨rfl, ⟨nd, rfl⟩⟩
       refine ⟨_, rfl, ?_⟩
       refine hK.out _ _ (j8 BK888.o ((d8 hHeld))) (fun hHeld => ?_)
       clear hK K
       refine norm_ (a' := ?_) ?_ ?_
       rotate_left
       ·show Act.put _ (some 114) _ = _
        simp only [Act.put, sA, sZ, sS, i64_w, i32_w]
        rfl
       refine one_ (i := 9) (N := some 121) b19A54 rfl rfl (one_of HT_.o (by kernel_rfl)) (by decide) (fun K hK => ?_)
       refine goes_ Try.func29 (by kernel_rfl) rfl #[.agg #[.int .i64 t872, .int .i64 t873, .slice Ao77 t874.length co77, .int .i64 t877, .int .i64 t878, .slice Ao78 t879.length co78, .int .i64 t882, .int .i64 t883], .slice A896_0 (rd_L4 t884 x12_2).length c896_0, .int .i64 t887] (by rfl) rfl rfl M0 ?_
       with_reducible refine (impl_MayHave.calls k2 t872 t873 _ _ t874 t877 t878 _ _ t879 t882 t883 _ _ (rd_L4 t884 x12_2) t887 t897 _ ?side1 ?side2 ?side3 ?side4 ?side5 ?side6 A88.o).mono ?_
       (case side1 => exact Kd.qC (Kd.R_reads' HO_889002.o).2.2)
       (case side2 => exact (Kd.R_reads' HO_889002.o).2.1)
       (case side3 => exact Kd.qC (Kd.R_reads' HO_889005.o).2.2)
       (case side4 => exact (Kd.R_reads' HO_889005.o).2.1)
       (case side5 => exact J14)
       (case side6 => exact HC896_0.o)
       rintro e w93 ⟨rfl, hb⟩
       have HS8_ := cB hb ((d8 hHeld))
       refine ⟨_, rfl, ?_⟩
       have _ := zK (Kd.N_below M42 hb)
       have _ := zK (Kd.R_below (Kd.qR HO_11.o) hb)
       have _ := zK (Kd.R_below (Kd.qR HO_852002.o) hb)
       have _ := zK (Kd.R_below (Kd.qR HO_852005.o) hb)
       have _ := zK (Kd.R_below (Kd.qR HO_889002.o) hb)
       have _ := zK (Kd.R_below (Kd.qR HO_889005.o) hb)
       have _ := zK (Kd.V_below (by (with_reducible repeat (first | apply Kd.V_alloc | apply Kd.V_drewN | apply Kd.V_drew)); exact HL896_0.o) hb)
       have _ := zK (bB (qK BK851.o) hb)
       have _ := zK (bB (qK BK888.o) hb)
       have _ := zK (Kd.C_below M76 hb)
       have _ := zK (bT M11 hb)
       clear HO_9 HO_11 HO_852002 HO_852005 HO_889002 HO_889005 HL896_0 BK851 BK888 HR896_0 HB
       rename_i HO_9 HO_11 HO_852002 HO_852005 HO_889002 HO_889005 HL896_0 BK851 BK888 HR896_0 HB
       (try clear hb)
       (try clear hb2)
       (try clear hk)
       (try clear hi)
       refine hK.out _ _ (j8 BK888.o (HS8_)) (fun hHeld => ?_)
       clear hK K
       refine norm_ (a' := ?_) ?_ ?_
       rotate_left
       ·show Act.put _ (some 121) _ = _
        simp only [Act.put, sA, sZ, sS, i64_w, i32_w]
        rfl
       refine pI 10 (some 122) b19A55 HT_ ?_
       refine done_ (done_of HT_.o (by kernel_rfl)) ?_
       try go_wp2
       go_roundg k2
       case measure => have := HK1.o; have := HK2.o; omega
       case rel => exact ⟨(wrap64 (x12_2 + 1)), M12, H', ⟨by have := HK1.o; have := HK2.o; omega⟩, ⟨by (with_reducible repeat (first | apply Kd.N_alloc | apply Kd.N_drewN | apply Kd.N_drew)); exact HO_9.o⟩, ⟨by exact Kd.qR HO_11.o⟩, ⟨by exact Kd.qR HO_852002.o⟩, ⟨by exact Kd.qR HO_852005.o⟩, ⟨by exact Kd.qR HO_889002.o⟩, ⟨by exact Kd.qR HO_889005.o⟩, ⟨by exact qK BK851.o⟩, ⟨by exact qK BK888.o⟩, ⟨o3⟩⟩
      rw [if_neg c85] at H
      have c85b0 : decide (x12_2 < (t884.length : Int)) = false := decide_eq_false c85
      clear c85
      replace H := Option.bind_eq_some_iff.mp H
      obtain ⟨⟨t898, t901⟩, A940, H⟩ := H
      try dsimp only at H
      have A94 := zK A940
      clear A940
      replace H := Option.bind_eq_some_iff.mp H
      obtain ⟨t904, A950, H⟩ := H
      try dsimp only at H
      have A95 := zK A950
      clear A950
      by_cases c96 : t904 = true
      rotate_left
      ·replace c96 := Bool.eq_false_iff.mpr c96
       subst c96
       have H1 : (some false) = some r := by rw [if_neg (show ¬ (false = true) by decide)] at H; exact H
       clear H
       have H := H1
       clear H1
       obtain rfl := Option.some.inj H
       go_wp2_with (first | ((with_reducible refine gc (f := 80) rfl ?_); refine gL (some 125) Try.func80 #[.slice A0 l0.length c0] ?_; (with_reducible refine (spec_DrawSharedHints.calls k2 _ _ l0 t898 t901 _ ?side1 ?side2 A94.o).mono ?_); (case side1 => exact Kd.qC (Kd.C_below HR0.o HB.o)); (case side2 => exact HC0.o); rintro e w111 ⟨v899, v902, rfl, ho0, ho1, hb⟩; refine ⟨_, rfl, ?_⟩; have _ := zK (Kd.N_below M42 hb); have _ := zK (Kd.R_below (Kd.qR HO_11.o) hb); have _ := zK (Kd.R_below (Kd.qR HO_852002.o) hb); have _ := zK (Kd.R_below (Kd.qR HO_852005.o) hb); have _ := zK (Kd.R_below (Kd.qR HO_889002.o) hb); have _ := zK (Kd.R_below (Kd.qR HO_889005.o) hb); have _ := zK (Kd.V_lower (Kd.V_mono (ok' := fun k_ => some k_ ≠ (.slice Ao79 t884.length co79 : Value).ownBlock ∧ some k_ ≠ (.slice Ao81 t889.length co81 : Value).ownBlock ∧ some k_ ≠ (.slice Ao8 t838.length co8 : Value).ownBlock ∧ some k_ ≠ (.slice Ao9 t843.length co9 : Value).ownBlock ∧ some k_ ≠ (.slice Ao77 t874.length co77 : Value).ownBlock ∧ some k_ ≠ (.slice Ao78 t879.length co78 : Value).ownBlock ∧ k_ ≠ gb851 ∧ k_ ≠ gb888) ho0 (fun k_ hk_ => ⟨(Kd.fresh' (Kd.N_lt M42) k_ hk_), (Kd.fresh' (Kd.R_lt (Kd.qR HO_11.o)) k_ hk_), (Kd.fresh' (Kd.R_lt (Kd.qR HO_852002.o)) k_ hk_), (Kd.fresh' (Kd.R_lt (Kd.qR HO_852005.o)) k_ hk_), (Kd.fresh' (Kd.R_lt (Kd.qR HO_889002.o)) k_ hk_), (Kd.fresh' (Kd.R_lt (Kd.qR HO_889005.o)) k_ hk_), (Kd.freshB (qK BK851.o) k_ hk_), (Kd.freshB (qK BK888.o) k_ hk_)⟩)) (bZ M11)); have _ := zK (Kd.V_lower (Kd.V_mono (ok' := fun k_ => some k_ ≠ (.slice Ao79 t884.length co79 : Value).ownBlock ∧ some k_ ≠ (.slice Ao81 t889.length co81 : Value).ownBlock ∧ some k_ ≠ (.slice Ao8 t838.length co8 : Value).ownBlock ∧ some k_ ≠ (.slice Ao9 t843.length co9 : Value).ownBlock ∧ some k_ ≠ (.slice Ao77 t874.length co77 : Value).ownBlock ∧ some k_ ≠ (.slice Ao78 t879.length co78 : Value).ownBlock ∧ k_ ≠ gb851 ∧ k_ ≠ gb888) ho1 (fun k_ hk_ => ⟨(Kd.fresh' (Kd.N_lt M42) k_ hk_), (Kd.fresh' (Kd.R_lt (Kd.qR HO_11.o)) k_ hk_), (Kd.fresh' (Kd.R_lt (Kd.qR HO_852002.o)) k_ hk_), (Kd.fresh' (Kd.R_lt (Kd.qR HO_852005.o)) k_ hk_), (Kd.fresh' (Kd.R_lt (Kd.qR HO_889002.o)) k_ hk_), (Kd.fresh' (Kd.R_lt (Kd.qR HO_889005.o)) k_ hk_), (Kd.freshB (qK BK851.o) k_ hk_), (Kd.freshB (qK BK888.o) k_ hk_)⟩)) (bZ M11)); have _ := zK (bB (qK BK851.o) hb); have _ := zK (bB (qK BK888.o) hb); have _ := zK (bT M11 hb); clear HO_9 HO_11 HO_852002 HO_852005 HO_889002 HO_889005 BK851 BK888 HB; rename_i HO_9 HO_11 HO_852002 HO_852005 HO_889002 HO_889005 HO900 HO903 BK851 BK888 HB; clear hb ho0 ho1) | ((with_reducible refine gc (f := 74) rfl ?_); refine gL (some 129) Try.func74 #[.slice Ao81 t889.length co81] ?_; (with_reducible refine (laws_ascends.calls k2 _ _ t889 false _ ?side1 ?side2 A95.o).mono ?_); (case side1 => exact Kd.qC (Kd.R_reads' HO_11.o).2.2); (case side2 => exact (Kd.R_reads' HO_11.o).2.1); rintro e w' ⟨rfl, ⟨nd, rfl⟩⟩; refine ⟨_, rfl, ?_⟩))
       go_ret
       exact ⟨o0, o3⟩
      subst c96
      have H1 : ((impl_SharedHints.f k2 t898 t901).bind fun t905 => (if t905 ≤ (t898.length : Int) then ((impl_SharedHints.f k2 t898 t901).bind fun t906 => ((impl_SharedHints.f k2 t901 t898).bind fun t907 => (some (t906 == t907)))) else (some false))) = some r := by rw [if_pos rfl] at H; exact H
      clear H
      have H := H1
      clear H1
      replace H := Option.bind_eq_some_iff.mp H
      obtain ⟨t905, A970, H⟩ := H
      try dsimp only at H
      have A97 := zK A970
      clear A970
      by_cases c98 : t905 ≤ (t898.length : Int)
      rotate_left
      ·rw [if_neg c98] at H
       have c98b0 : decide (t905 ≤ (t898.length : Int)) = false := decide_eq_false c98
       clear c98
       obtain rfl := Option.some.inj H
       exact lf19_0
      rw [if_pos c98] at H
      have c98b0 : decide (t905 ≤ (t898.length : Int)) = true := decide_eq_true c98
      clear c98
      replace H := Option.bind_eq_some_iff.mp H
      obtain ⟨t906, A990, H⟩ := H
      try dsimp only at H
      have A99 := zK A990
      clear A990
      obtain rfl := Option.some.inj (A99.o.symm.trans A97.o)
      replace H := Option.bind_eq_some_iff.mp H
      obtain ⟨t907, A1000, H⟩ := H
      replace H : (some (t906 == t907)) = some r := H
      have A100 := zK A1000
      clear A1000
      obtain rfl := Option.some.inj H
      exact lf19_0
   rw [if_pos c10] at H
   have c10b0 : decide (x5_1 < 2) = true := decide_eq_true c10
   clear c10
   replace H := Option.bind_eq_some_iff.mp H
   obtain ⟨t852, A110, H⟩ := H
   try dsimp only at H
   have A11 := zK A110
   clear A110
   have HC12 := zK H
   clear H
   obtain ⟨Ao13, co13, eo13⟩ := Kd.R_slice HO_4.o
   subst eo13
   go_upto_region 8 with (first | ((with_reducible refine gc (f := 15) rfl ?_); refine gL (some 28) Try.func15 #[.slice Ao13 t848.length co13, .int .i64 x5_1] ?_; (with_reducible refine (impl_HintsOf.calls k1 _ _ t848 x5_1 t852 _ ?side1 ?side2 A11.o).mono ?_); (case side1 => exact Kd.qC (Kd.R_reads' HO_4.o).2.2); (case side2 => exact (Kd.R_reads' HO_4.o).2.1); rintro e w14 ⟨v853, rfl, ho0, hb⟩; refine ⟨_, rfl, ?_⟩; have _ := zK (Kd.R_below (Kd.qR HO_4.o) hb); have _ := zK (Kd.R_elder' (Kd.qR HO_852002.o) (Kd.R_base ho0) hb); have _ := zK (Kd.R_elder' (Kd.qR HO_852005.o) (Kd.R_base ho0) hb); have _ := zK (Kd.R_lower (Kd.R_new' (Kd.R_new' ho0 (Kd.R_lt (Kd.qR HO_852002.o))) (Kd.R_lt (Kd.qR HO_852005.o))) (bZ M11)); have _ := zK (bB (qK BK851.o) hb); have _ := zK (bT M11 hb); clear HO_4 HO_852002 HO_852005 BK851 HB; rename_i HO_4 HO_852002 HO_852005 HO854 BK851 HB; clear hb ho0))
   (try simp only [Act.put, sA, sZ, sS])
   go_cut [45] (fun v45 wc => ∃ (kq : Nat) (x45_11 : Bool), v45 = .bool x45_11 ∧ Aside0 (laws_FnHints.j1 kq l0 t848 x5_1 t852 x45_11 t836 t837 t838 t841 t842 t843 t846 t847 = some r) ∧ Aside0 (kq ≤ k1) ∧ Aside0 (Kd.R k113 113 wc w.heap.size (fun _ => True) (.slice Ao13 t848.length co13) t848) ∧ Aside0 (Kd.R (Kd.int .i64) 3 wc w.heap.size (fun k_ => some k_ ≠ ((.slice Ao8 t838.length co8) : Value).ownBlock ∧ some k_ ≠ ((.slice Ao9 t843.length co9) : Value).ownBlock) v853 t852) ∧ Aside0 (Kd.R (Kd.int .i64) 3 wc w.heap.size (fun k_ => some k_ ≠ (v853 : Value).ownBlock ∧ some k_ ≠ ((.slice Ao9 t843.length co9) : Value).ownBlock) (.slice Ao8 t838.length co8) t838) ∧ Aside0 (Kd.R (Kd.int .i64) 3 wc w.heap.size (fun k_ => some k_ ≠ (v853 : Value).ownBlock ∧ some k_ ≠ ((.slice Ao8 t838.length co8) : Value).ownBlock) (.slice Ao9 t843.length co9) t843) ∧ Aside0 (wc.heap[gb851]? = some (.cells #[.int .i64 t836, .int .i64 t837, (.slice Ao8 t838.length co8), .int .i64 t841, .int .i64 t842, (.slice Ao9 t843.length co9), .int .i64 t846, .int .i64 t847] 41 (0, 0))) ∧ Aside0 (Below w.heap.size w wc))
   case first =>
    have H := HC12.o
    clear HC12
    replace H := Option.bind_eq_some_iff.mp H
    obtain ⟨t855, A150, H⟩ := H
    try dsimp only at H
    have A15 := zK A150
    clear A150
    by_cases c16 : t855 = true
    rotate_left
    ·replace c16 := Bool.eq_false_iff.mpr c16
     subst c16
     have H1 : (laws_FnHints.j1 k1 l0 t848 x5_1 t852 true t836 t837 t838 t841 t842 t843 t846 t847) = some r := by rw [if_neg (show ¬ (false = true) by decide)] at H; exact H
     clear H
     have H := H1
     clear H1
     have H' := zK H
     clear H
     obtain ⟨Ao30, co30, eo30⟩ := Kd.R_slice HO854.o
     subst eo30
     go_wp2_with (first | ((with_reducible refine gc (f := 74) rfl ?_); refine gL (some 30) Try.func74 #[.slice Ao30 t852.length co30] ?_; (with_reducible refine (laws_ascends.calls k1 _ _ t852 false _ ?side1 ?side2 A15.o).mono ?_); (case side1 => exact Kd.qC (Kd.R_reads' HO854.o).2.2); (case side2 => exact (Kd.R_reads' HO854.o).2.1); rintro e w' ⟨rfl, ⟨nd, rfl⟩⟩; refine ⟨_, rfl, ?_⟩))
     go_meet
     case rel => exact ⟨_, (true), M12, H', ⟨o9⟩, ⟨by exact Kd.qR HO_4.o⟩, ⟨by (with_reducible repeat (first | apply Kd.RA | apply Kd.RN | apply Kd.RD)); exact Kd.R_mono HO854.o (fun _ hk => ⟨hk.1.2, hk.2⟩)⟩, ⟨by (with_reducible repeat (first | apply Kd.RA | apply Kd.RN | apply Kd.RD)); exact Kd.R_mono HO_852002.o (fun _ hk => ⟨hk.2, hk.1⟩)⟩, ⟨by (with_reducible repeat (first | apply Kd.RA | apply Kd.RN | apply Kd.RD)); exact Kd.R_mono HO_852005.o (fun _ hk => ⟨hk.2, hk.1⟩)⟩, ⟨by exact qK BK851.o⟩, ⟨o3⟩⟩
    subst c16
    have H1 : ((impl_Candidates.f k1 t836 t837 t838 t841 t842 t843 t846 t847 t848).bind fun t856 => (if (t856.length : Int) > 0 then ((impl_MayHave.f k1 t836 t837 t838 t841 t842 t843 t846 t847 t852 x5_1).bind fun t859 => (laws_FnHints.j1 k1 l0 t848 x5_1 t852 (!t859) t836 t837 t838 t841 t842 t843 t846 t847)) else (laws_FnHints.j1 k1 l0 t848 x5_1 t852 false t836 t837 t838 t841 t842 t843 t846 t847))) = some r := by rw [if_pos rfl] at H; exact H
    clear H
    have H := H1
    clear H1
    replace H := Option.bind_eq_some_iff.mp H
    obtain ⟨t856, A170, H⟩ := H
    try dsimp only at H
    have A17 := zK A170
    clear A170
    by_cases c18 : (t856.length : Int) > 0
    rotate_left
    ·rw [if_neg c18] at H
     have c18b0 : decide (0 < (t856.length : Int)) = false := decide_eq_false c18
     have c18b1 : decide (0 < t856.length) = false := decide_eq_false (by omega)
     clear c18
     (first | rw [c18b0] | rw [c18b1] | (simp only [i64_w, i32_w]; rw [c18b0]) | skip)
     have H' := zK H
     clear H
     obtain ⟨Ao26, co26, eo26⟩ := Kd.R_slice HO854.o
     subst eo26
     go_wp2_with (first | ((with_reducible refine gc (f := 74) rfl ?_); refine gL (some 30) Try.func74 #[.slice Ao26 t852.length co26] ?_; (with_reducible refine (laws_ascends.calls k1 _ _ t852 true _ ?side1 ?side2 A15.o).mono ?_); (case side1 => exact Kd.qC (Kd.R_reads' HO854.o).2.2); (case side2 => exact (Kd.R_reads' HO854.o).2.1); rintro e w' ⟨rfl, ⟨nd, rfl⟩⟩; refine ⟨_, rfl, ?_⟩; obtain ⟨hcz27_0, hcz27_1, hcz27_2, hcz27_3, hcz27_4, hcz27_5, hcz27_6, hcz27_7, hfz27_0, hfz27_1, hfz27_2, hfz27_3, hfz27_4, hfz27_5, hfz27_6, hfz27_7⟩ := bx8 BK851.o) | (go_at_call 75; (with_reducible refine (impl_Candidates.calls k1 t836 t837 _ _ t838 t841 t842 _ _ t843 t846 t847 _ _ t848 t856 _ ?side1 ?side2 ?side3 ?side4 ?side5 ?side6 A17.o).mono ?_); (case side1 => exact Kd.qC (Kd.R_reads' HO_852002.o).2.2); (case side2 => exact (Kd.R_reads' HO_852002.o).2.1); (case side3 => exact Kd.qC (Kd.R_reads' HO_852005.o).2.2); (case side4 => exact (Kd.R_reads' HO_852005.o).2.1); (case side5 => exact Kd.qC (Kd.R_reads' HO_4.o).2.2); (case side6 => exact (Kd.R_reads' HO_4.o).2.1); rintro e w28 ⟨v857, rfl, ho0, hb⟩; have _ := zK (Kd.R_below (Kd.qR HO_4.o) hb); have _ := zK (Kd.R_elder' (Kd.qR HO_852002.o) (Kd.R_base ho0) hb); have _ := zK (Kd.R_elder' (Kd.qR HO_852005.o) (Kd.R_base ho0) hb); have _ := zK (Kd.R_elder' (Kd.qR HO854.o) (Kd.R_base ho0) hb); have _ := zK (Kd.R_lower (Kd.R_new' (Kd.R_new' (Kd.R_new' ho0 (Kd.R_lt (Kd.qR HO_852002.o))) (Kd.R_lt (Kd.qR HO_852005.o))) (Kd.R_lt (Kd.qR HO854.o))) (bZ M11)); have _ := zK (bB (qK BK851.o) hb); have _ := zK (bT M11 hb); clear HO_4 HO_852002 HO_852005 HO854 BK851 HB; rename_i HO_4 HO_852002 HO_852005 HO854 HO858 BK851 HB; clear hb ho0; obtain ⟨Ao29, co29, eo29⟩ := Kd.R_slice HO858.o; subst eo29))
     go_meet
     case rel => exact ⟨_, (false), M12, H', ⟨o9⟩, ⟨by exact Kd.qR HO_4.o⟩, ⟨by (with_reducible repeat (first | apply Kd.RA | apply Kd.RN | apply Kd.RD)); exact Kd.R_mono HO854.o (fun _ hk => ⟨hk.1.1.2, hk.1.2⟩)⟩, ⟨by (with_reducible repeat (first | apply Kd.RA | apply Kd.RN | apply Kd.RD)); exact Kd.R_mono HO_852002.o (fun _ hk => ⟨hk.1.2, hk.1.1⟩)⟩, ⟨by (with_reducible repeat (first | apply Kd.RA | apply Kd.RN | apply Kd.RD)); exact Kd.R_mono HO_852005.o (fun _ hk => ⟨hk.1.2, hk.1.1⟩)⟩, ⟨by exact qK BK851.o⟩, ⟨o3⟩⟩
    rw [if_pos c18] at H
    have c18b0 : decide (0 < (t856.length : Int)) = true := decide_eq_true c18
    have c18b1 : decide (0 < t856.length) = true := decide_eq_true (by omega)
    clear c18
    (first | rw [c18b0] | rw [c18b1] | (simp only [i64_w, i32_w]; rw [c18b0]) | skip)
    replace H := Option.bind_eq_some_iff.mp H
    obtain ⟨t859, A190, H⟩ := H
    try dsimp only at H
    have A19 := zK A190
    clear A190
    have H' := zK H
    clear H
    obtain ⟨Ao20, co20, eo20⟩ := Kd.R_slice HO854.o
    subst eo20
    go_wp2_with (first | ((with_reducible refine gc (f := 74) rfl ?_); refine gL (some 30) Try.func74 #[.slice Ao20 t852.length co20] ?_; (with_reducible refine (laws_ascends.calls k1 _ _ t852 true _ ?side1 ?side2 A15.o).mono ?_); (case side1 => exact Kd.qC (Kd.R_reads' HO854.o).2.2); (case side2 => exact (Kd.R_reads' HO854.o).2.1); rintro e w' ⟨rfl, ⟨nd, rfl⟩⟩; refine ⟨_, rfl, ?_⟩; obtain ⟨hcz21_0, hcz21_1, hcz21_2, hcz21_3, hcz21_4, hcz21_5, hcz21_6, hcz21_7, hfz21_0, hfz21_1, hfz21_2, hfz21_3, hfz21_4, hfz21_5, hfz21_6, hfz21_7⟩ := bx8 BK851.o) | (go_at_call 75; (with_reducible refine (impl_Candidates.calls k1 t836 t837 _ _ t838 t841 t842 _ _ t843 t846 t847 _ _ t848 t856 _ ?side1 ?side2 ?side3 ?side4 ?side5 ?side6 A17.o).mono ?_); (case side1 => exact Kd.qC (Kd.R_reads' HO_852002.o).2.2); (case side2 => exact (Kd.R_reads' HO_852002.o).2.1); (case side3 => exact Kd.qC (Kd.R_reads' HO_852005.o).2.2); (case side4 => exact (Kd.R_reads' HO_852005.o).2.1); (case side5 => exact Kd.qC (Kd.R_reads' HO_4.o).2.2); (case side6 => exact (Kd.R_reads' HO_4.o).2.1); rintro e w22 ⟨v857, rfl, ho0, hb⟩; have _ := zK (Kd.R_below (Kd.qR HO_4.o) hb); have _ := zK (Kd.R_elder' (Kd.qR HO_852002.o) (Kd.R_base ho0) hb); have _ := zK (Kd.R_elder' (Kd.qR HO_852005.o) (Kd.R_base ho0) hb); have _ := zK (Kd.R_elder' (Kd.qR HO854.o) (Kd.R_base ho0) hb); have _ := zK (Kd.R_lower (Kd.R_new' (Kd.R_new' (Kd.R_new' ho0 (Kd.R_lt (Kd.qR HO_852002.o))) (Kd.R_lt (Kd.qR HO_852005.o))) (Kd.R_lt (Kd.qR HO854.o))) (bZ M11)); have _ := zK (bB (qK BK851.o) hb); have _ := zK (bT M11 hb); clear HO_4 HO_852002 HO_852005 HO854 BK851 HB; rename_i HO_4 HO_852002 HO_852005 HO854 HO858 BK851 HB; clear hb ho0; obtain ⟨Ao23, co23, eo23⟩ := Kd.R_slice HO858.o; subst eo23; obtain ⟨hcz24_0, hcz24_1, hcz24_2, hcz24_3, hcz24_4, hcz24_5, hcz24_6, hcz24_7, hfz24_0, hfz24_1, hfz24_2, hfz24_3, hfz24_4, hfz24_5, hfz24_6, hfz24_7⟩ := bx8 BK851.o) | (go_at_call 29; (with_reducible refine (impl_MayHave.calls k1 t836 t837 _ _ t838 t841 t842 _ _ t843 t846 t847 _ _ t852 x5_1 t859 _ ?side1 ?side2 ?side3 ?side4 ?side5 ?side6 A19.o).mono ?_); (case side1 => exact Kd.qC (Kd.R_reads' HO_852002.o).2.2); (case side2 => exact (Kd.R_reads' HO_852002.o).2.1); (case side3 => exact Kd.qC (Kd.R_reads' HO_852005.o).2.2); (case side4 => exact (Kd.R_reads' HO_852005.o).2.1); (case side5 => exact Kd.qC (Kd.R_reads' HO854.o).2.2); (case side6 => exact (Kd.R_reads' HO854.o).2.1); rintro e w25 ⟨rfl, hb⟩; have _ := zK (Kd.R_below (Kd.qR HO_4.o) hb); have _ := zK (Kd.R_below (Kd.qR HO_852002.o) hb); have _ := zK (Kd.R_below (Kd.qR HO_852005.o) hb); have _ := zK (Kd.R_below (Kd.qR HO854.o) hb); have _ := zK (Kd.R_below (Kd.qR HO858.o) hb); have _ := zK (bB (qK BK851.o) hb); have _ := zK (bT M11 hb); clear HO_4 HO_852002 HO_852005 HO854 HO858 BK851 HB; rename_i HO_4 HO_852002 HO_852005 HO854 HO858 BK851 HB; clear hb))
    go_meet
    case rel => exact ⟨_, (!t859), M12, H', ⟨o9⟩, ⟨by exact Kd.qR HO_4.o⟩, ⟨by (with_reducible repeat (first | apply Kd.RA | apply Kd.RN | apply Kd.RD)); exact Kd.R_mono HO854.o (fun _ hk => ⟨hk.1.1.2, hk.1.2⟩)⟩, ⟨by (with_reducible repeat (first | apply Kd.RA | apply Kd.RN | apply Kd.RD)); exact Kd.R_mono HO_852002.o (fun _ hk => ⟨hk.1.2, hk.1.1⟩)⟩, ⟨by (with_reducible repeat (first | apply Kd.RA | apply Kd.RN | apply Kd.RD)); exact Kd.R_mono HO_852005.o (fun _ hk => ⟨hk.1.2, hk.1.1⟩)⟩, ⟨by exact qK BK851.o⟩, ⟨o3⟩⟩
   case rest =>
    clear HC12
    try clear c1
    try clear p2
    try clear c3
    try clear c7
    try clear c10
    try clear c10b0
    try clear c11
    try clear c15
    try clear c16
    try clear c18
    try clear c18b0
    try clear c18b1
    try clear c30
    try clear hcz21_0 hcz21_1 hcz21_2 hcz21_3 hcz21_4 hcz21_5 hcz21_6 hcz21_7 hcz24_0 hcz24_1 hcz24_2 hcz24_3 hcz24_4 hcz24_5 hcz24_6 hcz24_7 hcz27_0 hcz27_1 hcz27_2 hcz27_3 hcz27_4 hcz27_5 hcz27_6 hcz27_7 hcz7_0 hcz7_1 hcz7_2 hcz7_3 hcz7_4 hcz7_5 hcz7_6 hcz7_7 hfz21_0 hfz21_1 hfz21_2 hfz21_3 hfz21_4 hfz21_5 hfz21_6 hfz21_7 hfz24_0 hfz24_1 hfz24_2 hfz24_3 hfz24_4 hfz24_5 hfz24_6 hfz24_7 hfz27_0 hfz27_1 hfz27_2 hfz27_3 hfz27_4 hfz27_5 hfz27_6 hfz27_7 hfz7_0 hfz7_1 hfz7_2 hfz7_3 hfz7_4 hfz7_5 hfz7_6 hfz7_7
    try clear p2
    obtain ⟨kq, x45_11, rfl, HA, HJ11, HO_4, HO_6, HO_852002, HO_852005, BK851, HB⟩ := hcut
    cases kq with
    | zero => exact absurd HA.o (by simp [laws_FnHints.j1])
    | succ kj11 =>
     have H := HA.o
     clear HA
     simp only [laws_FnHints.j1] at H
     by_cases c31 : x45_11 = true
     ·subst c31
      have H1 : (some false) = some r := by rw [if_pos rfl] at H; exact H
      clear H
      have H := H1
      clear H1
      obtain rfl := Option.some.inj H
      go_wp2
      go_ret
      exact ⟨o0, o3⟩
     replace c31 := Bool.eq_false_iff.mpr c31
     subst c31
     have H1 : (laws_FnHints.l1 kj11 l0 t848 x5_1 t852 0 t836 t837 t838 t841 t842 t843 t846 t847) = some r := by rw [if_neg (show ¬ (false = true) by decide)] at H; exact H
     clear H
     have H := H1
     clear H1
     have H' := zK H
     clear H
     go_wp2
     go_loopg [7] kj11 (fun kq v7 w' => ∃ (x7_3 : Int), v7 = .int .i64 x7_3 ∧ Aside0 (laws_FnHints.l1 kq l0 t848 x5_1 t852 x7_3 t836 t837 t838 t841 t842 t843 t846 t847 = some r) ∧ Aside0 (kq ≤ kj11) ∧ Aside0 (Kd.R k113 113 w' w.heap.size (fun _ => True) (.slice Ao13 t848.length co13) t848) ∧ Aside0 (Kd.R (Kd.int .i64) 3 w' w.heap.size (fun k_ => some k_ ≠ ((.slice Ao8 t838.length co8) : Value).ownBlock ∧ some k_ ≠ ((.slice Ao9 t843.length co9) : Value).ownBlock) v853 t852) ∧ Aside0 (Kd.R (Kd.int .i64) 3 w' w.heap.size (fun k_ => some k_ ≠ (v853 : Value).ownBlock ∧ some k_ ≠ ((.slice Ao9 t843.length co9) : Value).ownBlock) (.slice Ao8 t838.length co8) t838) ∧ Aside0 (Kd.R (Kd.int .i64) 3 w' w.heap.size (fun k_ => some k_ ≠ (v853 : Value).ownBlock ∧ some k_ ≠ ((.slice Ao8 t838.length co8) : Value).ownBlock) (.slice Ao9 t843.length co9) t843) ∧ Aside0 (w'.heap[gb851]? = some (.cells #[.int .i64 t836, .int .i64 t837, (.slice Ao8 t838.length co8), .int .i64 t841, .int .i64 t842, (.slice Ao9 t843.length co9), .int .i64 t846, .int .i64 t847] 41 (0, 0))) ∧ Aside0 (Below w.heap.size w w'))
     case atStart => exact ⟨(0), M12, H', ⟨Nat.le_refl _⟩, ⟨by exact Kd.qR HO_4.o⟩, ⟨by exact Kd.qR HO_6.o⟩, ⟨by exact Kd.qR HO_852002.o⟩, ⟨by exact Kd.qR HO_852005.o⟩, ⟨by exact qK BK851.o⟩, ⟨o3⟩⟩
     case round =>
      clear H'
      try clear c1
      try clear p2
      try clear c3
      try clear c7
      try clear c10
      try clear c10b0
      try clear c11
      try clear c15
      try clear c16
      try clear c18
      try clear c18b0
      try clear c18b1
      try clear c30
      try clear c31
      try clear hcz21_0 hcz21_1 hcz21_2 hcz21_3 hcz21_4 hcz21_5 hcz21_6 hcz21_7 hcz24_0 hcz24_1 hcz24_2 hcz24_3 hcz24_4 hcz24_5 hcz24_6 hcz24_7 hcz27_0 hcz27_1 hcz27_2 hcz27_3 hcz27_4 hcz27_5 hcz27_6 hcz27_7 hcz7_0 hcz7_1 hcz7_2 hcz7_3 hcz7_4 hcz7_5 hcz7_6 hcz7_7 hfz21_0 hfz21_1 hfz21_2 hfz21_3 hfz21_4 hfz21_5 hfz21_6 hfz21_7 hfz24_0 hfz24_1 hfz24_2 hfz24_3 hfz24_4 hfz24_5 hfz24_6 hfz24_7 hfz27_0 hfz27_1 hfz27_2 hfz27_3 hfz27_4 hfz27_5 hfz27_6 hfz27_7 hfz7_0 hfz7_1 hfz7_2 hfz7_3 hfz7_4 hfz7_5 hfz7_6 hfz7_7
      try clear p2
      obtain ⟨x7_3, rfl, HA, HK3, HO_4, HO_6, HO_852002, HO_852005, BK851, HB⟩ := hrel
      cases gk with
      | zero => exact absurd HA.o (by simp [laws_FnHints.l1])
      | succ k3 =>
       have H := HA.o
       clear HA
       simp only [laws_FnHints.l1] at H
       have HC32 := zK H
       clear H
       go_upto_region 11 with (fail)
       go_cut [53] (fun v53 wc => ∃ (kq : Nat) (x53_31 : Bool), v53 = .bool x53_31 ∧ Aside0 (laws_FnHints.j3 kq l0 t848 x5_1 t852 x7_3 x53_31 t836 t837 t838 t841 t842 t843 t846 t847 = some r) ∧ Aside0 (kq ≤ k3) ∧ Aside0 (Kd.R k113 113 wc w.heap.size (fun _ => True) (.slice Ao13 t848.length co13) t848) ∧ Aside0 (Kd.R (Kd.int .i64) 3 wc w.heap.size (fun k_ => some k_ ≠ ((.slice Ao8 t838.length co8) : Value).ownBlock ∧ some k_ ≠ ((.slice Ao9 t843.length co9) : Value).ownBlock) v853 t852) ∧ Aside0 (Kd.R (Kd.int .i64) 3 wc w.heap.size (fun k_ => some k_ ≠ (v853 : Value).ownBlock ∧ some k_ ≠ ((.slice Ao9 t843.length co9) : Value).ownBlock) (.slice Ao8 t838.length co8) t838) ∧ Aside0 (Kd.R (Kd.int .i64) 3 wc w.heap.size (fun k_ => some k_ ≠ (v853 : Value).ownBlock ∧ some k_ ≠ ((.slice Ao8 t838.length co8) : Value).ownBlock) (.slice Ao9 t843.length co9) t843) ∧ Aside0 (wc.heap[gb851]? = some (.cells #[.int .i64 t836, .int .i64 t837, (.slice Ao8 t838.length co8), .int .i64 t841, .int .i64 t842, (.slice Ao9 t843.length co9), .int .i64 t846, .int .i64 t847] 41 (0, 0))) ∧ Aside0 (Below w.heap.size w wc))
       case first =>
        have H := HC32.o
        clear HC32
        by_cases c33 : x7_3 < (t848.length : Int)
        rotate_left
        ·rw [if_neg c33] at H
         have c33b0 : decide (x7_3 < (t848.length : Int)) = false := decide_eq_false c33
         clear c33
         (first | rw [c33b0] | rw [c33b1] | (simp only [i64_w, i32_w]; rw [c33b0]) | skip)
         have H' := zK H
         clear H
         go_wp2
         go_meet
         case rel => exact ⟨_, (false), M12, H', ⟨by have := HK1.o; have := HJ11.o; have := HK3.o; first | omega | exact Nat.le_refl _⟩, ⟨by exact Kd.qR HO_4.o⟩, ⟨by exact Kd.qR HO_6.o⟩, ⟨by exact Kd.qR HO_852002.o⟩, ⟨by exact Kd.qR HO_852005.o⟩, ⟨by exact qK BK851.o⟩, ⟨o3⟩⟩
        rw [if_pos c33] at H
        have c33b0 : decide (x7_3 < (t848.length : Int)) = true := decide_eq_true c33
        clear c33
        (first | rw [c33b0] | rw [c33b1] | (simp only [i64_w, i32_w]; rw [c33b0]) | skip)
        replace H := Option.bind_eq_some_iff.mp H
        obtain ⟨t860, A340, H⟩ := H
        try dsimp only at H
        have A34 := zK A340
        clear A340
        have H' := zK H
        clear H
        go_wp2_with (first | (go_at_call 76; (with_reducible refine (impl_AreFinds.calls k3 _ _ t848 t860 _ ?side1 ?side2 A34.o).mono ?_); (case side1 => exact Kd.qC (Kd.R_reads' HO_4.o).2.2); (case side2 => exact (Kd.R_reads' HO_4.o).2.1); rintro e w35 ⟨rfl, hb⟩; have _ := zK (Kd.R_below (Kd.qR HO_4.o) hb); have _ := zK (Kd.R_below (Kd.qR HO_6.o) hb); have _ := zK (Kd.R_below (Kd.qR HO_852002.o) hb); have _ := zK (Kd.R_below (Kd.qR HO_852005.o) hb); have _ := zK (bB (qK BK851.o) hb); have _ := zK (bT M11 hb); clear HO_4 HO_6 HO_852002 HO_852005 BK851 HB; rename_i HO_4 HO_6 HO_852002 HO_852005 BK851 HB; clear hb))
        go_meet
        case rel => exact ⟨_, (t860), M12, H', ⟨by have := HK1.o; have := HJ11.o; have := HK3.o; first | omega | exact Nat.le_refl _⟩, ⟨by exact Kd.qR HO_4.o⟩, ⟨by exact Kd.qR HO_6.o⟩, ⟨by exact Kd.qR HO_852002.o⟩, ⟨by exact Kd.qR HO_852005.o⟩, ⟨by exact qK BK851.o⟩, ⟨o3⟩⟩
       case rest =>
        clear HC32
        try clear c1
        try clear p2
        try clear c3
        try clear c7
        try clear c10
        try clear c10b0
        try clear c11
        try clear c15
        try clear c16
        try clear c18
        try clear c18b0
        try clear c18b1
        try clear c30
        try clear c31
        try clear c33
        try clear c33b0
        try clear hcz21_0 hcz21_1 hcz21_2 hcz21_3 hcz21_4 hcz21_5 hcz21_6 hcz21_7 hcz24_0 hcz24_1 hcz24_2 hcz24_3 hcz24_4 hcz24_5 hcz24_6 hcz24_7 hcz27_0 hcz27_1 hcz27_2 hcz27_3 hcz27_4 hcz27_5 hcz27_6 hcz27_7 hcz7_0 hcz7_1 hcz7_2 hcz7_3 hcz7_4 hcz7_5 hcz7_6 hcz7_7 hfz21_0 hfz21_1 hfz21_2 hfz21_3 hfz21_4 hfz21_5 hfz21_6 hfz21_7 hfz24_0 hfz24_1 hfz24_2 hfz24_3 hfz24_4 hfz24_5 hfz24_6 hfz24_7 hfz27_0 hfz27_1 hfz27_2 hfz27_3 hfz27_4 hfz27_5 hfz27_6 hfz27_7 hfz7_0 hfz7_1 hfz7_2 hfz7_3 hfz7_4 hfz7_5 hfz7_6 hfz7_7
        try clear p2
        obtain ⟨kq, x53_31, rfl, HA, HJ31, HO_4, HO_6, HO_852002, HO_852005, BK851, HB⟩ := hcut
        cases kq with
        | zero => exact absurd HA.o (by simp [laws_FnHints.j3])
        | succ kj31 =>
         have H := HA.o
         clear HA
         simp only [laws_FnHints.j3] at H
         by_cases c36 : x53_31 = true
         rotate_left
         ·replace c36 := Bool.eq_false_iff.mpr c36
          subst c36
          have H1 : (laws_FnHints.l0 kj31 l0 t848 (wrap64 (x5_1 + 1)) t836 t837 t838 t841 t842 t843 t846 t847) = some r := by rw [if_neg (show ¬ (false = true) by decide)] at H; exact H
          clear H
          have H := H1
          clear H1
          have H' := zK H
          clear H
          go_wp2
          go_roundg kj31
          case measure => have := HK1.o; have := HJ11.o; have := HK3.o; have := HJ31.o; omega
          case rel => exact ⟨(wrap64 (x5_1 + 1)), M12, H', ⟨by have := HK1.o; have := HJ11.o; have := HK3.o; have := HJ31.o; omega⟩, ⟨by exact Kd.qR HO_4.o⟩, ⟨by (with_reducible repeat (first | apply Kd.RA | apply Kd.RN | apply Kd.RD)); exact Kd.R_mono HO_852002.o (fun _ hk => hk.2)⟩, ⟨by (with_reducible repeat (first | apply Kd.RA | apply Kd.RN | apply Kd.RD)); exact Kd.R_mono HO_852005.o (fun _ hk => hk.2)⟩, ⟨by exact qK BK851.o⟩, ⟨o3⟩⟩
         subst c36
         have H1 : (if 0 ≤ x7_3 then (if x7_3 < (t848.length : Int) then ((impl_HintOf.f kj31 ((rd_T113 t848 x7_3).f0.f0) ((rd_T113 t848 x7_3).f0.f1) ((rd_T113 t848 x7_3).f0.f2) ((rd_T113 t848 x7_3).f0.f3) ((rd_T113 t848 x7_3).f0.f4) x5_1).bind fun t862 => ((laws_contains.f kj31 t852 t862).bind fun t863 => (if t863 = true then ((impl_CanBe.f kj31 t836 t837 t838 t841 t842 t843 t846 t847 ((rd_T113 t848 x7_3).f0.f0) ((rd_T113 t848 x7_3).f0.f1) ((rd_T113 t848 x7_3).f0.f2) ((rd_T113 t848 x7_3).f0.f3) ((rd_T113 t848 x7_3).f0.f4) ((rd_T113 t848 x7_3).f1) ((rd_T113 t848 x7_3).f2) ((rd_T113 t848 x7_3).f3)).bind fun t865 => (if t865 = true then ((impl_HintsFor.f kj31 t836 t837 t838 t841 t842 t843 t846 t847 x5_1).bind fun t866 => ((impl_HintOf.f kj31 ((rd_T113 t848 x7_3).f0.f0) ((rd_T113 t848 x7_3).f0.f1) ((rd_T113 t848 x7_3).f0.f2) ((rd_T113 t848 x7_3).f0.f3) ((rd_T113 t848 x7_3).f0.f4) x5_1).bind fun t870 => ((laws_contains.f kj31 t866 t870).bind fun t871 => (if t871 = true then (laws_FnHints.l1 kj31 l0 t848 x5_1 t852 (wrap64 (x7_3 + 1)) t836 t837 t838 t841 t842 t843 t846 t847) else (some false))))) else (laws_FnHints.l1 kj31 l0 t848 x5_1 t852 (wrap64 (x7_3 + 1)) t836 t837 t838 t841 t842 t843 t846 t847))) else (some false)))) else (none)) else (none)) = some r := by rw [if_pos rfl] at H; exact H
         clear H
         have H := H1
         clear H1
         by_cases c37 : 0 ≤ x7_3
         rotate_left
         ·rw [if_neg c37] at H
          exact absurd H (by simp)
         rw [if_pos c37] at H
         have c37b0 : decide (0 ≤ x7_3) = true := decide_eq_true c37
         clear c37
         by_cases c38 : x7_3 < (t848.length : Int)
         rotate_left
         ·rw [if_neg c38] at H
          exact absurd H (by simp)
         rw [if_pos c38] at H
         have c38b0 : decide (x7_3 < (t848.length : Int)) = true := decide_eq_true c38
         clear c38
         replace H := Option.bind_eq_some_iff.mp H
         obtain ⟨t862, A390, H⟩ := H
         try dsimp only at H
         have A39 := zK A390
         clear A390
         replace H := Option.bind_eq_some_iff.mp H
         obtain ⟨t863, A400, H⟩ := H
         try dsimp only at H
         have A40 := zK A400
         clear A400
         by_cases c41 : t863 = true
         rotate_left
         ·replace c41 := Bool.eq_false_iff.mpr c41
          subst c41
          have H1 : (some false) = some r := by rw [if_neg (show ¬ (false = true) by decide)] at H; exact H
          clear H
          have H := H1
          clear H1
          obtain rfl := Option.some.inj H
          try go_wp2
          have _ := zK (Kd.RD HO_4.o)
          have _ := zK (Kd.RD HO_6.o)
          have _ := zK (Kd.RD HO_852002.o)
          have _ := zK (Kd.RD HO_852005.o)
          have _ := zK (kD BK851.o)
          have _ := zK (b1 HB.o)
          clear HO_4 HO_6 HO_852002 HO_852005 BK851 HB
          rename_i HO_4 HO_6 HO_852002 HO_852005 BK851 HB
          have p861 : 0 ≤ (x7_3 : Int) := oD M4
          have q861 : x7_3 < (t848.length : Int) := oD M4
          obtain ⟨ad861, e861, hx861_0, hx861_1, hx861_2, hx861_3, hx861_4, hx861_5, hx861_6, hx861_7⟩ := at_T113 (Kd.R_reads' HO_4.o).2.2 x7_3 p861 q861
          cases e861
          replace p861 := eq_true p861
          replace q861 := eq_true q861
          refine start_ (n := 32) (S := fun w' => w'.cell? (ad861.add ((x7_3).toNat * 8)) = some (.int .i64 ((rd_T113 t848 x7_3).f0.f0)) ∧ w'.cell? ⟨(ad861.add ((x7_3).toNat * 8)).block, (ad861.add ((x7_3).toNat * 8)).off + 1, none⟩ = some (.int .i64 ((rd_T113 t848 x7_3).f0.f1)) ∧ w'.cell? ⟨(ad861.add ((x7_3).toNat * 8)).block, (ad861.add ((x7_3).toNat * 8)).off + 2, none⟩ = some (.int .i64 ((rd_T113 t848 x7_3).f0.f2)) ∧ w'.cell? ⟨(ad861.add ((x7_3).toNat * 8)).block, (ad861.add ((x7_3).toNat * 8)).off + 3, none⟩ = some (.int .i64 ((rd_T113 t848 x7_3).f0.f3)) ∧ w'.cell? ⟨(ad861.add ((x7_3).toNat * 8)).block, (ad861.add ((x7_3).toNat * 8)).off + 4, none⟩ = some (.int .i64 ((rd_T113 t848 x7_3).f0.f4)) ∧ w'.cell? ⟨(ad861.add ((x7_3).toNat * 8)).block, (ad861.add ((x7_3).toNat * 8)).off + 5, none⟩ = some (.int .i64 ((rd_T113 t848 x7_3).f1)) ∧ w'.cell? ⟨(ad861.add ((x7_3).toNat * 8)).block, (ad861.add ((x7_3).toNat * 8)).off + 6, none⟩ = some (.int .i64 ((rd_T113 t848 x7_3).f2)) ∧ w'.cell? ⟨(ad861.add ((x7_3).toNat * 8)).block, (ad861.add ((x7_3).toNat * 8)).off + 7, none⟩ = some (.int .i64 ((rd_T113 t848 x7_3).f3))) (ds := []) b19A0 (by kernel_rfl) rfl rfl ⟨hx861_0, hx861_1, hx861_2, hx861_3, hx861_4, hx861_5, hx861_6, hx861_7⟩ (fun hHeld => ?_); refine with_tabW laws_FnHints.tab13 laws_FnHints.bits13 (fun HT_ HW_ => ?_)
          generalize wc.drew = w66 at HO_4 HO_6 HO_852002 HO_852005 BK851 HB hx861_0 hx861_1 hx861_2 hx861_3 hx861_4 hx861_5 hx861_6 hx861_7 hHeld ⊢
          refine pI 0 (some 56) b19A1 HT_ ?_
          refine pI 1 (some 57) b19A2 HT_ ?_
          refine pI 2 (some 58) b19A3 HT_ ?_
          refine pI 3 (some 59) b19A4 HT_ ?_
          refine pI 4 (some 60) b19A5 HT_ ?_
          refine pI 6 (some 62) b19A6 HT_ ?_
          refine tI 5 (some 61) b19A7 HT_ HW_ hHeld rfl rfl (Or.inl ⟨by rfl, o5⟩) ?_
          refine one_ (i := 7) (N := some 63) b19A8 rfl rfl (one_of HT_.o (by kernel_rfl)) (by decide) (fun K hK => ?_)
          refine goes_ Try.func77 (by kernel_rfl) rfl #[.agg #[.int .i64 ((rd_T113 t848 x7_3).f0.f0), .int .i64 ((rd_T113 t848 x7_3).f0.f1), .int .i64 ((rd_T113 t848 x7_3).f0.f2), .int .i64 ((rd_T113 t848 x7_3).f0.f3), .int .i64 ((rd_T113 t848 x7_3).f0.f4)], .int .i64 x5_1] (by rfl) rfl rfl M0 ?_
          with_reducible refine (impl_HintOf.calls kj31 ((rd_T113 t848 x7_3).f0.f0) ((rd_T113 t848 x7_3).f0.f1) ((rd_T113 t848 x7_3).f0.f2) ((rd_T113 t848 x7_3).f0.f3) ((rd_T113 t848 x7_3).f0.f4) x5_1 t862 _ A39.o).mono ?_
          rintro e w67 ⟨rfl, hb⟩
          have HS0_ := cB hb (hHeld.1)
          have HS1_ := cB hb (hHeld.2.1)
          have HS2_ := cB hb (hHeld.2.2.1)
          have HS3_ := cB hb (hHeld.2.2.2.1)
          have HS4_ := cB hb ((d4 hHeld).1)
          have HS5_ := cB hb ((d4 hHeld).2.1)
          have HS6_ := cB hb ((d4 hHeld).2.2.1)
          have HS7_ := cB hb ((d4 hHeld).2.2.2)
          refine ⟨_, rfl, ?_⟩
          have _ := zK (Kd.R_below (Kd.qR HO_4.o) hb)
          have _ := zK (Kd.R_below (Kd.qR HO_6.o) hb)
          have _ := zK (Kd.R_below (Kd.qR HO_852002.o) hb)
          have _ := zK (Kd.R_below (Kd.qR HO_852005.o) hb)
          have _ := zK (bB (qK BK851.o) hb)
          have _ := zK (bT M11 hb)
          clear HO_4 HO_6 HO_852002 HO_852005 BK851 HB
          rename_i HO_4 HO_6 HO_852002 HO_852005 BK851 HB
          (try clear hb)
          (try clear hb2)
          (try clear hk)
          (try clear hi)
          obtain ⟨Ao68, co68, eo68⟩ := Kd.R_slice HO_6.o
          (first | subst eo68 | (injection eo68 with f1_ f2_ f3_; have f4_ := f1_.symm; have f5_ := f3_.symm; clear f1_ f2_ f3_; subst f4_; subst f5_))
          refine hK.out _ _ ⟨HS0_, HS1_, HS2_, HS3_, HS4_, HS5_, HS6_, HS7_⟩ (fun hHeld => ?_)
          clear hK K
          refine norm_ (a' := ?_) ?_ ?_
          rotate_left
          ·show Act.put _ (some 63) _ = _
           simp only [Act.put, sA, sZ, sS, i64_w, i32_w]
           rfl
          refine one_ (i := 8) (N := some 64) b19A9 rfl rfl (one_of HT_.o (by kernel_rfl)) (by decide) (fun K hK => ?_)
          refine goes_ Try.func37 (by kernel_rfl) rfl #[.slice Ao68 t852.length co68, .int .i64 t862] (by rfl) rfl rfl M0 ?_
          with_reducible refine (laws_contains.calls kj31 _ _ t852 t862 false _ ?side1 ?side2 A40.o).mono ?_
          (case side1 => exact Kd.qC (Kd.R_reads' HO_6.o).2.2)
          (case side2 => exact (Kd.R_reads' HO_6.o).2.1)
          rintro e w' ⟨rfl, ⟨nd, rfl⟩⟩
          refine ⟨_, rfl, ?_⟩
          refine hK.out _ _ ⟨hHeld.1, hHeld.2.1, hHeld.2.2.1, hHeld.2.2.2.1, (d4 hHeld).1, (d4 hHeld).2.1, (d4 hHeld).2.2.1, (d4 hHeld).2.2.2⟩ (fun hHeld => ?_)
          clear hK K
          refine norm_ (a' := ?_) ?_ ?_
          rotate_left
          ·show Act.put _ (some 64) _ = _
           simp only [Act.put, sA, sZ, sS, i64_w, i32_w]
           rfl
          refine pI 9 (some 65) b19A10 HT_ ?_
          refine pI 10 (some 66) b19A11 HT_ ?_
          refine pU 11 (some 67) b19A41 HT_ ?_
          refine pU 12 (some 68) b19A42 HT_ ?_
          refine pU 13 (some 69) b19A43 HT_ ?_
          refine pU 14 (some 70) b19A15 HT_ ?_
          refine pU 15 (some 71) b19A16 HT_ ?_
          refine pU 16 (some 72) b19A17 HT_ ?_
          refine pU 17 (some 73) b19A18 HT_ ?_
          refine pU 18 (some 74) b19A33 HT_ ?_
          refine pU 19 (some 75) b19A34 HT_ ?_
          refine pU 20 (some 76) b19A35 HT_ ?_
          refine pU 21 (some 77) b19A36 HT_ ?_
          refine pU 22 (some 78) b19A37 HT_ ?_
          refine pU 23 (some 79) b19A38 HT_ ?_
          refine pU 24 (some 80) b19A39 HT_ ?_
          refine pU 25 (some 81) b19A40 HT_ ?_
          refine pU 26 (some 82) b19A27 HT_ ?_
          refine pU 27 (some 83) b19A28 HT_ ?_
          refine pU 28 (some 84) b19A29 HT_ ?_
          refine pU 29 (some 85) b19A30 HT_ ?_
          refine pU 30 (some 86) b19A31 HT_ ?_
          refine pI 31 (some 87) b19A32 HT_ ?_
          refine done_ (done_of HT_.o (by kernel_rfl)) ?_
          try go_wp2
          go_ret
          exact ⟨o0, o3⟩
         subst c41
         have H1 : ((impl_CanBe.f kj31 t836 t837 t838 t841 t842 t843 t846 t847 ((rd_T113 t848 x7_3).f0.f0) ((rd_T113 t848 x7_3).f0.f1) ((rd_T113 t848 x7_3).f0.f2) ((rd_T113 t848 x7_3).f0.f3) ((rd_T113 t848 x7_3).f0.f4) ((rd_T113 t848 x7_3).f1) ((rd_T113 t848 x7_3).f2) ((rd_T113 t848 x7_3).f3)).bind fun t865 => (if t865 = true then ((impl_HintsFor.f kj31 t836 t837 t838 t841 t842 t843 t846 t847 x5_1).bind fun t866 => ((impl_HintOf.f kj31 ((rd_T113 t848 x7_3).f0.f0) ((rd_T113 t848 x7_3).f0.f1) ((rd_T113 t848 x7_3).f0.f2) ((rd_T113 t848 x7_3).f0.f3) ((rd_T113 t848 x7_3).f0.f4) x5_1).bind fun t870 => ((laws_contains.f kj31 t866 t870).bind fun t871 => (if t871 = true then (laws_FnHints.l1 kj31 l0 t848 x5_1 t852 (wrap64 (x7_3 + 1)) t836 t837 t838 t841 t842 t843 t846 t847) else (some false))))) else (laws_FnHints.l1 kj31 l0 t848 x5_1 t852 (wrap64 (x7_3 + 1)) t836 t837 t838 t841 t842 t843 t846 t847))) = some r := by rw [if_pos rfl] at H; exact H
         clear H
         have H := H1
         clear H1
         replace H := Option.bind_eq_some_iff.mp H
         obtain ⟨t865, A420, H⟩ := H
         try dsimp only at H
         have A42 := zK A420
         clear A420
         by_cases c43 : t865 = true
         rotate_left
         ·replace c43 := Bool.eq_false_iff.mpr c43
          subst c43
          have H1 : (laws_FnHints.l1 kj31 l0 t848 x5_1 t852 (wrap64 (x7_3 + 1)) t836 t837 t838 t841 t842 t843 t846 t847) = some r := by rw [if_neg (show ¬ (false = true) by decide)] at H; exact H
          clear H
          have H := H1
          clear H1
          have H' := zK H
          clear H
          try go_wp2
          have _ := zK (Kd.RD HO_4.o)
          have _ := zK (Kd.RD HO_6.o)
          have _ := zK (Kd.RD HO_852002.o)
          have _ := zK (Kd.RD HO_852005.o)
          have _ := zK (kD BK851.o)
          have _ := zK (b1 HB.o)
          clear HO_4 HO_6 HO_852002 HO_852005 BK851 HB
          rename_i HO_4 HO_6 HO_852002 HO_852005 BK851 HB
          have p861 : 0 ≤ (x7_3 : Int) := oD M4
          have q861 : x7_3 < (t848.length : Int) := oD M4
          obtain ⟨ad861, e861, hx861_0, hx861_1, hx861_2, hx861_3, hx861_4, hx861_5, hx861_6, hx861_7⟩ := at_T113 (Kd.R_reads' HO_4.o).2.2 x7_3 p861 q861
          cases e861
          replace p861 := eq_true p861
          replace q861 := eq_true q861
          have p864 : 0 ≤ (x7_3 : Int) := oD M4
          have q864 : x7_3 < (t848.length : Int) := oD M4
          obtain ⟨ad864, e864, hx864_0, hx864_1, hx864_2, hx864_3, hx864_4, hx864_5, hx864_6, hx864_7⟩ := at_T113 (Kd.R_reads' HO_4.o).2.2 x7_3 p864 q864
          obtain rfl : ad861 = ad864 := (by injection e864)
          replace p864 := eq_true p864
          replace q864 := eq_true q864
          refine start_ (n := 32) (S := fun w' => w'.cell? ⟨gb851, 0, none⟩ = some (.int .i64 t836) ∧ w'.cell? ⟨gb851, 1, none⟩ = some (.int .i64 t837) ∧ w'.cell? ⟨gb851, 2, none⟩ = some (.slice Ao8 t838.length co8) ∧ w'.cell? ⟨gb851, 3, none⟩ = some (.int .i64 t841) ∧ w'.cell? ⟨gb851, 4, none⟩ = some (.int .i64 t842) ∧ w'.cell? ⟨gb851, 5, none⟩ = some (.slice Ao9 t843.length co9) ∧ w'.cell? ⟨gb851, 6, none⟩ = some (.int .i64 t846) ∧ w'.cell? ⟨gb851, 7, none⟩ = some (.int .i64 t847) ∧ w'.cell? (ad861.add ((x7_3).toNat * 8)) = some (.int .i64 ((rd_T113 t848 x7_3).f0.f0)) ∧ w'.cell? ⟨(ad861.add ((x7_3).toNat * 8)).block, (ad861.add ((x7_3).toNat * 8)).off + 1, none⟩ = some (.int .i64 ((rd_T113 t848 x7_3).f0.f1)) ∧ w'.cell? ⟨(ad861.add ((x7_3).toNat * 8)).block, (ad861.add ((x7_3).toNat * 8)).off + 2, none⟩ = some (.int .i64 ((rd_T113 t848 x7_3).f0.f2)) ∧ w'.cell? ⟨(ad861.add ((x7_3).toNat * 8)).block, (ad861.add ((x7_3).toNat * 8)).off + 3, none⟩ = some (.int .i64 ((rd_T113 t848 x7_3).f0.f3)) ∧ w'.cell? ⟨(ad861.add ((x7_3).toNat * 8)).block, (ad861.add ((x7_3).toNat * 8)).off + 4, none⟩ = some (.int .i64 ((rd_T113 t848 x7_3).f0.f4)) ∧ w'.cell? ⟨(ad861.add ((x7_3).toNat * 8)).block, (ad861.add ((x7_3).toNat * 8)).off + 5, none⟩ = some (.int .i64 ((rd_T113 t848 x7_3).f1)) ∧ w'.cell? ⟨(ad861.add ((x7_3).toNat * 8)).block, (ad861.add ((x7_3).toNat * 8)).off + 6, none⟩ = some (.int .i64 ((rd_T113 t848 x7_3).f2)) ∧ w'.cell? ⟨(ad861.add ((x7_3).toNat * 8)).block, (ad861.add ((x7_3).toNat * 8)).off + 7, none⟩ = some (.int .i64 ((rd_T113 t848 x7_3).f3)) ∧ w'.cell? (ad861.add ((x7_3).toNat * 8)) = some (.int .i64 ((rd_T113 t848 x7_3).f0.f0)) ∧ w'.cell? ⟨(ad861.add ((x7_3).toNat * 8)).block, (ad861.add ((x7_3).toNat * 8)).off + 1, none⟩ = some (.int .i64 ((rd_T113 t848 x7_3).f0.f1)) ∧ w'.cell? ⟨(ad861.add ((x7_3).toNat * 8)).block, (ad861.add ((x7_3).toNat * 8)).off + 2, none⟩ = some (.int .i64 ((rd_T113 t848 x7_3).f0.f2)) ∧ w'.cell? ⟨(ad861.add ((x7_3).toNat * 8)).block, (ad861.add ((x7_3).toNat * 8)).off + 3, none⟩ = some (.int .i64 ((rd_T113 t848 x7_3).f0.f3)) ∧ w'.cell? ⟨(ad861.add ((x7_3).toNat * 8)).block, (ad861.add ((x7_3).toNat * 8)).off + 4, none⟩ = some (.int .i64 ((rd_T113 t848 x7_3).f0.f4)) ∧ w'.cell? ⟨(ad861.add ((x7_3).toNat * 8)).block, (ad861.add ((x7_3).toNat * 8)).off + 5, none⟩ = some (.int .i64 ((rd_T113 t848 x7_3).f1)) ∧ w'.cell? ⟨(ad861.add ((x7_3).toNat * 8)).block, (ad861.add ((x7_3).toNat * 8)).off + 6, none⟩ = some (.int .i64 ((rd_T113 t848 x7_3).f2)) ∧ w'.cell? ⟨(ad861.add ((x7_3).toNat * 8)).block, (ad861.add ((x7_3).toNat * 8)).off + 7, none⟩ = some (.int .i64 ((rd_T113 t848 x7_3).f3))) (ds := []) b19A0 (by kernel_rfl) rfl rfl (j8 BK851.o ⟨hx861_0, hx861_1, hx861_2, hx861_3, hx861_4, hx861_5, hx861_6, hx861_7, hx864_0, hx864_1, hx864_2, hx864_3, hx864_4, hx864_5, hx864_6, hx864_7⟩) (fun hHeld => ?_); refine with_tabW laws_FnHints.tab13 laws_FnHints.bits13 (fun HT_ HW_ => ?_)
          generalize wc.drew = w62 at HO_4 HO_6 HO_852002 HO_852005 BK851 HB hx861_0 hx861_1 hx861_2 hx861_3 hx861_4 hx861_5 hx861_6 hx861_7 hx864_0 hx864_1 hx864_2 hx864_3 hx864_4 hx864_5 hx864_6 hx864_7 hHeld ⊢
          refine pI 0 (some 56) b19A1 HT_ ?_
          refine pI 1 (some 57) b19A2 HT_ ?_
          refine pI 2 (some 58) b19A3 HT_ ?_
          refine pI 3 (some 59) b19A4 HT_ ?_
          refine pI 4 (some 60) b19A5 HT_ ?_
          refine pI 6 (some 62) b19A6 HT_ ?_
          refine tI 5 (some 61) b19A7 HT_ HW_ hHeld rfl rfl (Or.inl ⟨by rfl, o4⟩) ?_
          refine one_ (i := 7) (N := some 63) b19A8 rfl rfl (one_of HT_.o (by kernel_rfl)) (by decide) (fun K hK => ?_)
          refine goes_ Try.func77 (by kernel_rfl) rfl #[.agg #[.int .i64 ((rd_T113 t848 x7_3).f0.f0), .int .i64 ((rd_T113 t848 x7_3).f0.f1), .int .i64 ((rd_T113 t848 x7_3).f0.f2), .int .i64 ((rd_T113 t848 x7_3).f0.f3), .int .i64 ((rd_T113 t848 x7_3).f0.f4)], .int .i64 x5_1] (by rfl) rfl rfl M0 ?_
          with_reducible refine (impl_HintOf.calls kj31 ((rd_T113 t848 x7_3).f0.f0) ((rd_T113 t848 x7_3).f0.f1) ((rd_T113 t848 x7_3).f0.f2) ((rd_T113 t848 x7_3).f0.f3) ((rd_T113 t848 x7_3).f0.f4) x5_1 t862 _ A39.o).mono ?_
          rintro e w63 ⟨rfl, hb⟩
          have HS8_ := cB hb ((d8 hHeld).1)
          have HS9_ := cB hb ((d8 hHeld).2.1)
          have HS10_ := cB hb ((d8 hHeld).2.2.1)
          have HS11_ := cB hb ((d8 hHeld).2.2.2.1)
          have HS12_ := cB hb ((d4 (d8 hHeld)).1)
          have HS13_ := cB hb ((d4 (d8 hHeld)).2.1)
          have HS14_ := cB hb ((d4 (d8 hHeld)).2.2.1)
          have HS15_ := cB hb ((d4 (d8 hHeld)).2.2.2.1)
          have HS16_ := cB hb ((d16 hHeld).1)
          have HS17_ := cB hb ((d16 hHeld).2.1)
          have HS18_ := cB hb ((d16 hHeld).2.2.1)
          have HS19_ := cB hb ((d16 hHeld).2.2.2.1)
          have HS20_ := cB hb ((d4 (d16 hHeld)).1)
          have HS21_ := cB hb ((d4 (d16 hHeld)).2.1)
          have HS22_ := cB hb ((d4 (d16 hHeld)).2.2.1)
          have HS23_ := cB hb ((d4 (d16 hHeld)).2.2.2)
          refine ⟨_, rfl, ?_⟩
          have _ := zK (Kd.R_below (Kd.qR HO_4.o) hb)
          have _ := zK (Kd.R_below (Kd.qR HO_6.o) hb)
          have _ := zK (Kd.R_below (Kd.qR HO_852002.o) hb)
          have _ := zK (Kd.R_below (Kd.qR HO_852005.o) hb)
          have _ := zK (bB (qK BK851.o) hb)
          have _ := zK (bT M11 hb)
          clear HO_4 HO_6 HO_852002 HO_852005 BK851 HB
          rename_i HO_4 HO_6 HO_852002 HO_852005 BK851 HB
          (try clear hb)
          (try clear hb2)
          (try clear hk)
          (try clear hi)
          obtain ⟨Ao64, co64, eo64⟩ := Kd.R_slice HO_6.o
          (first | subst eo64 | (injection eo64 with f1_ f2_ f3_; have f4_ := f1_.symm; have f5_ := f3_.symm; clear f1_ f2_ f3_; subst f4_; subst f5_))
          refine hK.out _ _ (j8 BK851.o ⟨HS8_, HS9_, HS10_, HS11_, HS12_, HS13_, HS14_, HS15_, HS16_, HS17_, HS18_, HS19_, HS20_, HS21_, HS22_, HS23_⟩) (fun hHeld => ?_)
          clear hK K
          refine norm_ (a' := ?_) ?_ ?_
          rotate_left
          ·show Act.put _ (some 63) _ = _
           simp only [Act.put, sA, sZ, sS, i64_w, i32_w]
           rfl
          refine one_ (i := 8) (N := some 64) b19A9 rfl rfl (one_of HT_.o (by kernel_rfl)) (by decide) (fun K hK => ?_)
          refine goes_ Try.func37 (by kernel_rfl) rfl #[.slice Ao64 t852.length co64, .int .i64 t862] (by rfl) rfl rfl M0 ?_
          with_reducible refine (laws_contains.calls kj31 _ _ t852 t862 true _ ?side1 ?side2 A40.o).mono ?_
          (case side1 => exact Kd.qC (Kd.R_reads' HO_6.o).2.2)
          (case side2 => exact (Kd.R_reads' HO_6.o).2.1)
          rintro e w' ⟨rfl, ⟨nd, rfl⟩⟩
          refine ⟨_, rfl, ?_⟩
          refine hK.out _ _ (j8 BK851.o ⟨(d8 hHeld).1, (d8 hHeld).2.1, (d8 hHeld).2.2.1, (d8 hHeld).2.2.2.1, (d4 (d8 hHeld)).1, (d4 (d8 hHeld)).2.1, (d4 (d8 hHeld)).2.2.1, (d4 (d8 hHeld)).2.2.2.1, (d16 hHeld).1, (d16 hHeld).2.1, (d16 hHeld).2.2.1, (d16 hHeld).2.2.2.1, (d4 (d16 hHeld)).1, (d4 (d16 hHeld)).2.1, (d4 (d16 hHeld)).2.2.1, (d4 (d16 hHeld)).2.2.2⟩) (fun hHeld => ?_)
          clear hK K
          refine norm_ (a' := ?_) ?_ ?_
          rotate_left
          ·show Act.put _ (some 64) _ = _
           simp only [Act.put, sA, sZ, sS, i64_w, i32_w]
           rfl
          refine pI 9 (some 65) b19A10 HT_ ?_
          refine pI 10 (some 66) b19A11 HT_ ?_
          refine pI 12 (some 68) b19A12 HT_ ?_
          refine pI 13 (some 69) b19A13 HT_ ?_
          refine pI 14 (some 70) b19A14 HT_ ?_
          refine tI 11 (some 67) b19A15 HT_ HW_ hHeld rfl rfl (Or.inl ⟨by rfl, o4⟩) ?_
          refine tI 15 (some 71) b19A16 HT_ HW_ hHeld rfl rfl (Or.inl ⟨by rfl, o4⟩) ?_
          refine one_ (i := 16) (N := some 72) b19A17 rfl rfl (one_of HT_.o (by kernel_rfl)) (by decide) (fun K hK => ?_)
          refine goes_ Try.func78 (by kernel_rfl) rfl #[.agg #[.int .i64 t836, .int .i64 t837, .slice Ao8 t838.length co8, .int .i64 t841, .int .i64 t842, .slice Ao9 t843.length co9, .int .i64 t846, .int .i64 t847], .agg #[.int .i64 ((rd_T113 t848 x7_3).f0.f0), .int .i64 ((rd_T113 t848 x7_3).f0.f1), .int .i64 ((rd_T113 t848 x7_3).f0.f2), .int .i64 ((rd_T113 t848 x7_3).f0.f3), .int .i64 ((rd_T113 t848 x7_3).f0.f4), .int .i64 ((rd_T113 t848 x7_3).f1), .int .i64 ((rd_T113 t848 x7_3).f2), .int .i64 ((rd_T113 t848 x7_3).f3)]] (by rfl) rfl rfl M0 ?_
          with_reducible refine (impl_CanBe.calls kj31 t836 t837 _ _ t838 t841 t842 _ _ t843 t846 t847 ((rd_T113 t848 x7_3).f0.f0) ((rd_T113 t848 x7_3).f0.f1) ((rd_T113 t848 x7_3).f0.f2) ((rd_T113 t848 x7_3).f0.f3) ((rd_T113 t848 x7_3).f0.f4) ((rd_T113 t848 x7_3).f1) ((rd_T113 t848 x7_3).f2) ((rd_T113 t848 x7_3).f3) false _ ?side1 ?side2 ?side3 ?side4 A42.o).mono ?_
          (case side1 => exact Kd.qC (Kd.R_reads' HO_852002.o).2.2)
          (case side2 => exact (Kd.R_reads' HO_852002.o).2.1)
          (case side3 => exact Kd.qC (Kd.R_reads' HO_852005.o).2.2)
          (case side4 => exact (Kd.R_reads' HO_852005.o).2.1)
          rintro e w65 ⟨rfl, hb⟩
          have HS8_ := cB hb ((d8 hHeld).1)
          have HS9_ := cB hb ((d8 hHeld).2.1)
          have HS10_ := cB hb ((d8 hHeld).2.2.1)
          have HS11_ := cB hb ((d8 hHeld).2.2.2.1)
          have HS12_ := cB hb ((d4 (d8 hHeld)).1)
          have HS13_ := cB hb ((d4 (d8 hHeld)).2.1)
          have HS14_ := cB hb ((d4 (d8 hHeld)).2.2.1)
          have HS15_ := cB hb ((d4 (d8 hHeld)).2.2.2.1)
          have HS16_ := cB hb ((d16 hHeld).1)
          have HS17_ := cB hb ((d16 hHeld).2.1)
          have HS18_ := cB hb ((d16 hHeld).2.2.1)
          have HS19_ := cB hb ((d16 hHeld).2.2.2.1)
          have HS20_ := cB hb ((d4 (d16 hHeld)).1)
          have HS21_ := cB hb ((d4 (d16 hHeld)).2.1)
          have HS22_ := cB hb ((d4 (d16 hHeld)).2.2.1)
          have HS23_ := cB hb ((d4 (d16 hHeld)).2.2.2)
          refine ⟨_, rfl, ?_⟩
          have _ := zK (Kd.R_below (Kd.qR HO_4.o) hb)
          have _ := zK (Kd.R_below (Kd.qR HO_6.o) hb)
          have _ := zK (Kd.R_below (Kd.qR HO_852002.o) hb)
          have _ := zK (Kd.R_below (Kd.qR HO_852005.o) hb)
          have _ := zK (bB (qK BK851.o) hb)
          have _ := zK (bT M11 hb)
          clear HO_4 HO_6 HO_852002 HO_852005 BK851 HB
          rename_i HO_4 HO_6 HO_852002 HO_852005 BK851 HB
          (try clear hb)
          (try clear hb2)
          (try clear hk)
          (try clear hi)
          refine hK.out _ _ (j8 BK851.o ⟨HS8_, HS9_, HS10_, HS11_, HS12_, HS13_, HS14_, HS15_, HS16_, HS17_, HS18_, HS19_, HS20_, HS21_, HS22_, HS23_⟩) (fun hHeld => ?_)
          clear hK K
          refine norm_ (a' := ?_) ?_ ?_
          rotate_left
          ·show Act.put _ (some 72) _ = _
           simp only [Act.put, sA, sZ, sS, i64_w, i32_w]
           rfl
          refine pI 17 (some 73) b19A18 HT_ ?_
          refine pU 18 (some 74) b19A33 HT_ ?_
          refine pU 19 (some 75) b19A34 HT_ ?_
          refine pU 20 (some 76) b19A35 HT_ ?_
          refine pU 21 (some 77) b19A36 HT_ ?_
          refine pU 22 (some 78) b19A37 HT_ ?_
          refine pU 23 (some 79) b19A38 HT_ ?_
          refine pU 24 (some 80) b19A39 HT_ ?_
          refine pU 25 (some 81) b19A40 HT_ ?_
          refine pU 26 (some 82) b19A27 HT_ ?_
          refine pU 27 (some 83) b19A28 HT_ ?_
          refine pU 28 (some 84) b19A29 HT_ ?_
          refine pU 29 (some 85) b19A30 HT_ ?_
          refine pI 30 (some 86) b19A31 HT_ ?_
          refine pI 31 (some 87) b19A32 HT_ ?_
          refine done_ (done_of HT_.o (by kernel_rfl)) ?_
          try go_wp2
          go_roundg kj31
          case measure => have := HK1.o; have := HJ11.o; have := HK3.o; have := HJ31.o; omega
          case rel => exact ⟨(wrap64 (x7_3 + 1)), M12, H', ⟨by have := HK1.o; have := HJ11.o; have := HK3.o; have := HJ31.o; omega⟩, ⟨by exact Kd.qR HO_4.o⟩, ⟨by exact Kd.qR HO_6.o⟩, ⟨by exact Kd.qR HO_852002.o⟩, ⟨by exact Kd.qR HO_852005.o⟩, ⟨by exact qK BK851.o⟩, ⟨o3⟩⟩
         subst c43
         have H1 : ((impl_HintsFor.f kj31 t836 t837 t838 t841 t842 t843 t846 t847 x5_1).bind fun t866 => ((impl_HintOf.f kj31 ((rd_T113 t848 x7_3).f0.f0) ((rd_T113 t848 x7_3).f0.f1) ((rd_T113 t848 x7_3).f0.f2) ((rd_T113 t848 x7_3).f0.f3) ((rd_T113 t848 x7_3).f0.f4) x5_1).bind fun t870 => ((laws_contains.f kj31 t866 t870).bind fun t871 => (if t871 = true then (laws_FnHints.l1 kj31 l0 t848 x5_1 t852 (wrap64 (x7_3 + 1)) t836 t837 t838 t841 t842 t843 t846 t847) else (some false))))) = some r := by rw [if_pos rfl] at H; exact H
         clear H
         have H := H1
         clear H1
         replace H := Option.bind_eq_some_iff.mp H
         obtain ⟨t866, A440, H⟩ := H
         try dsimp only at H
         have A44 := zK A440
         clear A440
         replace H := Option.bind_eq_some_iff.mp H
         obtain ⟨t870, A450, H⟩ := H
         try dsimp only at H
         have A45 := zK A450
         clear A450
         replace H := Option.bind_eq_some_iff.mp H
         obtain ⟨t871, A460, H⟩ := H
         try dsimp only at H
         have A46 := zK A460
         clear A460
         by_cases c47 : t871 = true
         rotate_left
         ·replace c47 := Bool.eq_false_iff.mpr c47
          subst c47
          have H1 : (some false) = some r := by rw [if_neg (show ¬ (false = true) by decide)] at H; exact H
          clear H
          have H := H1
          clear H1
          obtain rfl := Option.some.inj H
          try go_wp2
          have _ := zK (Kd.RD HO_4.o)
          have _ := zK (Kd.RD HO_6.o)
          have _ := zK (Kd.RD HO_852002.o)
          have _ := zK (Kd.RD HO_852005.o)
          have _ := zK (kD BK851.o)
          have _ := zK (b1 HB.o)
          clear HO_4 HO_6 HO_852002 HO_852005 BK851 HB
          rename_i HO_4 HO_6 HO_852002 HO_852005 BK851 HB
          have p861 : 0 ≤ (x7_3 : Int) := oD M4
          have q861 : x7_3 < (t848.length : Int) := oD M4
          obtain ⟨ad861, e861, hx861_0, hx861_1, hx861_2, hx861_3, hx861_4, hx861_5, hx861_6, hx861_7⟩ := at_T113 (Kd.R_reads' HO_4.o).2.2 x7_3 p861 q861
          cases e861
          replace p861 := eq_true p861
          replace q861 := eq_true q861
          have p864 : 0 ≤ (x7_3 : Int) := oD M4
          have q864 : x7_3 < (t848.length : Int) := oD M4
          obtain ⟨ad864, e864, hx864_0, hx864_1, hx864_2, hx864_3, hx864_4, hx864_5, hx864_6, hx864_7⟩ := at_T113 (Kd.R_reads' HO_4.o).2.2 x7_3 p864 q864
          obtain rfl : ad861 = ad864 := (by injection e864)
          replace p864 := eq_true p864
          replace q864 := eq_true q864
          have p869 : 0 ≤ (x7_3 : Int) := oD M4
          have q869 : x7_3 < (t848.length : Int) := oD M4
          obtain ⟨ad869, e869, hx869_0, hx869_1, hx869_2, hx869_3, hx869_4, hx869_5, hx869_6, hx869_7⟩ := at_T113 (Kd.R_reads' HO_4.o).2.2 x7_3 p869 q869
          obtain rfl : ad861 = ad869 := (by injection e869)
          replace p869 := eq_true p869
          replace q869 := eq_true q869
          refine start_ (n := 32) (S := fun w' => w'.cell? ⟨gb851, 0, none⟩ = some (.int .i64 t836) ∧ w'.cell? ⟨gb851, 1, none⟩ = some (.int .i64 t837) ∧ w'.cell? ⟨gb851, 2, none⟩ = some (.slice Ao8 t838.length co8) ∧ w'.cell? ⟨gb851, 3, none⟩ = some (.int .i64 t841) ∧ w'.cell? ⟨gb851, 4, none⟩ = some (.int .i64 t842) ∧ w'.cell? ⟨gb851, 5, none⟩ = some (.slice Ao9 t843.length co9) ∧ w'.cell? ⟨gb851, 6, none⟩ = some (.int .i64 t846) ∧ w'.cell? ⟨gb851, 7, none⟩ = some (.int .i64 t847) ∧ w'.cell? (ad861.add ((x7_3).toNat * 8)) = some (.int .i64 ((rd_T113 t848 x7_3).f0.f0)) ∧ w'.cell? ⟨(ad861.add ((x7_3).toNat * 8)).block, (ad861.add ((x7_3).toNat * 8)).off + 1, none⟩ = some (.int .i64 ((rd_T113 t848 x7_3).f0.f1)) ∧ w'.cell? ⟨(ad861.add ((x7_3).toNat * 8)).block, (ad861.add ((x7_3).toNat * 8)).off + 2, none⟩ = some (.int .i64 ((rd_T113 t848 x7_3).f0.f2)) ∧ w'.cell? ⟨(ad861.add ((x7_3).toNat * 8)).block, (ad861.add ((x7_3).toNat * 8)).off + 3, none⟩ = some (.int .i64 ((rd_T113 t848 x7_3).f0.f3)) ∧ w'.cell? ⟨(ad861.add ((x7_3).toNat * 8)).block, (ad861.add ((x7_3).toNat * 8)).off + 4, none⟩ = some (.int .i64 ((rd_T113 t848 x7_3).f0.f4)) ∧ w'.cell? ⟨(ad861.add ((x7_3).toNat * 8)).block, (ad861.add ((x7_3).toNat * 8)).off + 5, none⟩ = some (.int .i64 ((rd_T113 t848 x7_3).f1)) ∧ w'.cell? ⟨(ad861.add ((x7_3).toNat * 8)).block, (ad861.add ((x7_3).toNat * 8)).off + 6, none⟩ = some (.int .i64 ((rd_T113 t848 x7_3).f2)) ∧ w'.cell? ⟨(ad861.add ((x7_3).toNat * 8)).block, (ad861.add ((x7_3).toNat * 8)).off + 7, none⟩ = some (.int .i64 ((rd_T113 t848 x7_3).f3)) ∧ w'.cell? (ad861.add ((x7_3).toNat * 8)) = some (.int .i64 ((rd_T113 t848 x7_3).f0.f0)) ∧ w'.cell? ⟨(ad861.add ((x7_3).toNat * 8)).block, (ad861.add ((x7_3).toNat * 8)).off + 1, none⟩ = some (.int .i64 ((rd_T113 t848 x7_3).f0.f1)) ∧ w'.cell? ⟨(ad861.add ((x7_3).toNat * 8)).block, (ad861.add ((x7_3).toNat * 8)).off + 2, none⟩ = some (.int .i64 ((rd_T113 t848 x7_3).f0.f2)) ∧ w'.cell? ⟨(ad861.add ((x7_3).toNat * 8)).block, (ad861.add ((x7_3).toNat * 8)).off + 3, none⟩ = some (.int .i64 ((rd_T113 t848 x7_3).f0.f3)) ∧ w'.cell? ⟨(ad861.add ((x7_3).toNat * 8)).block, (ad861.add ((x7_3).toNat * 8)).off + 4, none⟩ = some (.int .i64 ((rd_T113 t848 x7_3).f0.f4)) ∧ w'.cell? ⟨(ad861.add ((x7_3).toNat * 8)).block, (ad861.add ((x7_3).toNat * 8)).off + 5, none⟩ = some (.int .i64 ((rd_T113 t848 x7_3).f1)) ∧ w'.cell? ⟨(ad861.add ((x7_3).toNat * 8)).block, (ad861.add ((x7_3).toNat * 8)).off + 6, none⟩ = some (.int .i64 ((rd_T113 t848 x7_3).f2)) ∧ w'.cell? ⟨(ad861.add ((x7_3).toNat * 8)).block, (ad861.add ((x7_3).toNat * 8)).off + 7, none⟩ = some (.int .i64 ((rd_T113 t848 x7_3).f3)) ∧ w'.cell? (ad861.add ((x7_3).toNat * 8)) = some (.int .i64 ((rd_T113 t848 x7_3).f0.f0)) ∧ w'.cell? ⟨(ad861.add ((x7_3).toNat * 8)).block, (ad861.add ((x7_3).toNat * 8)).off + 1, none⟩ = some (.int .i64 ((rd_T113 t848 x7_3).f0.f1)) ∧ w'.cell? ⟨(ad861.add ((x7_3).toNat * 8)).block, (ad861.add ((x7_3).toNat * 8)).off + 2, none⟩ = some (.int .i64 ((rd_T113 t848 x7_3).f0.f2)) ∧ w'.cell? ⟨(ad861.add ((x7_3).toNat * 8)).block, (ad861.add ((x7_3).toNat * 8)).off + 3, none⟩ = some (.int .i64 ((rd_T113 t848 x7_3).f0.f3)) ∧ w'.cell? ⟨(ad861.add ((x7_3).toNat * 8)).block, (ad861.add ((x7_3).toNat * 8)).off + 4, none⟩ = some (.int .i64 ((rd_T113 t848 x7_3).f0.f4)) ∧ w'.cell? ⟨(ad861.add ((x7_3).toNat * 8)).block, (ad861.add ((x7_3).toNat * 8)).off + 5, none⟩ = some (.int .i64 ((rd_T113 t848 x7_3).f1)) ∧ w'.cell? ⟨(ad861.add ((x7_3).toNat * 8)).block, (ad861.add ((x7_3).toNat * 8)).off + 6, none⟩ = some (.int .i64 ((rd_T113 t848 x7_3).f2)) ∧ w'.cell? ⟨(ad861.add ((x7_3).toNat * 8)).block, (ad861.add ((x7_3).toNat * 8)).off + 7, none⟩ = some (.int .i64 ((rd_T113 t848 x7_3).f3))) (ds := []) b19A0 (by kernel_rfl) rfl rfl (j8 BK851.o ⟨hx861_0, hx861_1, hx861_2, hx861_3, hx861_4, hx861_5, hx861_6, hx861_7, hx864_0, hx864_1, hx864_2, hx864_3, hx864_4, hx864_5, hx864_6, hx864_7, hx869_0, hx869_1, hx869_2, hx869_3, hx869_4, hx869_5, hx869_6, hx869_7⟩) (fun hHeld => ?_); refine with_tabW laws_FnHints.tab13 laws_FnHints.bits13 (fun HT_ HW_ => ?_)
          generalize wc.drew = w55 at HO_4 HO_6 HO_852002 HO_852005 BK851 HB hx861_0 hx861_1 hx861_2 hx861_3 hx861_4 hx861_5 hx861_6 hx861_7 hx864_0 hx864_1 hx864_2 hx864_3 hx864_4 hx864_5 hx864_6 hx864_7 hx869_0 hx869_1 hx869_2 hx869_3 hx869_4 hx869_5 hx869_6 hx869_7 hHeld ⊢
          refine pI 0 (some 56) b19A1 HT_ ?_
          refine pI 1 (some 57) b19A2 HT_ ?_
          refine pI 2 (some 58) b19A3 HT_ ?_
          refine pI 3 (some 59) b19A4 HT_ ?_
          refine pI 4 (some 60) b19A5 HT_ ?_
          refine pI 6 (some 62) b19A6 HT_ ?_
          refine tI 5 (some 61) b19A7 HT_ HW_ hHeld rfl rfl (Or.inl ⟨by rfl, o1⟩) ?_
          refine one_ (i := 7) (N := some 63) b19A8 rfl rfl (one_of HT_.o (by kernel_rfl)) (by decide) (fun K hK => ?_)
          refine goes_ Try.func77 (by kernel_rfl) rfl #[.agg #[.int .i64 ((rd_T113 t848 x7_3).f0.f0), .int .i64 ((rd_T113 t848 x7_3).f0.f1), .int .i64 ((rd_T113 t848 x7_3).f0.f2), .int .i64 ((rd_T113 t848 x7_3).f0.f3), .int .i64 ((rd_T113 t848 x7_3).f0.f4)], .int .i64 x5_1] (by rfl) rfl rfl M0 ?_
          with_reducible refine (impl_HintOf.calls kj31 ((rd_T113 t848 x7_3).f0.f0) ((rd_T113 t848 x7_3).f0.f1) ((rd_T113 t848 x7_3).f0.f2) ((rd_T113 t848 x7_3).f0.f3) ((rd_T113 t848 x7_3).f0.f4) x5_1 t862 _ A39.o).mono ?_
          rintro e w56 ⟨rfl, hb⟩
          have HS8_ := cB hb ((d8 hHeld).1)
          have HS9_ := cB hb ((d8 hHeld).2.1)
          have HS10_ := cB hb ((d8 hHeld).2.2.1)
          have HS11_ := cB hb ((d8 hHeld).2.2.2.1)
          have HS12_ := cB hb ((d4 (d8 hHeld)).1)
          have HS13_ := cB hb ((d4 (d8 hHeld)).2.1)
          have HS14_ := cB hb ((d4 (d8 hHeld)).2.2.1)
          have HS15_ := cB hb ((d4 (d8 hHeld)).2.2.2.1)
          have HS16_ := cB hb ((d16 hHeld).1)
          have HS17_ := cB hb ((d16 hHeld).2.1)
          have HS18_ := cB hb ((d16 hHeld).2.2.1)
          have HS19_ := cB hb ((d16 hHeld).2.2.2.1)
          have HS20_ := cB hb ((d4 (d16 hHeld)).1)
          have HS21_ := cB hb ((d4 (d16 hHeld)).2.1)
          have HS22_ := cB hb ((d4 (d16 hHeld)).2.2.1)
          have HS23_ := cB hb ((d4 (d16 hHeld)).2.2.2.1)
          have HS24_ := cB hb ((d8 (d16 hHeld)).1)
          have HS25_ := cB hb ((d8 (d16 hHeld)).2.1)
          have HS26_ := cB hb ((d8 (d16 hHeld)).2.2.1)
          have HS27_ := cB hb ((d8 (d16 hHeld)).2.2.2.1)
          have HS28_ := cB hb ((d4 (d8 (d16 hHeld))).1)
          have HS29_ := cB hb ((d4 (d8 (d16 hHeld))).2.1)
          have HS30_ := cB hb ((d4 (d8 (d16 hHeld))).2.2.1)
          have HS31_ := cB hb ((d4 (d8 (d16 hHeld))).2.2.2)
          refine ⟨_, rfl, ?_⟩
          have _ := zK (Kd.R_below (Kd.qR HO_4.o) hb)
          have _ := zK (Kd.R_below (Kd.qR HO_6.o) hb)
          have _ := zK (Kd.R_below (Kd.qR HO_852002.o) hb)
          have _ := zK (Kd.R_below (Kd.qR HO_852005.o) hb)
          have _ := zK (bB (qK BK851.o) hb)
          have _ := zK (bT M11 hb)
          clear HO_4 HO_6 HO_852002 HO_852005 BK851 HB
          rename_i HO_4 HO_6 HO_852002 HO_852005 BK851 HB
          (try clear hb)
          (try clear hb2)
          (try clear hk)
          (try clear hi)
          obtain ⟨Ao57, co57, eo57⟩ := Kd.R_slice HO_6.o
          (first | subst eo57 | (injection eo57 with f1_ f2_ f3_; have f4_ := f1_.symm; have f5_ := f3_.symm; clear f1_ f2_ f3_; subst f4_; subst f5_))
          refine hK.out _ _ (j8 BK851.o ⟨HS8_, HS9_, HS10_, HS11_, HS12_, HS13_, HS14_, HS15_, HS16_, HS17_, HS18_, HS19_, HS20_, HS21_, HS22_, HS23_, HS24_, HS25_, HS26_, HS27_, HS28_, HS29_, HS30_, HS31_⟩) (fun hHeld => ?_)
          clear hK K
          refine norm_ (a' := ?_) ?_ ?_
          rotate_left
          ·show Act.put _ (some 63) _ = _
           simp only [Act.put, sA, sZ, sS, i64_w, i32_w]
           rfl
          refine one_ (i := 8) (N := some 64) b19A9 rfl rfl (one_of HT_.o (by kernel_rfl)) (by decide) (fun K hK => ?_)
          refine goes_ Try.func37 (by kernel_rfl) rfl #[.slice Ao57 t852.length co57, .int .i64 t862] (by rfl) rfl rfl M0 ?_
          with_reducible refine (laws_contains.calls kj31 _ _ t852 t862 true _ ?side1 ?side2 A40.o).mono ?_
          (case side1 => exact Kd.qC (Kd.R_reads' HO_6.o).2.2)
          (case side2 => exact (Kd.R_reads' HO_6.o).2.1)
          rintro e w' ⟨rfl, ⟨nd, rfl⟩⟩
          refine ⟨_, rfl, ?_⟩
          refine hK.out _ _ (j8 BK851.o ⟨(d8 hHeld).1, (d8 hHeld).2.1, (d8 hHeld).2.2.1, (d8 hHeld).2.2.2.1, (d4 (d8 hHeld)).1, (d4 (d8 hHeld)).2.1, (d4 (d8 hHeld)).2.2.1, (d4 (d8 hHeld)).2.2.2.1, (d16 hHeld).1, (d16 hHeld).2.1, (d16 hHeld).2.2.1, (d16 hHeld).2.2.2.1, (d4 (d16 hHeld)).1, (d4 (d16 hHeld)).2.1, (d4 (d16 hHeld)).2.2.1, (d4 (d16 hHeld)).2.2.2.1, (d8 (d16 hHeld)).1, (d8 (d16 hHeld)).2.1, (d8 (d16 hHeld)).2.2.1, (d8 (d16 hHeld)).2.2.2.1, (d4 (d8 (d16 hHeld))).1, (d4 (d8 (d16 hHeld))).2.1, (d4 (d8 (d16 hHeld))).2.2.1, (d4 (d8 (d16 hHeld))).2.2.2⟩) (fun hHeld => ?_)
          clear hK K
          refine norm_ (a' := ?_) ?_ ?_
          rotate_left
          ·show Act.put _ (some 64) _ = _
           simp only [Act.put, sA, sZ, sS, i64_w, i32_w]
           rfl
          refine pI 9 (some 65) b19A10 HT_ ?_
          refine pI 10 (some 66) b19A11 HT_ ?_
          refine pI 12 (some 68) b19A12 HT_ ?_
          refine pI 13 (some 69) b19A13 HT_ ?_
          refine pI 14 (some 70) b19A14 HT_ ?_
          refine tI 11 (some 67) b19A15 HT_ HW_ hHeld rfl rfl (Or.inl ⟨by rfl, o1⟩) ?_
          refine tI 15 (some 71) b19A16 HT_ HW_ hHeld rfl rfl (Or.inl ⟨by rfl, o1⟩) ?_
          refine one_ (i := 16) (N := some 72) b19A17 rfl rfl (one_of HT_.o (by kernel_rfl)) (by decide) (fun K hK => ?_)
          refine goes_ Try.func78 (by kernel_rfl) rfl #[.agg #[.int .i64 t836, .int .i64 t837, .slice Ao8 t838.length co8, .int .i64 t841, .int .i64 t842, .slice Ao9 t843.length co9, .int .i64 t846, .int .i64 t847], .agg #[.int .i64 ((rd_T113 t848 x7_3).f0.f0), .int .i64 ((rd_T113 t848 x7_3).f0.f1), .int .i64 ((rd_T113 t848 x7_3).f0.f2), .int .i64 ((rd_T113 t848 x7_3).f0.f3), .int .i64 ((rd_T113 t848 x7_3).f0.f4), .int .i64 ((rd_T113 t848 x7_3).f1), .int .i64 ((rd_T113 t848 x7_3).f2), .int .i64 ((rd_T113 t848 x7_3).f3)]] (by rfl) rfl rfl M0 ?_
          with_reducible refine (impl_CanBe.calls kj31 t836 t837 _ _ t838 t841 t842 _ _ t843 t846 t847 ((rd_T113 t848 x7_3).f0.f0) ((rd_T113 t848 x7_3).f0.f1) ((rd_T113 t848 x7_3).f0.f2) ((rd_T113 t848 x7_3).f0.f3) ((rd_T113 t848 x7_3).f0.f4) ((rd_T113 t848 x7_3).f1) ((rd_T113 t848 x7_3).f2) ((rd_T113 t848 x7_3).f3) true _ ?side1 ?side2 ?side3 ?side4 A42.o).mono ?_
          (case side1 => exact Kd.qC (Kd.R_reads' HO_852002.o).2.2)
          (case side2 => exact (Kd.R_reads' HO_852002.o).2.1)
          (case side3 => exact Kd.qC (Kd.R_reads' HO_852005.o).2.2)
          (case side4 => exact (Kd.R_reads' HO_852005.o).2.1)
          rintro e w58 ⟨rfl, hb⟩
          have HS8_ := cB hb ((d8 hHeld).1)
          have HS9_ := cB hb ((d8 hHeld).2.1)
          have HS10_ := cB hb ((d8 hHeld).2.2.1)
          have HS11_ := cB hb ((d8 hHeld).2.2.2.1)
          have HS12_ := cB hb ((d4 (d8 hHeld)).1)
          have HS13_ := cB hb ((d4 (d8 hHeld)).2.1)
          have HS14_ := cB hb ((d4 (d8 hHeld)).2.2.1)
          have HS15_ := cB hb ((d4 (d8 hHeld)).2.2.2.1)
          have HS16_ := cB hb ((d16 hHeld).1)
          have HS17_ := cB hb ((d16 hHeld).2.1)
          have HS18_ := cB hb ((d16 hHeld).2.2.1)
          have HS19_ := cB hb ((d16 hHeld).2.2.2.1)
          have HS20_ := cB hb ((d4 (d16 hHeld)).1)
          have HS21_ := cB hb ((d4 (d16 hHeld)).2.1)
          have HS22_ := cB hb ((d4 (d16 hHeld)).2.2.1)
          have HS23_ := cB hb ((d4 (d16 hHeld)).2.2.2.1)
          have HS24_ := cB hb ((d8 (d16 hHeld)).1)
          have HS25_ := cB hb ((d8 (d16 hHeld)).2.1)
          have HS26_ := cB hb ((d8 (d16 hHeld)).2.2.1)
          have HS27_ := cB hb ((d8 (d16 hHeld)).2.2.2.1)
          have HS28_ := cB hb ((d4 (d8 (d16 hHeld))).1)
          have HS29_ := cB hb ((d4 (d8 (d16 hHeld))).2.1)
          have HS30_ := cB hb ((d4 (d8 (d16 hHeld))).2.2.1)
          have HS31_ := cB hb ((d4 (d8 (d16 hHeld))).2.2.2)
          refine ⟨_, rfl, ?_⟩
          have _ := zK (Kd.R_below (Kd.qR HO_4.o) hb)
          have _ := zK (Kd.R_below (Kd.qR HO_6.o) hb)
          have _ := zK (Kd.R_below (Kd.qR HO_852002.o) hb)
          have _ := zK (Kd.R_below (Kd.qR HO_852005.o) hb)
          have _ := zK (bB (qK BK851.o) hb)
          have _ := zK (bT M11 hb)
          clear HO_4 HO_6 HO_852002 HO_852005 BK851 HB
          rename_i HO_4 HO_6 HO_852002 HO_852005 BK851 HB
          (try clear hb)
          (try clear hb2)
          (try clear hk)
          (try clear hi)
          refine hK.out _ _ (j8 BK851.o ⟨HS8_, HS9_, HS10_, HS11_, HS12_, HS13_, HS14_, HS15_, HS16_, HS17_, HS18_, HS19_, HS20_, HS21_, HS22_, HS23_, HS24_, HS25_, HS26_, HS27_, HS28_, HS29_, HS30_, HS31_⟩) (fun hHeld => ?_)
          clear hK K
          refine norm_ (a' := ?_) ?_ ?_
          rotate_left
          ·show Act.put _ (some 72) _ = _
           simp only [Act.put, sA, sZ, sS, i64_w, i32_w]
           rfl
          refine pI 17 (some 73) b19A18 HT_ ?_
          refine pI 19 (some 75) b19A19 HT_ ?_
          refine pI 21 (some 77) b19A20 HT_ ?_
          refine pI 22 (some 78) b19A21 HT_ ?_
          refine pI 23 (some 79) b19A22 HT_ ?_
          refine pI 24 (some 80) b19A23 HT_ ?_
          refine pI 26 (some 82) b19A24 HT_ ?_
          refine tI 18 (some 74) b19A25 HT_ HW_ hHeld rfl rfl (Or.inl ⟨by rfl, o1⟩) ?_
          refine tI 25 (some 81) b19A26 HT_ HW_ hHeld rfl rfl (Or.inl ⟨by rfl, o1⟩) ?_
          refine one_ (i := 20) (N := some 76) b19A27 rfl rfl (one_of HT_.o (by kernel_rfl)) (by decide) (fun K hK => ?_)
          refine goes_ Try.func24 (by kernel_rfl) rfl #[.agg #[.int .i64 t836, .int .i64 t837, .slice Ao8 t838.length co8, .int .i64 t841, .int .i64 t842, .slice Ao9 t843.length co9, .int .i64 t846, .int .i64 t847], .int .i64 x5_1] (by rfl) rfl rfl M0 ?_
          with_reducible refine (impl_HintsFor.calls kj31 t836 t837 _ _ t838 t841 t842 _ _ t843 t846 t847 x5_1 t866 _ ?side1 ?side2 ?side3 ?side4 A44.o).mono ?_
          (case side1 => exact Kd.qC (Kd.R_reads' HO_852002.o).2.2)
          (case side2 => exact (Kd.R_reads' HO_852002.o).2.1)
          (case side3 => exact Kd.qC (Kd.R_reads' HO_852005.o).2.2)
          (case side4 => exact (Kd.R_reads' HO_852005.o).2.1)
          rintro e w59 ⟨v867, rfl, ho0, hb⟩
          have HS8_ := cB hb ((d8 hHeld).1)
          have HS9_ := cB hb ((d8 hHeld).2.1)
          have HS10_ := cB hb ((d8 hHeld).2.2.1)
          have HS11_ := cB hb ((d8 hHeld).2.2.2.1)
          have HS12_ := cB hb ((d4 (d8 hHeld)).1)
          have HS13_ := cB hb ((d4 (d8 hHeld)).2.1)
          have HS14_ := cB hb ((d4 (d8 hHeld)).2.2.1)
          have HS15_ := cB hb ((d4 (d8 hHeld)).2.2.2.1)
          have HS16_ := cB hb ((d16 hHeld).1)
          have HS17_ := cB hb ((d16 hHeld).2.1)
          have HS18_ := cB hb ((d16 hHeld).2.2.1)
          have HS19_ := cB hb ((d16 hHeld).2.2.2.1)
          have HS20_ := cB hb ((d4 (d16 hHeld)).1)
          have HS21_ := cB hb ((d4 (d16 hHeld)).2.1)
          have HS22_ := cB hb ((d4 (d16 hHeld)).2.2.1)
          have HS23_ := cB hb ((d4 (d16 hHeld)).2.2.2.1)
          have HS24_ := cB hb ((d8 (d16 hHeld)).1)
          have HS25_ := cB hb ((d8 (d16 hHeld)).2.1)
          have HS26_ := cB hb ((d8 (d16 hHeld)).2.2.1)
          have HS27_ := cB hb ((d8 (d16 hHeld)).2.2.2.1)
          have HS28_ := cB hb ((d4 (d8 (d16 hHeld))).1)
          have HS29_ := cB hb ((d4 (d8 (d16 hHeld))).2.1)
          have HS30_ := cB hb ((d4 (d8 (d16 hHeld))).2.2.1)
          have HS31_ := cB hb ((d4 (d8 (d16 hHeld))).2.2.2)
          refine ⟨_, rfl, ?_⟩
          have _ := zK (Kd.R_below (Kd.qR HO_4.o) hb)
          have _ := zK (Kd.R_elder' (Kd.qR HO_6.o) (Kd.R_base ho0) hb)
          have _ := zK (Kd.R_elder' (Kd.qR HO_852002.o) (Kd.R_base ho0) hb)
          have _ := zK (Kd.R_elder' (Kd.qR HO_852005.o) (Kd.R_base ho0) hb)
          have _ := zK (Kd.R_lower (Kd.R_new' (Kd.R_new' (Kd.R_new' ho0 (Kd.R_lt (Kd.qR HO_6.o))) (Kd.R_lt (Kd.qR HO_852002.o))) (Kd.R_lt (Kd.qR HO_852005.o))) (bZ M11))
          have _ := zK (bB (qK BK851.o) hb)
          have _ := zK (bT M11 hb)
          clear HO_4 HO_6 HO_852002 HO_852005 BK851 HB
          rename_i HO_4 HO_6 HO_852002 HO_852005 HO868 BK851 HB
          (try clear hb)
          (try clear hb2)
          (try clear hk)
          (try clear hi)
          (try clear ho0)
          refine hK.out _ _ (j8 BK851.o ⟨HS8_, HS9_, HS10_, HS11_, HS12_, HS13_, HS14_, HS15_, HS16_, HS17_, HS18_, HS19_, HS20_, HS21_, HS22_, HS23_, HS24_, HS25_, HS26_, HS27_, HS28_, HS29_, HS30_, HS31_⟩) (fun hHeld => ?_)
          clear hK K
          refine norm_ (a' := ?_) ?_ ?_
          rotate_left
          ·show Act.put _ (some 76) _ = _
           simp only [Act.put, sA, sZ, sS, i64_w, i32_w]
           rfl
          refine one_ (i := 27) (N := some 83) b19A28 rfl rfl (one_of HT_.o (by kernel_rfl)) (by decide) (fun K hK => ?_)
          refine goes_ Try.func77 (by kernel_rfl) rfl #[.agg #[.int .i64 ((rd_T113 t848 x7_3).f0.f0), .int .i64 ((rd_T113 t848 x7_3).f0.f1), .int .i64 ((rd_T113 t848 x7_3).f0.f2), .int .i64 ((rd_T113 t848 x7_3).f0.f3), .int .i64 ((rd_T113 t848 x7_3).f0.f4)], .int .i64 x5_1] (by rfl) rfl rfl M0 ?_
          with_reducible refine (impl_HintOf.calls kj31 ((rd_T113 t848 x7_3).f0.f0) ((rd_T113 t848 x7_3).f0.f1) ((rd_T113 t848 x7_3).f0.f2) ((rd_T113 t848 x7_3).f0.f3) ((rd_T113 t848 x7_3).f0.f4) x5_1 t870 _ A45.o).mono ?_
          rintro e w60 ⟨rfl, hb⟩
          have HS8_ := cB hb ((d8 hHeld).1)
          have HS9_ := cB hb ((d8 hHeld).2.1)
          have HS10_ := cB hb ((d8 hHeld).2.2.1)
          have HS11_ := cB hb ((d8 hHeld).2.2.2.1)
          have HS12_ := cB hb ((d4 (d8 hHeld)).1)
          have HS13_ := cB hb ((d4 (d8 hHeld)).2.1)
          have HS14_ := cB hb ((d4 (d8 hHeld)).2.2.1)
          have HS15_ := cB hb ((d4 (d8 hHeld)).2.2.2.1)
          have HS16_ := cB hb ((d16 hHeld).1)
          have HS17_ := cB hb ((d16 hHeld).2.1)
          have HS18_ := cB hb ((d16 hHeld).2.2.1)
          have HS19_ := cB hb ((d16 hHeld).2.2.2.1)
          have HS20_ := cB hb ((d4 (d16 hHeld)).1)
          have HS21_ := cB hb ((d4 (d16 hHeld)).2.1)
          have HS22_ := cB hb ((d4 (d16 hHeld)).2.2.1)
          have HS23_ := cB hb ((d4 (d16 hHeld)).2.2.2.1)
          have HS24_ := cB hb ((d8 (d16 hHeld)).1)
          have HS25_ := cB hb ((d8 (d16 hHeld)).2.1)
          have HS26_ := cB hb ((d8 (d16 hHeld)).2.2.1)
          have HS27_ := cB hb ((d8 (d16 hHeld)).2.2.2.1)
          have HS28_ := cB hb ((d4 (d8 (d16 hHeld))).1)
          have HS29_ := cB hb ((d4 (d8 (d16 hHeld))).2.1)
          have HS30_ := cB hb ((d4 (d8 (d16 hHeld))).2.2.1)
          have HS31_ := cB hb ((d4 (d8 (d16 hHeld))).2.2.2)
          refine ⟨_, rfl, ?_⟩
          have _ := zK (Kd.R_below (Kd.qR HO_4.o) hb)
          have _ := zK (Kd.R_below (Kd.qR HO_6.o) hb)
          have _ := zK (Kd.R_below (Kd.qR HO_852002.o) hb)
          have _ := zK (Kd.R_below (Kd.qR HO_852005.o) hb)
          have _ := zK (Kd.R_below (Kd.qR HO868.o) hb)
          have _ := zK (bB (qK BK851.o) hb)
          have _ := zK (bT M11 hb)
          clear HO_4 HO_6 HO_852002 HO_852005 HO868 BK851 HB
          rename_i HO_4 HO_6 HO_852002 HO_852005 HO868 BK851 HB
          (try clear hb)
          (try clear hb2)
          (try clear hk)
          (try clear hi)
          obtain ⟨Ao61, co61, eo61⟩ := Kd.R_slice HO868.o
          (first | subst eo61 | (injection eo61 with f1_ f2_ f3_; have f4_ := f1_.symm; have f5_ := f3_.symm; clear f1_ f2_ f3_; subst f4_; subst f5_))
          refine hK.out _ _ (j8 BK851.o ⟨HS8_, HS9_, HS10_, HS11_, HS12_, HS13_, HS14_, HS15_, HS16_, HS17_, HS18_, HS19_, HS20_, HS21_, HS22_, HS23_, HS24_, HS25_, HS26_, HS27_, HS28_, HS29_, HS30_, HS31_⟩) (fun hHeld => ?_)
          clear hK K
          refine norm_ (a' := ?_) ?_ ?_
          rotate_left
          ·show Act.put _ (some 83) _ = _
           simp only [Act.put, sA, sZ, sS, i64_w, i32_w]
           rfl
          refine one_ (i := 28) (N := some 84) b19A29 rfl rfl (one_of HT_.o (by kernel_rfl)) (by decide) (fun K hK => ?_)
          refine goes_ Try.func37 (by kernel_rfl) rfl #[.slice Ao61 t866.length co61, .int .i64 t870] (by rfl) rfl rfl M0 ?_
          with_reducible refine (laws_contains.calls kj31 _ _ t866 t870 false _ ?side1 ?side2 A46.o).mono ?_
          (case side1 => exact Kd.qC (Kd.R_reads' HO868.o).2.2)
          (case side2 => exact (Kd.R_reads' HO868.o).2.1)
          rintro e w' ⟨rfl, ⟨nd, rfl⟩⟩
          refine ⟨_, rfl, ?_⟩
          refine hK.out _ _ (j8 BK851.o ⟨(d8 hHeld).1, (d8 hHeld).2.1, (d8 hHeld).2.2.1, (d8 hHeld).2.2.2.1, (d4 (d8 hHeld)).1, (d4 (d8 hHeld)).2.1, (d4 (d8 hHeld)).2.2.1, (d4 (d8 hHeld)).2.2.2.1, (d16 hHeld).1, (d16 hHeld).2.1, (d16 hHeld).2.2.1, (d16 hHeld).2.2.2.1, (d4 (d16 hHeld)).1, (d4 (d16 hHeld)).2.1, (d4 (d16 hHeld)).2.2.1, (d4 (d16 hHeld)).2.2.2.1, (d8 (d16 hHeld)).1, (d8 (d16 hHeld)).2.1, (d8 (d16 hHeld)).2.2.1, (d8 (d16 hHeld)).2.2.2.1, (d4 (d8 (d16 hHeld))).1, (d4 (d8 (d16 hHeld))).2.1, (d4 (d8 (d16 hHeld))).2.2.1, (d4 (d8 (d16 hHeld))).2.2.2⟩) (fun hHeld => ?_)
          clear hK K
          refine norm_ (a' := ?_) ?_ ?_
          rotate_left
          ·show Act.put _ (some 84) _ = _
           simp only [Act.put, sA, sZ, sS, i64_w, i32_w]
           rfl
          refine pI 29 (some 85) b19A30 HT_ ?_
          refine pI 30 (some 86) b19A31 HT_ ?_
          refine pI 31 (some 87) b19A32 HT_ ?_
          refine done_ (done_of HT_.o (by kernel_rfl)) ?_
          try go_wp2
          go_ret
          exact ⟨o0, o3⟩
         subst c47
         have H1 : (laws_FnHints.l1 kj31 l0 t848 x5_1 t852 (wrap64 (x7_3 + 1)) t836 t837 t838 t841 t842 t843 t846 t847) = some r := by rw [if_pos rfl] at H; exact H
         clear H
         have H := H1
         clear H1
         have H' := zK H
         clear H
         try go_wp2
         have _ := zK (Kd.RD HO_4.o)
         have _ := zK (Kd.RD HO_6.o)
         have _ := zK (Kd.RD HO_852002.o)
         have _ := zK (Kd.RD HO_852005.o)
         have _ := zK (kD BK851.o)
         have _ := zK (b1 HB.o)
         clear HO_4 HO_6 HO_852002 HO_852005 BK851 HB
         rename_i HO_4 HO_6 HO_852002 HO_852005 BK851 HB
         have p861 : 0 ≤ (x7_3 : Int) := oD M4
         have q861 : x7_3 < (t848.length : Int) := oD M4
         obtain ⟨ad861, e861, hx861_0, hx861_1, hx861_2, hx861_3, hx861_4, hx861_5, hx861_6, hx861_7⟩ := at_T113 (Kd.R_reads' HO_4.o).2.2 x7_3 p861 q861
         cases e861
         replace p861 := eq_true p861
         replace q861 := eq_true q861
         have p864 : 0 ≤ (x7_3 : Int) := oD M4
         have q864 : x7_3 < (t848.length : Int) := oD M4
         obtain ⟨ad864, e864, hx864_0, hx864_1, hx864_2, hx864_3, hx864_4, hx864_5, hx864_6, hx864_7⟩ := at_T113 (Kd.R_reads' HO_4.o).2.2 x7_3 p864 q864
         obtain rfl : ad861 = ad864 := (by injection e864)
         replace p864 := eq_true p864
         replace q864 := eq_true q864
         have p869 : 0 ≤ (x7_3 : Int) := oD M4
         have q869 : x7_3 < (t848.length : Int) := oD M4
         obtain ⟨ad869, e869, hx869_0, hx869_1, hx869_2, hx869_3, hx869_4, hx869_5, hx869_6, hx869_7⟩ := at_T113 (Kd.R_reads' HO_4.o).2.2 x7_3 p869 q869
         obtain rfl : ad861 = ad869 := (by injection e869)
         replace p869 := eq_true p869
         replace q869 := eq_true q869
         refine start_ (n := 32) (S := fun w' => w'.cell? ⟨gb851, 0, none⟩ = some (.int .i64 t836) ∧ w'.cell? ⟨gb851, 1, none⟩ = some (.int .i64 t837) ∧ w'.cell? ⟨gb851, 2, none⟩ = some (.slice Ao8 t838.length co8) ∧ w'.cell? ⟨gb851, 3, none⟩ = some (.int .i64 t841) ∧ w'.cell? ⟨gb851, 4, none⟩ = some (.int .i64 t842) ∧ w'.cell? ⟨gb851, 5, none⟩ = some (.slice Ao9 t843.length co9) ∧ w'.cell? ⟨gb851, 6, none⟩ = some (.int .i64 t846) ∧ w'.cell? ⟨gb851, 7, none⟩ = some (.int .i64 t847) ∧ w'.cell? (ad861.add ((x7_3).toNat * 8)) = some (.int .i64 ((rd_T113 t848 x7_3).f0.f0)) ∧ w'.cell? ⟨(ad861.add ((x7_3).toNat * 8)).block, (ad861.add ((x7_3).toNat * 8)).off + 1, none⟩ = some (.int .i64 ((rd_T113 t848 x7_3).f0.f1)) ∧ w'.cell? ⟨(ad861.add ((x7_3).toNat * 8)).block, (ad861.add ((x7_3).toNat * 8)).off + 2, none⟩ = some (.int .i64 ((rd_T113 t848 x7_3).f0.f2)) ∧ w'.cell? ⟨(ad861.add ((x7_3).toNat * 8)).block, (ad861.add ((x7_3).toNat * 8)).off + 3, none⟩ = some (.int .i64 ((rd_T113 t848 x7_3).f0.f3)) ∧ w'.cell? ⟨(ad861.add ((x7_3).toNat * 8)).block, (ad861.add ((x7_3).toNat * 8)).off + 4, none⟩ = some (.int .i64 ((rd_T113 t848 x7_3).f0.f4)) ∧ w'.cell? ⟨(ad861.add ((x7_3).toNat * 8)).block, (ad861.add ((x7_3).toNat * 8)).off + 5, none⟩ = some (.int .i64 ((rd_T113 t848 x7_3).f1)) ∧ w'.cell? ⟨(ad861.add ((x7_3).toNat * 8)).block, (ad861.add ((x7_3).toNat * 8)).off + 6, none⟩ = some (.int .i64 ((rd_T113 t848 x7_3).f2)) ∧ w'.cell? ⟨(ad861.add ((x7_3).toNat * 8)).block, (ad861.add ((x7_3).toNat * 8)).off + 7, none⟩ = some (.int .i64 ((rd_T113 t848 x7_3).f3)) ∧ w'.cell? (ad861.add ((x7_3).toNat * 8)) = some (.int .i64 ((rd_T113 t848 x7_3).f0.f0)) ∧ w'.cell? ⟨(ad861.add ((x7_3).toNat * 8)).block, (ad861.add ((x7_3).toNat * 8)).off + 1, none⟩ = some (.int .i64 ((rd_T113 t848 x7_3).f0.f1)) ∧ w'.cell? ⟨(ad861.add ((x7_3).toNat * 8)).block, (ad861.add ((x7_3).toNat * 8)).off + 2, none⟩ = some (.int .i64 ((rd_T113 t848 x7_3).f0.f2)) ∧ w'.cell? ⟨(ad861.add ((x7_3).toNat * 8)).block, (ad861.add ((x7_3).toNat * 8)).off + 3, none⟩ = some (.int .i64 ((rd_T113 t848 x7_3).f0.f3)) ∧ w'.cell? ⟨(ad861.add ((x7_3).toNat * 8)).block, (ad861.add ((x7_3).toNat * 8)).off + 4, none⟩ = some (.int .i64 ((rd_T113 t848 x7_3).f0.f4)) ∧ w'.cell? ⟨(ad861.add ((x7_3).toNat * 8)).block, (ad861.add ((x7_3).toNat * 8)).off + 5, none⟩ = some (.int .i64 ((rd_T113 t848 x7_3).f1)) ∧ w'.cell? ⟨(ad861.add ((x7_3).toNat * 8)).block, (ad861.add ((x7_3).toNat * 8)).off + 6, none⟩ = some (.int .i64 ((rd_T113 t848 x7_3).f2)) ∧ w'.cell? ⟨(ad861.add ((x7_3).toNat * 8)).block, (ad861.add ((x7_3).toNat * 8)).off + 7, none⟩ = some (.int .i64 ((rd_T113 t848 x7_3).f3)) ∧ w'.cell? (ad861.add ((x7_3).toNat * 8)) = some (.int .i64 ((rd_T113 t848 x7_3).f0.f0)) ∧ w'.cell? ⟨(ad861.add ((x7_3).toNat * 8)).block, (ad861.add ((x7_3).toNat * 8)).off + 1, none⟩ = some (.int .i64 ((rd_T113 t848 x7_3).f0.f1)) ∧ w'.cell? ⟨(ad861.add ((x7_3).toNat * 8)).block, (ad861.add ((x7_3).toNat * 8)).off + 2, none⟩ = some (.int .i64 ((rd_T113 t848 x7_3).f0.f2)) ∧ w'.cell? ⟨(ad861.add ((x7_3).toNat * 8)).block, (ad861.add ((x7_3).toNat * 8)).off + 3, none⟩ = some (.int .i64 ((rd_T113 t848 x7_3).f0.f3)) ∧ w'.cell? ⟨(ad861.add ((x7_3).toNat * 8)).block, (ad861.add ((x7_3).toNat * 8)).off + 4, none⟩ = some (.int .i64 ((rd_T113 t848 x7_3).f0.f4)) ∧ w'.cell? ⟨(ad861.add ((x7_3).toNat * 8)).block, (ad861.add ((x7_3).toNat * 8)).off + 5, none⟩ = some (.int .i64 ((rd_T113 t848 x7_3).f1)) ∧ w'.cell? ⟨(ad861.add ((x7_3).toNat * 8)).block, (ad861.add ((x7_3).toNat * 8)).off + 6, none⟩ = some (.int .i64 ((rd_T113 t848 x7_3).f2)) ∧ w'.cell? ⟨(ad861.add ((x7_3).toNat * 8)).block, (ad861.add ((x7_3).toNat * 8)).off + 7, none⟩ = some (.int .i64 ((rd_T113 t848 x7_3).f3))) (ds := []) b19A0 (by kernel_rfl) rfl rfl (j8 BK851.o ⟨hx861_0, hx861_1, hx861_2, hx861_3, hx861_4, hx861_5, hx861_6, hx861_7, hx864_0, hx864_1, hx864_2, hx864_3, hx864_4, hx864_5, hx864_6, hx864_7, hx869_0, hx869_1, hx869_2, hx869_3, hx869_4, hx869_5, hx869_6, hx869_7⟩) (fun hHeld => ?_); refine with_tabW laws_FnHints.tab13 laws_FnHints.bits13 (fun HT_ HW_ => ?_)
         generalize wc.drew = w48 at HO_4 HO_6 HO_852002 HO_852005 BK851 HB hx861_0 hx861_1 hx861_2 hx861_3 hx861_4 hx861_5 hx861_6 hx861_7 hx864_0 hx864_1 hx864_2 hx864_3 hx864_4 hx864_5 hx864_6 hx864_7 hx869_0 hx869_1 hx869_2 hx869_3 hx869_4 hx869_5 hx869_6 hx869_7 hHeld ⊢
         refine pI 0 (some 56) b19A1 HT_ ?_
         refine pI 1 (some 57) b19A2 HT_ ?_
         refine pI 2 (some 58) b19A3 HT_ ?_
         refine pI 3 (some 59) b19A4 HT_ ?_
         refine pI 4 (some 60) b19A5 HT_ ?_
         refine pI 6 (some 62) b19A6 HT_ ?_
         refine tI 5 (some 61) b19A7 HT_ HW_ hHeld rfl rfl (Or.inl ⟨by rfl, o1⟩) ?_
         refine one_ (i := 7) (N := some 63) b19A8 rfl rfl (one_of HT_.o (by kernel_rfl)) (by decide) (fun K hK => ?_)
         refine goes_ Try.func77 (by kernel_rfl) rfl #[.agg #[.int .i64 ((rd_T113 t848 x7_3).f0.f0), .int .i64 ((rd_T113 t848 x7_3).f0.f1), .int .i64 ((rd_T113 t848 x7_3).f0.f2), .int .i64 ((rd_T113 t848 x7_3).f0.f3), .int .i64 ((rd_T113 t848 x7_3).f0.f4)], .int .i64 x5_1] (by rfl) rfl rfl M0 ?_
         with_reducible refine (impl_HintOf.calls kj31 ((rd_T113 t848 x7_3).f0.f0) ((rd_T113 t848 x7_3).f0.f1) ((rd_T113 t848 x7_3).f0.f2) ((rd_T113 t848 x7_3).f0.f3) ((rd_T113 t848 x7_3).f0.f4) x5_1 t862 _ A39.o).mono ?_
         rintro e w49 ⟨rfl, hb⟩
         have HS8_ := cB hb ((d8 hHeld).1)
         have HS9_ := cB hb ((d8 hHeld).2.1)
         have HS10_ := cB hb ((d8 hHeld).2.2.1)
         have HS11_ := cB hb ((d8 hHeld).2.2.2.1)
         have HS12_ := cB hb ((d4 (d8 hHeld)).1)
         have HS13_ := cB hb ((d4 (d8 hHeld)).2.1)
         have HS14_ := cB hb ((d4 (d8 hHeld)).2.2.1)
         have HS15_ := cB hb ((d4 (d8 hHeld)).2.2.2.1)
         have HS16_ := cB hb ((d16 hHeld).1)
         have HS17_ := cB hb ((d16 hHeld).2.1)
         have HS18_ := cB hb ((d16 hHeld).2.2.1)
         have HS19_ := cB hb ((d16 hHeld).2.2.2.1)
         have HS20_ := cB hb ((d4 (d16 hHeld)).1)
         have HS21_ := cB hb ((d4 (d16 hHeld)).2.1)
         have HS22_ := cB hb ((d4 (d16 hHeld)).2.2.1)
         have HS23_ := cB hb ((d4 (d16 hHeld)).2.2.2.1)
         have HS24_ := cB hb ((d8 (d16 hHeld)).1)
         have HS25_ := cB hb ((d8 (d16 hHeld)).2.1)
         have HS26_ := cB hb ((d8 (d16 hHeld)).2.2.1)
         have HS27_ := cB hb ((d8 (d16 hHeld)).2.2.2.1)
         have HS28_ := cB hb ((d4 (d8 (d16 hHeld))).1)
         have HS29_ := cB hb ((d4 (d8 (d16 hHeld))).2.1)
         have HS30_ := cB hb ((d4 (d8 (d16 hHeld))).2.2.1)
         have HS31_ := cB hb ((d4 (d8 (d16 hHeld))).2.2.2)
         refine ⟨_, rfl, ?_⟩
         have _ := zK (Kd.R_below (Kd.qR HO_4.o) hb)
         have _ := zK (Kd.R_below (Kd.qR HO_6.o) hb)
         have _ := zK (Kd.R_below (Kd.qR HO_852002.o) hb)
         have _ := zK (Kd.R_below (Kd.qR HO_852005.o) hb)
         have _ := zK (bB (qK BK851.o) hb)
         have _ := zK (bT M11 hb)
         clear HO_4 HO_6 HO_852002 HO_852005 BK851 HB
         rename_i HO_4 HO_6 HO_852002 HO_852005 BK851 HB
         (try clear hb)
         (try clear hb2)
         (try clear hk)
         (try clear hi)
         obtain ⟨Ao50, co50, eo50⟩ := Kd.R_slice HO_6.o
         (first | subst eo50 | (injection eo50 with f1_ f2_ f3_; have f4_ := f1_.symm; have f5_ := f3_.symm; clear f1_ f2_ f3_; subst f4_; subst f5_))
         refine hK.out _ _ (j8 BK851.o ⟨HS8_, HS9_, HS10_, HS11_, HS12_, HS13_, HS14_, HS15_, HS16_, HS17_, HS18_, HS19_, HS20_, HS21_, HS22_, HS23_, HS24_, HS25_, HS26_, HS27_, HS28_, HS29_, HS30_, HS31_⟩) (fun hHeld => ?_)
         clear hK K
         refine norm_ (a' := ?_) ?_ ?_
         rotate_left
         ·show Act.put _ (some 63) _ = _
          simp only [Act.put, sA, sZ, sS, i64_w, i32_w]
          rfl
         refine one_ (i := 8) (N := some 64) b19A9 rfl rfl (one_of HT_.o (by kernel_rfl)) (by decide) (fun K hK => ?_)
         refine goes_ Try.func37 (by kernel_rfl) rfl #[.slice Ao50 t852.length co50, .int .i64 t862] (by rfl) rfl rfl M0 ?_
         with_reducible refine (laws_contains.calls kj31 _ _ t852 t862 true _ ?side1 ?side2 A40.o).mono ?_
         (case side1 => exact Kd.qC (Kd.R_reads' HO_6.o).2.2)
         (case side2 => exact (Kd.R_reads' HO_6.o).2.1)
         rintro e w' ⟨rfl, ⟨nd, rfl⟩⟩
         refine ⟨_, rfl, ?_⟩
         refine hK.out _ _ (j8 BK851.o ⟨(d8 hHeld).1, (d8 hHeld).2.1, (d8 hHeld).2.2.1, (d8 hHeld).2.2.2.1, (d4 (d8 hHeld)).1, (d4 (d8 hHeld)).2.1, (d4 (d8 hHeld)).2.2.1, (d4 (d8 hHeld)).2.2.2.1, (d16 hHeld).1, (d16 hHeld).2.1, (d16 hHeld).2.2.1, (d16 hHeld).2.2.2.1, (d4 (d16 hHeld)).1, (d4 (d16 hHeld)).2.1, (d4 (d16 hHeld)).2.2.1, (d4 (d16 hHeld)).2.2.2.1, (d8 (d16 hHeld)).1, (d8 (d16 hHeld)).2.1, (d8 (d16 hHeld)).2.2.1, (d8 (d16 hHeld)).2.2.2.1, (d4 (d8 (d16 hHeld))).1, (d4 (d8 (d16 hHeld))).2.1, (d4 (d8 (d16 hHeld))).2.2.1, (d4 (d8 (d16 hHeld))).2.2.2⟩) (fun hHeld => ?_)
         clear hK K
         refine norm_ (a' := ?_) ?_ ?_
         rotate_left
         ·show Act.put _ (some 64) _ = _
          simp only [Act.put, sA, sZ, sS, i64_w, i32_w]
          rfl
         refine pI 9 (some 65) b19A10 HT_ ?_
         refine pI 10 (some 66) b19A11 HT_ ?_
         refine pI 12 (some 68) b19A12 HT_ ?_
         refine pI 13 (some 69) b19A13 HT_ ?_
         refine pI 14 (some 70) b19A14 HT_ ?_
         refine tI 11 (some 67) b19A15 HT_ HW_ hHeld rfl rfl (Or.inl ⟨by rfl, o1⟩) ?_
         refine tI 15 (some 71) b19A16 HT_ HW_ hHeld rfl rfl (Or.inl ⟨by rfl, o1⟩) ?_
         refine one_ (i := 16) (N := some 72) b19A17 rfl rfl (one_of HT_.o (by kernel_rfl)) (by decide) (fun K hK => ?_)
         refine goes_ Try.func78 (by kernel_rfl) rfl #[.agg #[.int .i64 t836, .int .i64 t837, .slice Ao8 t838.length co8, .int .i64 t841, .int .i64 t842, .slice Ao9 t843.length co9, .int .i64 t846, .int .i64 t847], .agg #[.int .i64 ((rd_T113 t848 x7_3).f0.f0), .int .i64 ((rd_T113 t848 x7_3).f0.f1), .int .i64 ((rd_T113 t848 x7_3).f0.f2), .int .i64 ((rd_T113 t848 x7_3).f0.f3), .int .i64 ((rd_T113 t848 x7_3).f0.f4), .int .i64 ((rd_T113 t848 x7_3).f1), .int .i64 ((rd_T113 t848 x7_3).f2), .int .i64 ((rd_T113 t848 x7_3).f3)]] (by rfl) rfl rfl M0 ?_
         with_reducible refine (impl_CanBe.calls kj31 t836 t837 _ _ t838 t841 t842 _ _ t843 t846 t847 ((rd_T113 t848 x7_3).f0.f0) ((rd_T113 t848 x7_3).f0.f1) ((rd_T113 t848 x7_3).f0.f2) ((rd_T113 t848 x7_3).f0.f3) ((rd_T113 t848 x7_3).f0.f4) ((rd_T113 t848 x7_3).f1) ((rd_T113 t848 x7_3).f2) ((rd_T113 t848 x7_3).f3) true _ ?side1 ?side2 ?side3 ?side4 A42.o).mono ?_
         (case side1 => exact Kd.qC (Kd.R_reads' HO_852002.o).2.2)
         (case side2 => exact (Kd.R_reads' HO_852002.o).2.1)
         (case side3 => exact Kd.qC (Kd.R_reads' HO_852005.o).2.2)
         (case side4 => exact (Kd.R_reads' HO_852005.o).2.1)
         rintro e w51 ⟨rfl, hb⟩
         have HS8_ := cB hb ((d8 hHeld).1)
         have HS9_ := cB hb ((d8 hHeld).2.1)
         have HS10_ := cB hb ((d8 hHeld).2.2.1)
         have HS11_ := cB hb ((d8 hHeld).2.2.2.1)
         have HS12_ := cB hb ((d4 (d8 hHeld)).1)
         have HS13_ := cB hb ((d4 (d8 hHeld)).2.1)
         have HS14_ := cB hb ((d4 (d8 hHeld)).2.2.1)
         have HS15_ := cB hb ((d4 (d8 hHeld)).2.2.2.1)
         have HS16_ := cB hb ((d16 hHeld).1)
         have HS17_ := cB hb ((d16 hHeld).2.1)
         have HS18_ := cB hb ((d16 hHeld).2.2.1)
         have HS19_ := cB hb ((d16 hHeld).2.2.2.1)
         have HS20_ := cB hb ((d4 (d16 hHeld)).1)
         have HS21_ := cB hb ((d4 (d16 hHeld)).2.1)
         have HS22_ := cB hb ((d4 (d16 hHeld)).2.2.1)
         have HS23_ := cB hb ((d4 (d16 hHeld)).2.2.2.1)
         have HS24_ := cB hb ((d8 (d16 hHeld)).1)
         have HS25_ := cB hb ((d8 (d16 hHeld)).2.1)
         have HS26_ := cB hb ((d8 (d16 hHeld)).2.2.1)
         have HS27_ := cB hb ((d8 (d16 hHeld)).2.2.2.1)
         have HS28_ := cB hb ((d4 (d8 (d16 hHeld))).1)
         have HS29_ := cB hb ((d4 (d8 (d16 hHeld))).2.1)
         have HS30_ := cB hb ((d4 (d8 (d16 hHeld))).2.2.1)
         have HS31_ := cB hb ((d4 (d8 (d16 hHeld))).2.2.2)
         refine ⟨_, rfl, ?_⟩
         have _ := zK (Kd.R_below (Kd.qR HO_4.o) hb)
         have _ := zK (Kd.R_below (Kd.qR HO_6.o) hb)
         have _ := zK (Kd.R_below (Kd.qR HO_852002.o) hb)
         have _ := zK (Kd.R_below (Kd.qR HO_852005.o) hb)
         have _ := zK (bB (qK BK851.o) hb)
         have _ := zK (bT M11 hb)
         clear HO_4 HO_6 HO_852002 HO_852005 BK851 HB
         rename_i HO_4 HO_6 HO_852002 HO_852005 BK851 HB
         (try clear hb)
         (try clear hb2)
         (try clear hk)
         (try clear hi)
         refine hK.out _ _ (j8 BK851.o ⟨HS8_, HS9_, HS10_, HS11_, HS12_, HS13_, HS14_, HS15_, HS16_, HS17_, HS18_, HS19_, HS20_, HS21_, HS22_, HS23_, HS24_, HS25_, HS26_, HS27_, HS28_, HS29_, HS30_, HS31_⟩) (fun hHeld => ?_)
         clear hK K
         refine norm_ (a' := ?_) ?_ ?_
         rotate_left
         ·show Act.put _ (some 72) _ = _
          simp only [Act.put, sA, sZ, sS, i64_w, i32_w]
          rfl
         refine pI 17 (some 73) b19A18 HT_ ?_
         refine pI 19 (some 75) b19A19 HT_ ?_
         refine pI 21 (some 77) b19A20 HT_ ?_
         refine pI 22 (some 78) b19A21 HT_ ?_
         refine pI 23 (some 79) b19A22 HT_ ?_
         refine pI 24 (some 80) b19A23 HT_ ?_
         refine pI 26 (some 82) b19A24 HT_ ?_
         refine tI 18 (some 74) b19A25 HT_ HW_ hHeld rfl rfl (Or.inl ⟨by rfl, o1⟩) ?_
         refine tI 25 (some 81) b19A26 HT_ HW_ hHeld rfl rfl (Or.inl ⟨by rfl, o1⟩) ?_
         refine one_ (i := 20) (N := some 76) b19A27 rfl rfl (one_of HT_.o (by kernel_rfl)) (by decide) (fun K hK => ?_)
         refine goes_ Try.func24 (by kernel_rfl) rfl #[.agg #[.int .i64 t836, .int .i64 t837, .slice Ao8 t838.length co8, .int .i64 t841, .int .i64 t842, .slice Ao9 t843.length co9, .int .i64 t846, .int .i64 t847], .int .i64 x5_1] (by rfl) rfl rfl M0 ?_
         with_reducible refine (impl_HintsFor.calls kj31 t836 t837 _ _ t838 t841 t842 _ _ t843 t846 t847 x5_1 t866 _ ?side1 ?side2 ?side3 ?side4 A44.o).mono ?_
         (case side1 => exact Kd.qC (Kd.R_reads' HO_852002.o).2.2)
         (case side2 => exact (Kd.R_reads' HO_852002.o).2.1)
         (case side3 => exact Kd.qC (Kd.R_reads' HO_852005.o).2.2)
         (case side4 => exact (Kd.R_reads' HO_852005.o).2.1)
         rintro e w52 ⟨v867, rfl, ho0, hb⟩
         have HS8_ := cB hb ((d8 hHeld).1)
         have HS9_ := cB hb ((d8 hHeld).2.1)
         have HS10_ := cB hb ((d8 hHeld).2.2.1)
         have HS11_ := cB hb ((d8 hHeld).2.2.2.1)
         have HS12_ := cB hb ((d4 (d8 hHeld)).1)
         have HS13_ := cB hb ((d4 (d8 hHeld)).2.1)
         have HS14_ := cB hb ((d4 (d8 hHeld)).2.2.1)
         have HS15_ := cB hb ((d4 (d8 hHeld)).2.2.2.1)
         have HS16_ := cB hb ((d16 hHeld).1)
         have HS17_ := cB hb ((d16 hHeld).2.1)
         have HS18_ := cB hb ((d16 hHeld).2.2.1)
         have HS19_ := cB hb ((d16 hHeld).2.2.2.1)
         have HS20_ := cB hb ((d4 (d16 hHeld)).1)
         have HS21_ := cB hb ((d4 (d16 hHeld)).2.1)
         have HS22_ := cB hb ((d4 (d16 hHeld)).2.2.1)
         have HS23_ := cB hb ((d4 (d16 hHeld)).2.2.2.1)
         have HS24_ := cB hb ((d8 (d16 hHeld)).1)
         have HS25_ := cB hb ((d8 (d16 hHeld)).2.1)
         have HS26_ := cB hb ((d8 (d16 hHeld)).2.2.1)
         have HS27_ := cB hb ((d8 (d16 hHeld)).2.2.2.1)
         have HS28_ := cB hb ((d4 (d8 (d16 hHeld))).1)
         have HS29_ := cB hb ((d4 (d8 (d16 hHeld))).2.1)
         have HS30_ := cB hb ((d4 (d8 (d16 hHeld))).2.2.1)
         have HS31_ := cB hb ((d4 (d8 (d16 hHeld))).2.2.2)
         refine ⟨_, rfl, ?_⟩
         have _ := zK (Kd.R_below (Kd.qR HO_4.o) hb)
         have _ := zK (Kd.R_elder' (Kd.qR HO_6.o) (Kd.R_base ho0) hb)
         have _ := zK (Kd.R_elder' (Kd.qR HO_852002.o) (Kd.R_base ho0) hb)
         have _ := zK (Kd.R_elder' (Kd.qR HO_852005.o) (Kd.R_base ho0) hb)
         have _ := zK (Kd.R_lower (Kd.R_new' (Kd.R_new' (Kd.R_new' ho0 (Kd.R_lt (Kd.qR HO_6.o))) (Kd.R_lt (Kd.qR HO_852002.o))) (Kd.R_lt (Kd.qR HO_852005.o))) (bZ M11))
         have _ := zK (bB (qK BK851.o) hb)
         have _ := zK (bT M11 hb)
         clear HO_4 HO_6 HO_852002 HO_852005 BK851 HB
         rename_i HO_4 HO_6 HO_852002 HO_852005 HO868 BK851 HB
         (try clear hb)
         (try clear hb2)
         (try clear hk)
         (try clear hi)
         (try clear ho0)
         refine hK.out _ _ (j8 BK851.o ⟨HS8_, HS9_, HS10_, HS11_, HS12_, HS13_, HS14_, HS15_, HS16_, HS17_, HS18_, HS19_, HS20_, HS21_, HS22_, HS23_, HS24_, HS25_, HS26_, HS27_, HS28_, HS29_, HS30_, HS31_⟩) (fun hHeld => ?_)
         clear hK K
         refine norm_ (a' := ?_) ?_ ?_
         rotate_left
         ·show Act.put _ (some 76) _ = _
          simp only [Act.put, sA, sZ, sS, i64_w, i32_w]
          rfl
         refine one_ (i := 27) (N := some 83) b19A28 rfl rfl (one_of HT_.o (by kernel_rfl)) (by decide) (fun K hK => ?_)
         refine goes_ Try.func77 (by kernel_rfl) rfl #[.agg #[.int .i64 ((rd_T113 t848 x7_3).f0.f0), .int .i64 ((rd_T113 t848 x7_3).f0.f1), .int .i64 ((rd_T113 t848 x7_3).f0.f2), .int .i64 ((rd_T113 t848 x7_3).f0.f3), .int .i64 ((rd_T113 t848 x7_3).f0.f4)], .int .i64 x5_1] (by rfl) rfl rfl M0 ?_
         with_reducible refine (impl_HintOf.calls kj31 ((rd_T113 t848 x7_3).f0.f0) ((rd_T113 t848 x7_3).f0.f1) ((rd_T113 t848 x7_3).f0.f2) ((rd_T113 t848 x7_3).f0.f3) ((rd_T113 t848 x7_3).f0.f4) x5_1 t870 _ A45.o).mono ?_
         rintro e w53 ⟨rfl, hb⟩
         have HS8_ := cB hb ((d8 hHeld).1)
         have HS9_ := cB hb ((d8 hHeld).2.1)
         have HS10_ := cB hb ((d8 hHeld).2.2.1)
         have HS11_ := cB hb ((d8 hHeld).2.2.2.1)
         have HS12_ := cB hb ((d4 (d8 hHeld)).1)
         have HS13_ := cB hb ((d4 (d8 hHeld)).2.1)
         have HS14_ := cB hb ((d4 (d8 hHeld)).2.2.1)
         have HS15_ := cB hb ((d4 (d8 hHeld)).2.2.2.1)
         have HS16_ := cB hb ((d16 hHeld).1)
         have HS17_ := cB hb ((d16 hHeld).2.1)
         have HS18_ := cB hb ((d16 hHeld).2.2.1)
         have HS19_ := cB hb ((d16 hHeld).2.2.2.1)
         have HS20_ := cB hb ((d4 (d16 hHeld)).1)
         have HS21_ := cB hb ((d4 (d16 hHeld)).2.1)
         have HS22_ := cB hb ((d4 (d16 hHeld)).2.2.1)
         have HS23_ := cB hb ((d4 (d16 hHeld)).2.2.2.1)
         have HS24_ := cB hb ((d8 (d16 hHeld)).1)
         have HS25_ := cB hb ((d8 (d16 hHeld)).2.1)
         have HS26_ := cB hb ((d8 (d16 hHeld)).2.2.1)
         have HS27_ := cB hb ((d8 (d16 hHeld)).2.2.2.1)
         have HS28_ := cB hb ((d4 (d8 (d16 hHeld))).1)
         have HS29_ := cB hb ((d4 (d8 (d16 hHeld))).2.1)
         have HS30_ := cB hb ((d4 (d8 (d16 hHeld))).2.2.1)
         have HS31_ := cB hb ((d4 (d8 (d16 hHeld))).2.2.2)
         refine ⟨_, rfl, ?_⟩
         have _ := zK (Kd.R_below (Kd.qR HO_4.o) hb)
         have _ := zK (Kd.R_below (Kd.qR HO_6.o) hb)
         have _ := zK (Kd.R_below (Kd.qR HO_852002.o) hb)
         have _ := zK (Kd.R_below (Kd.qR HO_852005.o) hb)
         have _ := zK (Kd.R_below (Kd.qR HO868.o) hb)
         have _ := zK (bB (qK BK851.o) hb)
         have _ := zK (bT M11 hb)
         clear HO_4 HO_6 HO_852002 HO_852005 HO868 BK851 HB
         rename_i HO_4 HO_6 HO_852002 HO_852005 HO868 BK851 HB
         (try clear hb)
         (try clear hb2)
         (try clear hk)
         (try clear hi)
         obtain ⟨Ao54, co54, eo54⟩ := Kd.R_slice HO868.o
         (first | subst eo54 | (injection eo54 with f1_ f2_ f3_; have f4_ := f1_.symm; have f5_ := f3_.symm; clear f1_ f2_ f3_; subst f4_; subst f5_))
         refine hK.out _ _ (j8 BK851.o ⟨HS8_, HS9_, HS10_, HS11_, HS12_, HS13_, HS14_, HS15_, HS16_, HS17_, HS18_, HS19_, HS20_, HS21_, HS22_, HS23_, HS24_, HS25_, HS26_, HS27_, HS28_, HS29_, HS30_, HS31_⟩) (fun hHeld => ?_)
         clear hK K
         refine norm_ (a' := ?_) ?_ ?_
         rotate_left
         ·show Act.put _ (some 83) _ = _
          simp only [Act.put, sA, sZ, sS, i64_w, i32_w]
          rfl
         refine one_ (i := 28) (N := some 84) b19A29 rfl rfl (one_of HT_.o (by kernel_rfl)) (by decide) (fun K hK => ?_)
         refine goes_ Try.func37 (by kernel_rfl) rfl #[.slice Ao54 t866.length co54, .int .i64 t870] (by rfl) rfl rfl M0 ?_
         with_reducible refine (laws_contains.calls kj31 _ _ t866 t870 true _ ?side1 ?side2 A46.o).mono ?_
         (case side1 => exact Kd.qC (Kd.R_reads' HO868.o).2.2)
         (case side2 => exact (Kd.R_reads' HO868.o).2.1)
         rintro e w' ⟨rfl, ⟨nd, rfl⟩⟩
         refine ⟨_, rfl, ?_⟩
         refine hK.out _ _ (j8 BK851.o ⟨(d8 hHeld).1, (d8 hHeld).2.1, (d8 hHeld).2.2.1, (d8 hHeld).2.2.2.1, (d4 (d8 hHeld)).1, (d4 (d8 hHeld)).2.1, (d4 (d8 hHeld)).2.2.1, (d4 (d8 hHeld)).2.2.2.1, (d16 hHeld).1, (d16 hHeld).2.1, (d16 hHeld).2.2.1, (d16 hHeld).2.2.2.1, (d4 (d16 hHeld)).1, (d4 (d16 hHeld)).2.1, (d4 (d16 hHeld)).2.2.1, (d4 (d16 hHeld)).2.2.2.1, (d8 (d16 hHeld)).1, (d8 (d16 hHeld)).2.1, (d8 (d16 hHeld)).2.2.1, (d8 (d16 hHeld)).2.2.2.1, (d4 (d8 (d16 hHeld))).1, (d4 (d8 (d16 hHeld))).2.1, (d4 (d8 (d16 hHeld))).2.2.1, (d4 (d8 (d16 hHeld))).2.2.2⟩) (fun hHeld => ?_)
         clear hK K
         refine norm_ (a' := ?_) ?_ ?_
         rotate_left
         ·show Act.put _ (some 84) _ = _
          simp only [Act.put, sA, sZ, sS, i64_w, i32_w]
          rfl
         refine pI 29 (some 85) b19A30 HT_ ?_
         refine pI 30 (some 86) b19A31 HT_ ?_
         refine pI 31 (some 87) b19A32 HT_ ?_
         refine done_ (done_of HT_.o (by kernel_rfl)) ?_
         try go_wp2
         go_roundg kj31
         case measure => have := HK1.o; have := HJ11.o; have := HK3.o; have := HJ31.o; omega
         case rel => exact ⟨(wrap64 (x7_3 + 1)), M12, H', ⟨by have := HK1.o; have := HJ11.o; have := HK3.o; have := HJ31.o; omega⟩, ⟨by exact Kd.qR HO_4.o⟩, ⟨by (with_reducible repeat (first | apply Kd.RA | apply Kd.RN | apply Kd.RD)); exact Kd.R_mono HO_6.o (fun _ hk => ⟨hk.1.1, hk.1.2⟩)⟩, ⟨by (with_reducible repeat (first | apply Kd.RA | apply Kd.RN | apply Kd.RD)); exact Kd.R_mono HO_852002.o (fun _ hk => ⟨hk.1.1, hk.1.2⟩)⟩, ⟨by (with_reducible repeat (first | apply Kd.RA | apply Kd.RN | apply Kd.RD)); exact Kd.R_mono HO_852005.o (fun _ hk => ⟨hk.1.1, hk.1.2⟩)⟩, ⟨by exact qK BK851.o⟩, ⟨o3⟩⟩
/-- THE ONE PURE STATEMENT of laws_FnHints: yours. -/
def laws_FnHints.Pure : Prop := ∀ (l0 : List Int), l0.length ≤ maxLen → l0.length * 1 ≤ 140737488351232 → (∀ x ∈ l0, (Lit.int .u8 x).wf = true) → ∃ k, laws_FnHints.f k l0 = some true
theorem laws_FnHints.walk (P : laws_FnHints.Pure) (a0 : Option Addr) (len0 cap0 : Nat) (z0 : List Int) (w : World) (w0 : (a0 = none ∧ len0 = 0 ∧ cap0 = 0 ∧ z0 = []) ∨ ∃ x, a0 = some x ∧ len0 ≤ cap0 ∧ cap0 ≤ maxLen ∧ z0.length = cap0 ∧ (∀ i, i < z0.length → w.cell? (x.add i) = some (.int .u8 (z0.getD i 0))) ∧ ∀ n ∈ z0, (Lit.int .u8 n).wf = true) (y0 : len0 * 1 ≤ 140737488351232) :
  Calls Try.prog 11 #[.slice a0 len0 cap0] w fun e w' => e = .returned (.bool true) ∧ Below w.heap.size w w' := by
 obtain ⟨l0, rfl, hr0, hm0, hw0, hc0⟩ := ReadsInt.ofRowC w0
 obtain ⟨k, h⟩ := P l0 hm0 y0 hw0
 refine (laws_FnHints.calls k _ _ l0 true w (Kd.C_of_reads (d := (0 : Int)) (h1 := fun _ => rfl) hr0) hc0 h).mono ?_
 rintro e w' ⟨rfl, hd⟩
 exact ⟨rfl, hd⟩

end Go.Proofs.Ytejhjenlodclpaa.PFnHints
