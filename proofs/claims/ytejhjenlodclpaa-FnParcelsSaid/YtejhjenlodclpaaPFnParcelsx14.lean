/- Walks of functions that FnParcels reaches: written by a tool of the kit for this claim, then shortened by a program of ours. -/
import Derived.Test.YtejhjenlodclpaaPFnParcelsx0
import Derived.Test.YtejhjenlodclpaaPFnParcelsx1
import Derived.Test.YtejhjenlodclpaaPFnParcelsx7
import Derived.Test.YtejhjenlodclpaaPFnParcelsx9
import Derived.Test.YtejhjenlodclpaaPFnParcelsx10
import Derived.Test.YtejhjenlodclpaaPFnParcelsx12
import Derived.Test.YtejhjenlodclpaaPFnParcelsx13
/- narrow -/
namespace Go.Proofs.Ytejhjenlodclpaa.PFnParcels
open Go.RowKit Go.Proofs.YtejhjenlodclpaaW.PrintWords Go.Proofs.YtejhjenlodclpaaW.PrintLast Go.Proofs.YtejhjenlodclpaaW.PrintMore
attribute [local go_sem] max2_int min2_int max_two min_two max_three min_three max_four min_four   -- for this text's walks alone
set_option linter.unusedVariables false
set_option linter.unusedSimpArgs false

abbrev b14A0 : Array Bool := #[bo, bo, bo, bo, bo, bo, bo, bo, bo, bo, bo, bo, bo, bo, bo, bo, bo, bo, bo, bo]
abbrev b14A1 : Array Bool := #[bi, bo, bo, bo, bo, bo, bo, bo, bo, bo, bo, bo, bo, bo, bo, bo, bo, bo, bo, bo]
abbrev b14A2 : Array Bool := #[bi, bi, bo, bo, bo, bo, bo, bo, bo, bo, bo, bo, bo, bo, bo, bo, bo, bo, bo, bo]
abbrev b14A3 : Array Bool := #[bi, bi, bo, bi, bo, bo, bo, bo, bo, bo, bo, bo, bo, bo, bo, bo, bo, bo, bo, bo]
abbrev b14A4 : Array Bool := #[bi, bi, bi, bi, bo, bo, bo, bo, bo, bo, bo, bo, bo, bo, bo, bo, bo, bo, bo, bo]
abbrev b14A5 : Array Bool := #[bi, bi, bi, bi, bi, bo, bo, bo, bo, bo, bo, bo, bo, bo, bo, bo, bo, bo, bo, bo]
abbrev b14A6 : Array Bool := #[bi, bi, bi, bi, bi, bi, bo, bo, bo, bo, bo, bo, bo, bo, bo, bo, bo, bo, bo, bo]
abbrev b14A7 : Array Bool := #[bi, bi, bi, bi, bi, bi, bi, bo, bo, bo, bo, bo, bo, bo, bo, bo, bo, bo, bo, bo]
abbrev b14A8 : Array Bool := #[bi, bi, bi, bi, bi, bi, bi, bi, bo, bo, bo, bo, bo, bo, bo, bo, bo, bo, bo, bo]
abbrev b14A9 : Array Bool := #[bi, bi, bi, bi, bi, bi, bi, bi, bi, bo, bo, bo, bo, bo, bo, bo, bo, bo, bo, bo]
abbrev b14A10 : Array Bool := #[bi, bi, bi, bi, bi, bi, bi, bi, bi, bi, bo, bo, bo, bo, bo, bo, bo, bo, bo, bo]
abbrev b14A11 : Array Bool := #[bi, bi, bi, bi, bi, bi, bi, bi, bi, bi, bi, bo, bo, bo, bo, bo, bo, bo, bo, bo]
abbrev b14A12 : Array Bool := #[bi, bi, bi, bi, bi, bi, bi, bi, bi, bi, bi, bi, bo, bo, bo, bo, bo, bo, bo, bo]
abbrev b14A13 : Array Bool := #[bi, bi, bi, bi, bi, bi, bi, bi, bi, bi, bi, bi, bi, bo, bo, bo, bo, bo, bo, bo]
abbrev b14A14 : Array Bool := #[bi, bi, bi, bi, bi, bi, bi, bi, bi, bi, bi, bi, bi, bi, bo, bo, bo, bo, bo, bo]
abbrev b14A15 : Array Bool := #[bi, bi, bi, bi, bi, bi, bi, bi, bi, bi, bi, bi, bi, bi, bi, bo, bo, bo, bo, bo]
abbrev b14A16 : Array Bool := #[bi, bi, bi, bi, bi, bi, bi, bi, bi, bi, bi, bi, bi, bi, bi, bi, bo, bo, bo, bo]
abbrev b14A17 : Array Bool := #[bi, bi, bi, bi, bi, bi, bi, bi, bi, bi, bi, bi, bi, bi, bi, bi, bi, bo, bo, bo]
abbrev b14A18 : Array Bool := #[bi, bi, bi, bi, bi, bi, bi, bi, bi, bi, bi, bi, bi, bi, bi, bi, bi, bi, bo, bo]
abbrev b14A19 : Array Bool := #[bi, bi, bi, bi, bi, bi, bi, bi, bi, bi, bi, bi, bi, bi, bi, bi, bi, bi, bi, bo]
abbrev b14A20 : Array Bool := #[bi, bi, bi, bi, bi, bi, bi, bi, bi, bi, bi, bi, bi, bi, bi, bi, bi, bi, bi, bi]
abbrev b14A21 : Array Bool := #[bi, bi, bi, bi, bi, bi, bi, bi, bi, bi, bo, bi, bo, bo, bo, bo, bo, bo, bo, bo]
abbrev b14A22 : Array Bool := #[bi, bi, bi, bi, bi, bi, bi, bi, bi, bi, bo, bi, bo, bo, bo, bi, bo, bo, bo, bo]
abbrev b14A23 : Array Bool := #[bi, bi, bi, bi, bi, bi, bi, bi, bi, bi, bi, bi, bo, bo, bo, bi, bo, bo, bo, bo]
abbrev b14A24 : Array Bool := #[bi, bi, bi, bi, bi, bi, bi, bi, bi, bi, bi, bi, bi, bo, bo, bi, bo, bo, bo, bo]
abbrev b14A25 : Array Bool := #[bi, bi, bi, bi, bi, bi, bi, bi, bi, bi, bi, bi, bi, bi, bo, bi, bo, bo, bo, bo]
abbrev b14A26 : Array Bool := #[bi, bi, bi, bi, bi, bi, bi, bi, bi, bi, bi, bi, bi, bi, bo, bi, bi, bo, bo, bo]
/-! ### laws_FnParcels: function 6 -/
mutual
def laws_FnParcels.j2 : Nat → List Int → Option (Bool)
 | 0, _ => none
 | k + 1, x0 => (spec_DrawSendAll.f k x0).bind fun bt523 => ((impl_SendAll.f k bt523.1 bt523.2).bind fun bt529 => (if bt529.2 ≥ 0 then (if bt529.2 ≤ (bt523.2.length : Int) then (if (bt529.1.length : Int) ≥ (bt523.1.length : Int) then ((impl_IsChain.f k bt529.1).bind fun t533 => ((impl_IsChain.f k bt523.1).bind fun t534 => (some (t533 == t534)))) else (some false)) else (some false)) else (some false)))
def laws_FnParcels.j0 : Nat → List Int → List (S138) → List Int → Bool → Int → Int → List Int → Int → Option (Bool)
 | 0, _, _, _, _, _, _, _, _ => none
 | k + 1, x0, x5, x8, x63, x502000, x502001, x502002, x502003 => if x63 = true then (some false) else (laws_FnParcels.l0 k x0 x5 x8 0 x502000 x502001 x502002 x502003)
def laws_FnParcels.l0 : Nat → List Int → List (S138) → List Int → Int → Int → Int → List Int → Int → Option (Bool)
 | 0, _, _, _, _, _, _, _, _ => none
 | k + 1, x0, x5, x8, x9, x502000, x502001, x502002, x502003 => if x9 < (x502002.length : Int) then (if 0 ≤ x9 then ((laws_contains.f k x8 (rd x502002 x9)).bind fun t517 => (if t517 = true then (some false) else ((impl_HousesOf.f k x5 (rd x502002 x9)).bind fun t519 => ((laws_contains.f k t519 x502000).bind fun t522 => (if t522 = true then (laws_FnParcels.l0 k x0 x5 x8 (wrap64 (x9 + 1)) x502000 x502001 x502002 x502003) else (some false)))))) else (none)) else (laws_FnParcels.j2 k x0)
end
def laws_FnParcels.f (k : Nat) (l0 : List Int) : Option (Bool) := (laws_big.f l0).bind fun t491 => (if t491 = true then (some true) else ((spec_DrawSendParcel.f k l0).bind fun bt492 => ((impl_SendParcel.f k bt492.1 bt492.2.1 bt492.2.2.1 bt492.2.2.2.1 bt492.2.2.2.2).bind fun bt502 => (if bt502.2 = true then ((impl_InHouse.f k bt502.1 bt492.2.2.1).bind fun t506 => ((impl_InHouse.f k bt502.1 bt492.2.1).bind fun t509 => ((impl_IsChain.f k bt502.1).bind fun t512 => (if t512 = true then (if (bt502.1.length : Int) = (wrap64 ((bt492.1.length : Int) + (bt492.2.2.2.1.length : Int))) then ((laws_within.f k bt492.2.2.2.1 t506).bind fun t513 => (if t513 = true then ((impl_CountIn.f k bt502.1).bind fun t514 => ((impl_CountIn.f k bt492.1).bind fun t515 => (laws_FnParcels.j0 k l0 bt502.1 t509 (t514 != t515) bt492.2.1 bt492.2.2.1 bt492.2.2.2.1 bt492.2.2.2.2))) else (laws_FnParcels.j0 k l0 bt502.1 t509 true bt492.2.1 bt492.2.2.1 bt492.2.2.2.1 bt492.2.2.2.2))) else (laws_FnParcels.j0 k l0 bt502.1 t509 true bt492.2.1 bt492.2.2.1 bt492.2.2.2.1 bt492.2.2.2.2)) else (laws_FnParcels.j0 k l0 bt502.1 t509 true bt492.2.1 bt492.2.2.1 bt492.2.2.2.1 bt492.2.2.2.2))))) else (if (bt502.1.length : Int) = (bt492.1.length : Int) then (laws_FnParcels.j2 k l0) else (some false))))))
def laws_FnParcels.T13 : Bool × List (List Nat × List Nat) := (true, [([], []), ([], []), ([1], [1]), ([], []), ([2, 3], [2, 3]), ([4], [4]), ([0, 5], [0, 5]), ([6, 6], [6]), ([7], [7]), ([7], [7]), ([9, 7], [7, 9]), ([7], [7]), ([10, 11, 7], [7, 10, 11]), ([12, 7], [7, 12]), ([8, 13, 7, 7], [7, 8, 13]), ([7], [7]), ([15, 7], [7, 15]), ([14, 16, 14, 7], [7, 14, 16]), ([17, 7], [7, 17]), ([7, 18], [7, 18])])
def laws_FnParcels.B13 : List Nat := [0, 0, 2, 0, 14, 30, 63, 127, 255, 255, 767, 255, 3839, 7935, 16383, 255, 33023, 131071, 262143, 524287]
theorem laws_FnParcels.tab13 : rtab .any (opsOf Try.f6 13) = laws_FnParcels.T13 := by kernel_rfl
theorem laws_FnParcels.bits13 : waitsOk laws_FnParcels.T13.2 laws_FnParcels.B13 = true := by kernel_rfl
set_option maxHeartbeats 8000000 in
set_option maxRecDepth 100000 in
theorem laws_FnParcels.calls (k : Nat) (A0 : Option Addr) (c0 : Nat) (l0 : List Int) (r : Bool) (w : World) (hr0 : Kd.C (Kd.int .u8) w A0 l0.length l0) (hc0 : l0.length ≤ c0) (h : laws_FnParcels.f k l0 = some r) :
  Calls Try.prog 6 #[.slice A0 l0.length c0] w fun e w' => e = .returned (.bool r) ∧ Below w.heap.size w w' := by
 have hu53 := Try.underlying53
 have HR0 := zK hr0
 have HC0 := zK hc0
 clear hr0 hc0
 have HB := zK (Below.refl w.heap.size w)
 have H : ((laws_big.f l0).bind fun t491 => (if t491 = true then (some true) else ((spec_DrawSendParcel.f k l0).bind fun bt492 => ((impl_SendParcel.f k bt492.1 bt492.2.1 bt492.2.2.1 bt492.2.2.2.1 bt492.2.2.2.2).bind fun bt502 => (if bt502.2 = true then ((impl_InHouse.f k bt502.1 bt492.2.2.1).bind fun t506 => ((impl_InHouse.f k bt502.1 bt492.2.1).bind fun t509 => ((impl_IsChain.f k bt502.1).bind fun t512 => (if t512 = true then (if (bt502.1.length : Int) = (wrap64 ((bt492.1.length : Int) + (bt492.2.2.2.1.length : Int))) then ((laws_within.f k bt492.2.2.2.1 t506).bind fun t513 => (if t513 = true then ((impl_CountIn.f k bt502.1).bind fun t514 => ((impl_CountIn.f k bt492.1).bind fun t515 => (laws_FnParcels.j0 k l0 bt502.1 t509 (t514 != t515) bt492.2.1 bt492.2.2.1 bt492.2.2.2.1 bt492.2.2.2.2))) else (laws_FnParcels.j0 k l0 bt502.1 t509 true bt492.2.1 bt492.2.2.1 bt492.2.2.2.1 bt492.2.2.2.2))) else (laws_FnParcels.j0 k l0 bt502.1 t509 true bt492.2.1 bt492.2.2.1 bt492.2.2.2.1 bt492.2.2.2.2)) else (laws_FnParcels.j0 k l0 bt502.1 t509 true bt492.2.1 bt492.2.2.1 bt492.2.2.2.1 bt492.2.2.2.2))))) else (if (bt502.1.length : Int) = (bt492.1.length : Int) then (laws_FnParcels.j2 k l0) else (some false))))))) = some r := h
 clear h
 replace H := Option.bind_eq_some_iff.mp H
 obtain ⟨t491, A20, H⟩ := H
 replace H : (if t491 = true then (some true) else ((spec_DrawSendParcel.f k l0).bind fun bt492 => ((impl_SendParcel.f k bt492.1 bt492.2.1 bt492.2.2.1 bt492.2.2.2.1 bt492.2.2.2.2).bind fun bt502 => (if bt502.2 = true then ((impl_InHouse.f k bt502.1 bt492.2.2.1).bind fun t506 => ((impl_InHouse.f k bt502.1 bt492.2.1).bind fun t509 => ((impl_IsChain.f k bt502.1).bind fun t512 => (if t512 = true then (if (bt502.1.length : Int) = (wrap64 ((bt492.1.length : Int) + (bt492.2.2.2.1.length : Int))) then ((laws_within.f k bt492.2.2.2.1 t506).bind fun t513 => (if t513 = true then ((impl_CountIn.f k bt502.1).bind fun t514 => ((impl_CountIn.f k bt492.1).bind fun t515 => (laws_FnParcels.j0 k l0 bt502.1 t509 (t514 != t515) bt492.2.1 bt492.2.2.1 bt492.2.2.2.1 bt492.2.2.2.2))) else (laws_FnParcels.j0 k l0 bt502.1 t509 true bt492.2.1 bt492.2.2.1 bt492.2.2.2.1 bt492.2.2.2.2))) else (laws_FnParcels.j0 k l0 bt502.1 t509 true bt492.2.1 bt492.2.2.1 bt492.2.2.2.1 bt492.2.2.2.2)) else (laws_FnParcels.j0 k l0 bt502.1 t509 true bt492.2.1 bt492.2.2.1 bt492.2.2.2.1 bt492.2.2.2.2))))) else (if (bt502.1.length : Int) = (bt492.1.length : Int) then (laws_FnParcels.j2 k l0) else (some false)))))) = some r := H
 have A2 := zK A20
 clear A20
 by_cases c3 : t491 = true
 ·subst c3
  have H1 : (some true) = some r := by rw [if_pos rfl] at H; exact H
  clear H
  have H := H1
  clear H1
  obtain rfl := Option.some.inj H
  go_enter Try.func6, Try.ntmps6
  go_wp2_with (first | ((with_reducible refine gate_callee (f := 30) rfl ?_); refine goesL_ (some 15) rfl rfl Try.func30 (by kernel_rfl) rfl #[.slice A0 l0.length c0] rfl (by (try simp only [List.map_toArray, List.map_cons, List.map_nil]); first | done | rfl | (simp only [List.length_drop, List.length_take]; rfl)) ?_; (with_reducible refine (laws_big.calls _ _ l0 true _ ?side1 ?side2 A2.out).mono ?_); (case side1 => repeat (first | exact HR0.out | (with_reducible refine Kd.CA ?_ _) | (with_reducible refine Kd.CN ?_ _) | (with_reducible refine Kd.CD ?_))); (case side2 => exact HC0.out); rintro e w' ⟨rfl, ⟨nd, rfl⟩⟩; refine ⟨_, rfl, ?_⟩))
  go_ret
  exact ⟨by first | rfl | (simp [errW_none, errW_some] <;> rfl) | (simp [*, errW_none, errW_some] <;> rfl), by repeat (first | (with_reducible first | exact HB.out | apply bA | apply bN | apply b1) | exact HB.out)⟩
 replace c3 := Bool.eq_false_iff.mpr c3
 subst c3
 have H1 : ((spec_DrawSendParcel.f k l0).bind fun bt492 => ((impl_SendParcel.f k bt492.1 bt492.2.1 bt492.2.2.1 bt492.2.2.2.1 bt492.2.2.2.2).bind fun bt502 => (if bt502.2 = true then ((impl_InHouse.f k bt502.1 bt492.2.2.1).bind fun t506 => ((impl_InHouse.f k bt502.1 bt492.2.1).bind fun t509 => ((impl_IsChain.f k bt502.1).bind fun t512 => (if t512 = true then (if (bt502.1.length : Int) = (wrap64 ((bt492.1.length : Int) + (bt492.2.2.2.1.length : Int))) then ((laws_within.f k bt492.2.2.2.1 t506).bind fun t513 => (if t513 = true then ((impl_CountIn.f k bt502.1).bind fun t514 => ((impl_CountIn.f k bt492.1).bind fun t515 => (laws_FnParcels.j0 k l0 bt502.1 t509 (t514 != t515) bt492.2.1 bt492.2.2.1 bt492.2.2.2.1 bt492.2.2.2.2))) else (laws_FnParcels.j0 k l0 bt502.1 t509 true bt492.2.1 bt492.2.2.1 bt492.2.2.2.1 bt492.2.2.2.2))) else (laws_FnParcels.j0 k l0 bt502.1 t509 true bt492.2.1 bt492.2.2.1 bt492.2.2.2.1 bt492.2.2.2.2)) else (laws_FnParcels.j0 k l0 bt502.1 t509 true bt492.2.1 bt492.2.2.1 bt492.2.2.2.1 bt492.2.2.2.2))))) else (if (bt502.1.length : Int) = (bt492.1.length : Int) then (laws_FnParcels.j2 k l0) else (some false))))) = some r := by rw [if_neg (show ¬ (false = true) by decide)] at H; exact H
 clear H
 have H := H1
 clear H1
 replace H := Option.bind_eq_some_iff.mp H
 obtain ⟨⟨t492, t495, t496, t497, t500⟩, A40, H⟩ := H
 replace H : ((impl_SendParcel.f k t492 t495 t496 t497 t500).bind fun bt502 => (if bt502.2 = true then ((impl_InHouse.f k bt502.1 t496).bind fun t506 => ((impl_InHouse.f k bt502.1 t495).bind fun t509 => ((impl_IsChain.f k bt502.1).bind fun t512 => (if t512 = true then (if (bt502.1.length : Int) = (wrap64 ((t492.length : Int) + (t497.length : Int))) then ((laws_within.f k t497 t506).bind fun t513 => (if t513 = true then ((impl_CountIn.f k bt502.1).bind fun t514 => ((impl_CountIn.f k t492).bind fun t515 => (laws_FnParcels.j0 k l0 bt502.1 t509 (t514 != t515) t495 t496 t497 t500))) else (laws_FnParcels.j0 k l0 bt502.1 t509 true t495 t496 t497 t500))) else (laws_FnParcels.j0 k l0 bt502.1 t509 true t495 t496 t497 t500)) else (laws_FnParcels.j0 k l0 bt502.1 t509 true t495 t496 t497 t500))))) else (if (bt502.1.length : Int) = (t492.length : Int) then (laws_FnParcels.j2 k l0) else (some false)))) = some r := H
 have A4 := zK A40
 clear A40
 replace H := Option.bind_eq_some_iff.mp H
 obtain ⟨⟨t502, t505⟩, A50, H⟩ := H
 replace H : (if t505 = true then ((impl_InHouse.f k t502 t496).bind fun t506 => ((impl_InHouse.f k t502 t495).bind fun t509 => ((impl_IsChain.f k t502).bind fun t512 => (if t512 = true then (if (t502.length : Int) = (wrap64 ((t492.length : Int) + (t497.length : Int))) then ((laws_within.f k t497 t506).bind fun t513 => (if t513 = true then ((impl_CountIn.f k t502).bind fun t514 => ((impl_CountIn.f k t492).bind fun t515 => (laws_FnParcels.j0 k l0 t502 t509 (t514 != t515) t495 t496 t497 t500))) else (laws_FnParcels.j0 k l0 t502 t509 true t495 t496 t497 t500))) else (laws_FnParcels.j0 k l0 t502 t509 true t495 t496 t497 t500)) else (laws_FnParcels.j0 k l0 t502 t509 true t495 t496 t497 t500))))) else (if (t502.length : Int) = (t492.length : Int) then (laws_FnParcels.j2 k l0) else (some false))) = some r := H
 have A5 := zK A50
 clear A50
 have HC6 := zK H
 clear H
 go_enter Try.func6, Try.ntmps6
 go_upto_if 27 with (first | ((with_reducible refine gate_callee (f := 30) rfl ?_); refine goesL_ (some 15) rfl rfl Try.func30 (by kernel_rfl) rfl #[.slice A0 l0.length c0] rfl (by (try simp only [List.map_toArray, List.map_cons, List.map_nil]); first | done | rfl | (simp only [List.length_drop, List.length_take]; rfl)) ?_; (with_reducible refine (laws_big.calls _ _ l0 false _ ?side1 ?side2 A2.out).mono ?_); (case side1 => repeat (first | exact HR0.out | (with_reducible refine Kd.CA ?_ _) | (with_reducible refine Kd.CN ?_ _) | (with_reducible refine Kd.CD ?_))); (case side2 => exact HC0.out); rintro e w' ⟨rfl, ⟨nd, rfl⟩⟩; refine ⟨_, rfl, ?_⟩) | ((with_reducible refine gate_callee (f := 31) rfl ?_); refine goesL_ (some 18) rfl rfl Try.func31 (by kernel_rfl) rfl #[.slice A0 l0.length c0] rfl (by (try simp only [List.map_toArray, List.map_cons, List.map_nil]); first | done | rfl | (simp only [List.length_drop, List.length_take]; rfl)) ?_; (with_reducible refine (spec_DrawSendParcel.calls k _ _ l0 t492 t495 t496 t497 t500 _ ?side1 ?side2 A4.out).mono ?_); (case side1 => repeat (first | exact HR0.out | (with_reducible refine Kd.CA ?_ _) | (with_reducible refine Kd.CN ?_ _) | (with_reducible refine Kd.CD ?_))); (case side2 => exact HC0.out); rintro e w7 ⟨v493, v498, rfl, ho0, ho1, hb⟩; refine ⟨_, rfl, ?_⟩; have n0_ := zK (Kd.R_lower ho0 (bZ (by repeat (first | (with_reducible first | exact HB.out | apply bA | apply bN | apply b1) | exact HB.out)))); have n1_ := zK (Kd.R_lower ho1 (bZ (by repeat (first | (with_reducible first | exact HB.out | apply bA | apply bN | apply b1) | exact HB.out)))); have n2_ := zK (bT (by repeat (first | (with_reducible first | exact HB.out | apply bA | apply bN | apply b1) | exact HB.out)) hb); clear HB; have HO494 := n0_; have HO499 := n1_; have HB := n2_; clear n0_ n1_ n2_; (try clear hb); (try clear hb2); (try clear hk); (try clear hi); (try clear ho0); (try clear ho1)) | ((with_reducible refine gate_dst (N := 4) rfl ?_); (try (refine gate_guard (by rfl) ?_; dsimp only)); refine box_event ?hg (N := 4) ?hd (cs := #[.int .i64 0, .int .i64 0, .slice none 0 0, .int .i64 0]) (t := 53) ?hr ?_; (case hd => rfl); (case hg => rfl); (case hr => first | (go_simp; done) | (go_simp; rfl)); intro gb501 hg w8 hbox hb; have n0_ := zK (Kd.R_below (by (with_reducible repeat (first | apply Kd.RA | apply Kd.RN | apply Kd.RD)); exact HO494.out) hb); have n1_ := zK (Kd.R_below (by (with_reducible repeat (first | apply Kd.RA | apply Kd.RN | apply Kd.RD)); exact HO499.out) hb); have n2_ := zK (bT (by repeat (first | (with_reducible first | exact HB.out | apply bA | apply bN | apply b1) | exact HB.out)) hb); have n3_ := zK (hbox); have n4_ := zK ((by rw [hg]; exact (bZ (by repeat (first | (with_reducible first | exact HB.out | apply bA | apply bN | apply b1) | exact HB.out))) : w.heap.size ≤ gb501)); have n5_ := zK ((by rw [hg]; exact (bZ (by repeat (first | (with_reducible first | exact HB.out | apply bA | apply bN | apply b1) | exact HB.out))) : w.heap.size ≤ gb501)); clear HO494; clear HO499; clear HB; have HO494 := n0_; have HO499 := n1_; have HB := n2_; have BK501 := n3_; have GW501 := n4_; have GE501 := n5_; clear n0_ n1_ n2_ n3_ n4_ n5_; clear hb hbox hg; have hcz9_0 : w8.cell? ⟨gb501, 0, none⟩ = some (.int .i64 0) := (bc BK501.out 0).trans rfl; have hcz9_1 : w8.cell? ⟨gb501, 1, none⟩ = some (.int .i64 0) := (bc BK501.out 1).trans rfl; have hcz9_2 : w8.cell? ⟨gb501, 2, none⟩ = some (.slice none 0 0) := (bc BK501.out 2).trans rfl; have hcz9_3 : w8.cell? ⟨gb501, 3, none⟩ = some (.int .i64 0) := (bc BK501.out 3).trans rfl; have hfz9_0 := bf BK501.out 0; have hfz9_1 := bf BK501.out 1; have hfz9_2 := bf BK501.out 2; have hfz9_3 := bf BK501.out 3; obtain ⟨Ao10, co10, eo10⟩ := Kd.R_slice HO499.out; subst eo10; obtain ⟨Ao11, co11, eo11⟩ := Kd.R_slice HO494.out; subst eo11) | ((with_reducible refine gate_callee (f := 32) rfl ?_); refine goesL_ (some 24) rfl rfl Try.func32 (by kernel_rfl) rfl #[.slice Ao11 t492.length co11, .agg #[.int .i64 t495, .int .i64 t496, .slice Ao10 t497.length co10, .int .i64 t500]] rfl (by (try simp only [List.map_toArray, List.map_cons, List.map_nil]); first | done | rfl | (simp only [List.length_drop, List.length_take]; rfl)) ?_; (with_reducible refine (impl_SendParcel.calls k _ _ t492 t495 t496 _ _ t497 t500 t502 t505 _ ?side1 ?side2 ?side3 ?side4 A5.out).mono ?_); (case side1 => refine (Kd.R_reads' (e := 138) (base := w.heap.size) (ok := fun k_ => True) (n := t492.length) (c := co11) ?_).2.2; exact (by (with_reducible repeat (first | apply Kd.RA | apply Kd.RN | apply Kd.RD)); exact (Kd.R_mono (Kd.R_far (p := ⟨gb501, 3, none⟩) (Kd.R_far (p := ⟨gb501, 2, none⟩) (Kd.R_far (p := ⟨gb501, 1, none⟩) (Kd.R_far (p := ⟨gb501, 0, none⟩) (Kd.R_types HO494.out BK501.out (by decide)) (fun _ hk => hk.2) (.int .i64 t495)) (fun _ hk => hk.2) (.int .i64 t496)) (fun _ hk => hk.2) (.slice Ao10 t497.length co10)) (fun _ hk => hk.2) (.int .i64 t500)) (fun _ h_ => h_.1)))); (case side2 => exact (Kd.R_reads' HO494.out).2.1); (case side3 => refine (Kd.R_reads' (e := 3) (base := w.heap.size) (ok := fun k_ => True) (n := t497.length) (c := co10) ?_).2.2; exact (by (with_reducible repeat (first | apply Kd.RA | apply Kd.RN | apply Kd.RD)); exact (Kd.R_mono (Kd.R_far (p := ⟨gb501, 3, none⟩) (Kd.R_far (p := ⟨gb501, 2, none⟩) (Kd.R_far (p := ⟨gb501, 1, none⟩) (Kd.R_far (p := ⟨gb501, 0, none⟩) (Kd.R_types HO499.out BK501.out (by decide)) (fun _ hk => hk.2) (.int .i64 t495)) (fun _ hk => hk.2) (.int .i64 t496)) (fun _ hk => hk.2) (.slice Ao10 t497.length co10)) (fun _ hk => hk.2) (.int .i64 t500)) (fun _ h_ => h_.1)))); (case side4 => exact (Kd.R_reads' HO499.out).2.1); rintro e w12 ⟨v503, rfl, ho0, hb⟩; refine ⟨_, rfl, ?_⟩; have n0_ := zK (Kd.R_elder' (by (with_reducible repeat (first | apply Kd.RA | apply Kd.RN | apply Kd.RD)); exact (Kd.R_mono (Kd.R_far (p := ⟨gb501, 3, none⟩) (Kd.R_far (p := ⟨gb501, 2, none⟩) (Kd.R_far (p := ⟨gb501, 1, none⟩) (Kd.R_far (p := ⟨gb501, 0, none⟩) (Kd.R_types HO494.out BK501.out (by decide)) (fun _ hk => hk.2) (.int .i64 t495)) (fun _ hk => hk.2) (.int .i64 t496)) (fun _ hk => hk.2) (.slice Ao10 t497.length co10)) (fun _ hk => hk.2) (.int .i64 t500)) (fun _ h_ => h_.1))) (Kd.R_base ho0) hb); have n1_ := zK (Kd.R_below (by (with_reducible repeat (first | apply Kd.RA | apply Kd.RN | apply Kd.RD)); exact (Kd.R_mono (Kd.R_far (p := ⟨gb501, 3, none⟩) (Kd.R_far (p := ⟨gb501, 2, none⟩) (Kd.R_far (p := ⟨gb501, 1, none⟩) (Kd.R_far (p := ⟨gb501, 0, none⟩) (Kd.R_types HO499.out BK501.out (by decide)) (fun _ hk => hk.2) (.int .i64 t495)) (fun _ hk => hk.2) (.int .i64 t496)) (fun _ hk => hk.2) (.slice Ao10 t497.length co10)) (fun _ hk => hk.2) (.int .i64 t500)) (fun _ h_ => h_.1))) hb); have n2_ := zK (Kd.R_lower (Kd.R_new' ho0 (Kd.R_lt (by (with_reducible repeat (first | apply Kd.RA | apply Kd.RN | apply Kd.RD)); exact (Kd.R_mono (Kd.R_far (p := ⟨gb501, 3, none⟩) (Kd.R_far (p := ⟨gb501, 2, none⟩) (Kd.R_far (p := ⟨gb501, 1, none⟩) (Kd.R_far (p := ⟨gb501, 0, none⟩) (Kd.R_types HO494.out BK501.out (by decide)) (fun _ hk => hk.2) (.int .i64 t495)) (fun _ hk => hk.2) (.int .i64 t496)) (fun _ hk => hk.2) (.slice Ao10 t497.length co10)) (fun _ hk => hk.2) (.int .i64 t500)) (fun _ h_ => h_.1))))) (bZ (by repeat (first | (with_reducible first | exact HB.out | apply bA | apply bN | apply b1 | refine bS ?_ GE501.out) | exact HB.out)))); have n3_ := zK (bB (g := gb501) (o := .cells #[.int .i64 t495, .int .i64 t496, .slice Ao10 t497.length co10, .int .i64 t500] 53 (0, 0)) (by (with_reducible repeat (first | refine kN ?_ _ | refine kD ?_ | refine kA ?_ _)); refine blk_put (cs := #[.int .i64 t495, .int .i64 t496, .slice Ao10 t497.length co10, .int .i64 0]) ?_ 3 _ rfl; (with_reducible repeat (first | refine kN ?_ _ | refine kD ?_ | refine kA ?_ _)); refine blk_put (cs := #[.int .i64 t495, .int .i64 t496, .slice none 0 0, .int .i64 0]) ?_ 2 _ rfl; (with_reducible repeat (first | refine kN ?_ _ | refine kD ?_ | refine kA ?_ _)); refine blk_put (cs := #[.int .i64 t495, .int .i64 0, .slice none 0 0, .int .i64 0]) ?_ 1 _ rfl; (with_reducible repeat (first | refine kN ?_ _ | refine kD ?_ | refine kA ?_ _)); refine blk_put (cs := #[.int .i64 0, .int .i64 0, .slice none 0 0, .int .i64 0]) ?_ 0 _ rfl; (with_reducible repeat (first | refine kN ?_ _ | refine kD ?_ | refine kA ?_ _)); exact BK501.out) hb); have n4_ := zK (bT (by repeat (first | (with_reducible first | exact HB.out | apply bA | apply bN | apply b1 | refine bS ?_ GE501.out) | exact HB.out)) hb); clear HO494; clear HO499; clear BK501; clear HB; have HO494 := n0_; have HO499 := n1_; have HO504 := n2_; have BK501 := n3_; have HB := n4_; clear n0_ n1_ n2_ n3_ n4_; (try clear hb); (try clear hb2); (try clear hk); (try clear hi); (try clear ho0)))
 (try simp only [Act.put, sA, sZ, sS])
 go_cut [] (fun wc => ∃ (kq : Nat), Aside0 (laws_FnParcels.j2 kq l0 = some r) ∧ Aside0 (kq ≤ k) ∧ Aside0 (Kd.R (Kd.int .i64) 3 wc w.heap.size (fun _ => True) (.slice Ao10 t497.length co10) t497) ∧ Aside0 (wc.heap[gb501]? = some (.cells #[.int .i64 t495, .int .i64 t496, (.slice Ao10 t497.length co10), .int .i64 t500] 53 (0, 0))) ∧ Aside0 (Below w.heap.size w wc))
 case first =>
  have H := HC6.out
  clear HC6
  by_cases c13 : t505 = true
  rotate_left
  ·replace c13 := Bool.eq_false_iff.mpr c13
   subst c13
   have H1 : (if (t502.length : Int) = (t492.length : Int) then (laws_FnParcels.j2 k l0) else (some false)) = some r := by rw [if_neg (show ¬ (false = true) by decide)] at H; exact H
   clear H
   have H := H1
   clear H1
   by_cases c62 : (t502.length : Int) = (t492.length : Int)
   rotate_left
   ·rw [if_neg c62] at H
    have c62b0 : ((t502.length : Int) == (t492.length : Int)) = false := beq_eq_false_iff_ne.mpr c62
    have c62b1 : ((t502.length : Int) != (t492.length : Int)) = true := bne_iff_ne.mpr c62
    have c62b2 : (t502.length == t492.length) = false := by first | simpa using c62 | (simp at c62 ⊢; omega)
    obtain rfl := Option.some.inj H
    obtain ⟨Ao64, co64, eo64⟩ := Kd.R_slice HO504.out
    subst eo64
    go_wp2
    go_ret
    exact ⟨by first | rfl | (simp [errW_none, errW_some] <;> rfl) | (simp [*, errW_none, errW_some] <;> rfl), by repeat (first | (with_reducible first | exact HB.out | apply bA | apply bN | apply b1 | refine bS ?_ GE501.out) | exact HB.out)⟩
   rw [if_pos c62] at H
   have c62b0 : ((t502.length : Int) == (t492.length : Int)) = true := beq_iff_eq.mpr c62
   have c62b1 : ((t502.length : Int) != (t492.length : Int)) = false := bne_eq_false_iff_eq.mpr c62
   have c62b2 : (t502.length == t492.length) = true := by first | simpa using c62 | (simp at c62 ⊢; omega)
   clear c62
   have H' := zK H
   clear H
   obtain ⟨Ao63, co63, eo63⟩ := Kd.R_slice HO504.out
   subst eo63
   go_wp2
   go_meet
   case rel => exact ⟨_, H', ⟨by first | omega | exact Nat.le_refl _⟩, ⟨by (with_reducible repeat (first | apply Kd.RA | apply Kd.RN | apply Kd.RD)); exact HO499.out⟩, ⟨by (with_reducible repeat (first | refine kN ?_ _ | refine kD ?_ | refine kA ?_ _)); exact BK501.out⟩, ⟨by repeat (first | (with_reducible first | exact HB.out | apply bA | apply bN | apply b1 | refine bS ?_ GE501.out) | exact HB.out)⟩⟩
  subst c13
  have H1 : ((impl_InHouse.f k t502 t496).bind fun t506 => ((impl_InHouse.f k t502 t495).bind fun t509 => ((impl_IsChain.f k t502).bind fun t512 => (if t512 = true then (if (t502.length : Int) = (wrap64 ((t492.length : Int) + (t497.length : Int))) then ((laws_within.f k t497 t506).bind fun t513 => (if t513 = true then ((impl_CountIn.f k t502).bind fun t514 => ((impl_CountIn.f k t492).bind fun t515 => (laws_FnParcels.j0 k l0 t502 t509 (t514 != t515) t495 t496 t497 t500))) else (laws_FnParcels.j0 k l0 t502 t509 true t495 t496 t497 t500))) else (laws_FnParcels.j0 k l0 t502 t509 true t495 t496 t497 t500)) else (laws_FnParcels.j0 k l0 t502 t509 true t495 t496 t497 t500))))) = some r := by rw [if_pos rfl] at H; exact H
  clear H
  have H := H1
  clear H1
  replace H := Option.bind_eq_some_iff.mp H
  obtain ⟨t506, A140, H⟩ := H
  replace H : ((impl_InHouse.f k t502 t495).bind fun t509 => ((impl_IsChain.f k t502).bind fun t512 => (if t512 = true then (if (t502.length : Int) = (wrap64 ((t492.length : Int) + (t497.length : Int))) then ((laws_within.f k t497 t506).bind fun t513 => (if t513 = true then ((impl_CountIn.f k t502).bind fun t514 => ((impl_CountIn.f k t492).bind fun t515 => (laws_FnParcels.j0 k l0 t502 t509 (t514 != t515) t495 t496 t497 t500))) else (laws_FnParcels.j0 k l0 t502 t509 true t495 t496 t497 t500))) else (laws_FnParcels.j0 k l0 t502 t509 true t495 t496 t497 t500)) else (laws_FnParcels.j0 k l0 t502 t509 true t495 t496 t497 t500)))) = some r := H
  have A14 := zK A140
  clear A140
  replace H := Option.bind_eq_some_iff.mp H
  obtain ⟨t509, A150, H⟩ := H
  replace H : ((impl_IsChain.f k t502).bind fun t512 => (if t512 = true then (if (t502.length : Int) = (wrap64 ((t492.length : Int) + (t497.length : Int))) then ((laws_within.f k t497 t506).bind fun t513 => (if t513 = true then ((impl_CountIn.f k t502).bind fun t514 => ((impl_CountIn.f k t492).bind fun t515 => (laws_FnParcels.j0 k l0 t502 t509 (t514 != t515) t495 t496 t497 t500))) else (laws_FnParcels.j0 k l0 t502 t509 true t495 t496 t497 t500))) else (laws_FnParcels.j0 k l0 t502 t509 true t495 t496 t497 t500)) else (laws_FnParcels.j0 k l0 t502 t509 true t495 t496 t497 t500))) = some r := H
  have A15 := zK A150
  clear A150
  have HC16 := zK H
  clear H
  have hcz17_0 : w12.cell? ⟨gb501, 0, none⟩ = some (.int .i64 t495) := (bc BK501.out 0).trans rfl
  have hcz17_1 : w12.cell? ⟨gb501, 1, none⟩ = some (.int .i64 t496) := (bc BK501.out 1).trans rfl
  have hcz17_2 : w12.cell? ⟨gb501, 2, none⟩ = some (.slice Ao10 t497.length co10) := (bc BK501.out 2).trans rfl
  have hcz17_3 : w12.cell? ⟨gb501, 3, none⟩ = some (.int .i64 t500) := (bc BK501.out 3).trans rfl
  have hfz17_0 := bf BK501.out 0
  have hfz17_1 := bf BK501.out 1
  have hfz17_2 := bf BK501.out 2
  have hfz17_3 := bf BK501.out 3
  obtain ⟨Ao18, co18, eo18⟩ := Kd.R_slice HO504.out
  subst eo18
  go_upto_region 8 with (first | ((with_reducible refine gate_callee (f := 33) rfl ?_); refine goesL_ (some 31) rfl rfl Try.func33 (by kernel_rfl) rfl #[.slice Ao18 t502.length co18, .int .i64 t496] rfl (by (try simp only [List.map_toArray, List.map_cons, List.map_nil]); first | done | rfl | (simp only [List.length_drop, List.length_take]; rfl)) ?_; (with_reducible refine (impl_InHouse.calls k _ _ t502 t496 t506 _ ?side1 ?side2 A14.out).mono ?_); (case side1 => repeat (first | exact (Kd.R_reads' HO504.out).2.2 | (with_reducible refine Kd.CA ?_ _) | (with_reducible refine Kd.CN ?_ _) | (with_reducible refine Kd.CD ?_))); (case side2 => exact (Kd.R_reads' HO504.out).2.1); rintro e w19 ⟨v507, rfl, ho0, hb⟩; refine ⟨_, rfl, ?_⟩; have n0_ := zK (Kd.R_below (by (with_reducible repeat (first | apply Kd.RA | apply Kd.RN | apply Kd.RD)); exact HO494.out) hb); have n1_ := zK (Kd.R_elder' (by (with_reducible repeat (first | apply Kd.RA | apply Kd.RN | apply Kd.RD)); exact HO499.out) (Kd.R_base ho0) hb); have n2_ := zK (Kd.R_below (by (with_reducible repeat (first | apply Kd.RA | apply Kd.RN | apply Kd.RD)); exact HO504.out) hb); have n3_ := zK (Kd.R_lower (Kd.R_new' ho0 (Kd.R_lt (by (with_reducible repeat (first | apply Kd.RA | apply Kd.RN | apply Kd.RD)); exact HO499.out))) (bZ (by repeat (first | (with_reducible first | exact HB.out | apply bA | apply bN | apply b1 | refine bS ?_ GE501.out) | exact HB.out)))); have n4_ := zK (bB (g := gb501) (o := .cells #[.int .i64 t495, .int .i64 t496, .slice Ao10 t497.length co10, .int .i64 t500] 53 (0, 0)) (by (with_reducible repeat (first | refine kN ?_ _ | refine kD ?_ | refine kA ?_ _)); exact BK501.out) hb); have n5_ := zK (bT (by repeat (first | (with_reducible first | exact HB.out | apply bA | apply bN | apply b1 | refine bS ?_ GE501.out) | exact HB.out)) hb); clear HO494; clear HO499; clear HO504; clear BK501; clear HB; have HO494 := n0_; have HO499 := n1_; have HO504 := n2_; have HO508 := n3_; have BK501 := n4_; have HB := n5_; clear n0_ n1_ n2_ n3_ n4_ n5_; (try clear hb); (try clear hb2); (try clear hk); (try clear hi); (try clear ho0); have hcz20_0 : w19.cell? ⟨gb501, 0, none⟩ = some (.int .i64 t495) := (bc BK501.out 0).trans rfl; have hcz20_1 : w19.cell? ⟨gb501, 1, none⟩ = some (.int .i64 t496) := (bc BK501.out 1).trans rfl; have hcz20_2 : w19.cell? ⟨gb501, 2, none⟩ = some (.slice Ao10 t497.length co10) := (bc BK501.out 2).trans rfl; have hcz20_3 : w19.cell? ⟨gb501, 3, none⟩ = some (.int .i64 t500) := (bc BK501.out 3).trans rfl; have hfz20_0 := bf BK501.out 0; have hfz20_1 := bf BK501.out 1; have hfz20_2 := bf BK501.out 2; have hfz20_3 := bf BK501.out 3) | ((with_reducible refine gate_callee (f := 33) rfl ?_); refine goesL_ (some 35) rfl rfl Try.func33 (by kernel_rfl) rfl #[.slice Ao18 t502.length co18, .int .i64 t495] rfl (by (try simp only [List.map_toArray, List.map_cons, List.map_nil]); first | done | rfl | (simp only [List.length_drop, List.length_take]; rfl)) ?_; (with_reducible refine (impl_InHouse.calls k _ _ t502 t495 t509 _ ?side1 ?side2 A15.out).mono ?_); (case side1 => repeat (first | exact (Kd.R_reads' HO504.out).2.2 | (with_reducible refine Kd.CA ?_ _) | (with_reducible refine Kd.CN ?_ _) | (with_reducible refine Kd.CD ?_))); (case side2 => exact (Kd.R_reads' HO504.out).2.1); rintro e w21 ⟨v510, rfl, ho0, hb⟩; refine ⟨_, rfl, ?_⟩; have n0_ := zK (Kd.R_below (by (with_reducible repeat (first | apply Kd.RA | apply Kd.RN | apply Kd.RD)); exact HO494.out) hb); have n1_ := zK (Kd.R_elder' (by (with_reducible repeat (first | apply Kd.RA | apply Kd.RN | apply Kd.RD)); exact HO499.out) (Kd.R_base ho0) hb); have n2_ := zK (Kd.R_below (by (with_reducible repeat (first | apply Kd.RA | apply Kd.RN | apply Kd.RD)); exact HO504.out) hb); have n3_ := zK (Kd.R_elder' (by (with_reducible repeat (first | apply Kd.RA | apply Kd.RN | apply Kd.RD)); exact HO508.out) (Kd.R_base ho0) hb); have n4_ := zK (Kd.R_lower (Kd.R_new' (Kd.R_new' ho0 (Kd.R_lt (by (with_reducible repeat (first | apply Kd.RA | apply Kd.RN | apply Kd.RD)); exact HO499.out))) (Kd.R_lt (by (with_reducible repeat (first | apply Kd.RA | apply Kd.RN | apply Kd.RD)); exact HO508.out))) (bZ (by repeat (first | (with_reducible first | exact HB.out | apply bA | apply bN | apply b1 | refine bS ?_ GE501.out) | exact HB.out)))); have n5_ := zK (bB (g := gb501) (o := .cells #[.int .i64 t495, .int .i64 t496, .slice Ao10 t497.length co10, .int .i64 t500] 53 (0, 0)) (by (with_reducible repeat (first | refine kN ?_ _ | refine kD ?_ | refine kA ?_ _)); exact BK501.out) hb); have n6_ := zK (bT (by repeat (first | (with_reducible first | exact HB.out | apply bA | apply bN | apply b1 | refine bS ?_ GE501.out) | exact HB.out)) hb); clear HO494; clear HO499; clear HO504; clear HO508; clear BK501; clear HB; have HO494 := n0_; have HO499 := n1_; have HO504 := n2_; have HO508 := n3_; have HO511 := n4_; have BK501 := n5_; have HB := n6_; clear n0_ n1_ n2_ n3_ n4_ n5_ n6_; (try clear hb); (try clear hb2); (try clear hk); (try clear hi); (try clear ho0)))
  (try simp only [Act.put, sA, sZ, sS])
  go_cut [63] (fun v63 wc => ∃ (kq : Nat) (x63_15 : Bool), v63 = .bool x63_15 ∧ Aside0 (laws_FnParcels.j0 kq l0 t502 t509 x63_15 t495 t496 t497 t500 = some r) ∧ Aside0 (kq ≤ k) ∧ Aside0 (Kd.R k138 138 wc w.heap.size (fun _ => True) (.slice Ao18 t502.length co18) t502) ∧ Aside0 (Kd.R (Kd.int .i64) 3 wc w.heap.size (fun k_ => some k_ ≠ ((.slice Ao10 t497.length co10) : Value).ownBlock) v510 t509) ∧ Aside0 (Kd.R (Kd.int .i64) 3 wc w.heap.size (fun k_ => some k_ ≠ (v510 : Value).ownBlock) (.slice Ao10 t497.length co10) t497) ∧ Aside0 (wc.heap[gb501]? = some (.cells #[.int .i64 t495, .int .i64 t496, (.slice Ao10 t497.length co10), .int .i64 t500] 53 (0, 0))) ∧ Aside0 (Below w.heap.size w wc))
  case first =>
   have H := HC16.out
   clear HC16
   replace H := Option.bind_eq_some_iff.mp H
   obtain ⟨t512, A220, H⟩ := H
   replace H : (if t512 = true then (if (t502.length : Int) = (wrap64 ((t492.length : Int) + (t497.length : Int))) then ((laws_within.f k t497 t506).bind fun t513 => (if t513 = true then ((impl_CountIn.f k t502).bind fun t514 => ((impl_CountIn.f k t492).bind fun t515 => (laws_FnParcels.j0 k l0 t502 t509 (t514 != t515) t495 t496 t497 t500))) else (laws_FnParcels.j0 k l0 t502 t509 true t495 t496 t497 t500))) else (laws_FnParcels.j0 k l0 t502 t509 true t495 t496 t497 t500)) else (laws_FnParcels.j0 k l0 t502 t509 true t495 t496 t497 t500)) = some r := H
   have A22 := zK A220
   clear A220
   by_cases c23 : t512 = true
   rotate_left
   ·replace c23 := Bool.eq_false_iff.mpr c23
    subst c23
    have H1 : (laws_FnParcels.j0 k l0 t502 t509 true t495 t496 t497 t500) = some r := by rw [if_neg (show ¬ (false = true) by decide)] at H; exact H
    clear H
    have H := H1
    clear H1
    have H' := zK H
    clear H
    go_wp2_with (first | ((with_reducible refine gate_callee (f := 34) rfl ?_); refine goesL_ (some 37) rfl rfl Try.func34 (by kernel_rfl) rfl #[.slice Ao18 t502.length co18] rfl (by (try simp only [List.map_toArray, List.map_cons, List.map_nil]); first | done | rfl | (simp only [List.length_drop, List.length_take]; rfl)) ?_; (with_reducible refine (impl_IsChain.calls k _ _ t502 false _ ?side1 ?side2 A22.out).mono ?_); (case side1 => repeat (first | exact (Kd.R_reads' HO504.out).2.2 | (with_reducible refine Kd.CA ?_ _) | (with_reducible refine Kd.CN ?_ _) | (with_reducible refine Kd.CD ?_))); (case side2 => exact (Kd.R_reads' HO504.out).2.1); rintro e w39 ⟨rfl, hb⟩; refine ⟨_, rfl, ?_⟩; have n0_ := zK (Kd.R_below (by (with_reducible repeat (first | apply Kd.RA | apply Kd.RN | apply Kd.RD)); exact HO494.out) hb); have n1_ := zK (Kd.R_below (by (with_reducible repeat (first | apply Kd.RA | apply Kd.RN | apply Kd.RD)); exact HO499.out) hb); have n2_ := zK (Kd.R_below (by (with_reducible repeat (first | apply Kd.RA | apply Kd.RN | apply Kd.RD)); exact HO504.out) hb); have n3_ := zK (Kd.R_below (by (with_reducible repeat (first | apply Kd.RA | apply Kd.RN | apply Kd.RD)); exact HO508.out) hb); have n4_ := zK (Kd.R_below (by (with_reducible repeat (first | apply Kd.RA | apply Kd.RN | apply Kd.RD)); exact HO511.out) hb); have n5_ := zK (bB (g := gb501) (o := .cells #[.int .i64 t495, .int .i64 t496, .slice Ao10 t497.length co10, .int .i64 t500] 53 (0, 0)) (by (with_reducible repeat (first | refine kN ?_ _ | refine kD ?_ | refine kA ?_ _)); exact BK501.out) hb); have n6_ := zK (bT (by repeat (first | (with_reducible first | exact HB.out | apply bA | apply bN | apply b1 | refine bS ?_ GE501.out) | exact HB.out)) hb); clear HO494; clear HO499; clear HO504; clear HO508; clear HO511; clear BK501; clear HB; have HO494 := n0_; have HO499 := n1_; have HO504 := n2_; have HO508 := n3_; have HO511 := n4_; have BK501 := n5_; have HB := n6_; clear n0_ n1_ n2_ n3_ n4_ n5_ n6_; (try clear hb); (try clear hb2); (try clear hk); (try clear hi)))
    go_meet
    case rel => exact ⟨_, (true), (by first | rfl | (simp; done) | (simp [*]; done)), H', ⟨by first | omega | exact Nat.le_refl _⟩, ⟨by (with_reducible repeat (first | apply Kd.RA | apply Kd.RN | apply Kd.RD)); exact Kd.R_mono HO504.out (fun _ hk => trivial)⟩, ⟨by (with_reducible repeat (first | apply Kd.RA | apply Kd.RN | apply Kd.RD)); exact Kd.R_mono HO511.out (fun _ hk => hk.1.2)⟩, ⟨by (with_reducible repeat (first | apply Kd.RA | apply Kd.RN | apply Kd.RD)); exact Kd.R_mono HO499.out (fun _ hk => hk.2)⟩, ⟨by (with_reducible repeat (first | refine kN ?_ _ | refine kD ?_ | refine kA ?_ _)); exact BK501.out⟩, ⟨by repeat (first | (with_reducible first | exact HB.out | apply bA | apply bN | apply b1 | refine bS ?_ GE501.out) | exact HB.out)⟩⟩
   subst c23
   have H1 : (if (t502.length : Int) = (wrap64 ((t492.length : Int) + (t497.length : Int))) then ((laws_within.f k t497 t506).bind fun t513 => (if t513 = true then ((impl_CountIn.f k t502).bind fun t514 => ((impl_CountIn.f k t492).bind fun t515 => (laws_FnParcels.j0 k l0 t502 t509 (t514 != t515) t495 t496 t497 t500))) else (laws_FnParcels.j0 k l0 t502 t509 true t495 t496 t497 t500))) else (laws_FnParcels.j0 k l0 t502 t509 true t495 t496 t497 t500)) = some r := by rw [if_pos rfl] at H; exact H
   clear H
   have H := H1
   clear H1
   by_cases c24 : (t502.length : Int) = (wrap64 ((t492.length : Int) + (t497.length : Int)))
   rotate_left
   ·rw [if_neg c24] at H
    have c24b0 : ((t502.length : Int) == (wrap64 ((t492.length : Int) + (t497.length : Int)))) = false := beq_eq_false_iff_ne.mpr c24
    have c24b1 : ((t502.length : Int) != (wrap64 ((t492.length : Int) + (t497.length : Int)))) = true := bne_iff_ne.mpr c24
    (first | rw [c24b0] | rw [c24b1] | (simp only [i64_w, i32_w]; rw [c24b0]) | skip)
    have H' := zK H
    clear H
    go_wp2_with (first | ((with_reducible refine gate_callee (f := 34) rfl ?_); refine goesL_ (some 37) rfl rfl Try.func34 (by kernel_rfl) rfl #[.slice Ao18 t502.length co18] rfl (by (try simp only [List.map_toArray, List.map_cons, List.map_nil]); first | done | rfl | (simp only [List.length_drop, List.length_take]; rfl)) ?_; (with_reducible refine (impl_IsChain.calls k _ _ t502 true _ ?side1 ?side2 A22.out).mono ?_); (case side1 => repeat (first | exact (Kd.R_reads' HO504.out).2.2 | (with_reducible refine Kd.CA ?_ _) | (with_reducible refine Kd.CN ?_ _) | (with_reducible refine Kd.CD ?_))); (case side2 => exact (Kd.R_reads' HO504.out).2.1); rintro e w37 ⟨rfl, hb⟩; refine ⟨_, rfl, ?_⟩; have n0_ := zK (Kd.R_below (by (with_reducible repeat (first | apply Kd.RA | apply Kd.RN | apply Kd.RD)); exact HO494.out) hb); have n1_ := zK (Kd.R_below (by (with_reducible repeat (first | apply Kd.RA | apply Kd.RN | apply Kd.RD)); exact HO499.out) hb); have n2_ := zK (Kd.R_below (by (with_reducible repeat (first | apply Kd.RA | apply Kd.RN | apply Kd.RD)); exact HO504.out) hb); have n3_ := zK (Kd.R_below (by (with_reducible repeat (first | apply Kd.RA | apply Kd.RN | apply Kd.RD)); exact HO508.out) hb); have n4_ := zK (Kd.R_below (by (with_reducible repeat (first | apply Kd.RA | apply Kd.RN | apply Kd.RD)); exact HO511.out) hb); have n5_ := zK (bB (g := gb501) (o := .cells #[.int .i64 t495, .int .i64 t496, .slice Ao10 t497.length co10, .int .i64 t500] 53 (0, 0)) (by (with_reducible repeat (first | refine kN ?_ _ | refine kD ?_ | refine kA ?_ _)); exact BK501.out) hb); have n6_ := zK (bT (by repeat (first | (with_reducible first | exact HB.out | apply bA | apply bN | apply b1 | refine bS ?_ GE501.out) | exact HB.out)) hb); clear HO494; clear HO499; clear HO504; clear HO508; clear HO511; clear BK501; clear HB; have HO494 := n0_; have HO499 := n1_; have HO504 := n2_; have HO508 := n3_; have HO511 := n4_; have BK501 := n5_; have HB := n6_; clear n0_ n1_ n2_ n3_ n4_ n5_ n6_; (try clear hb); (try clear hb2); (try clear hk); (try clear hi); have hcz38_0 : w37.cell? ⟨gb501, 0, none⟩ = some (.int .i64 t495) := (bc BK501.out 0).trans rfl; have hcz38_1 : w37.cell? ⟨gb501, 1, none⟩ = some (.int .i64 t496) := (bc BK501.out 1).trans rfl; have hcz38_2 : w37.cell? ⟨gb501, 2, none⟩ = some (.slice Ao10 t497.length co10) := (bc BK501.out 2).trans rfl; have hcz38_3 : w37.cell? ⟨gb501, 3, none⟩ = some (.int .i64 t500) := (bc BK501.out 3).trans rfl; have hfz38_0 := bf BK501.out 0; have hfz38_1 := bf BK501.out 1; have hfz38_2 := bf BK501.out 2; have hfz38_3 := bf BK501.out 3))
    go_meet
    case rel => exact ⟨_, (true), (by first | rfl | (simp; done) | (simp [*]; done)), H', ⟨by first | omega | exact Nat.le_refl _⟩, ⟨by (with_reducible repeat (first | apply Kd.RA | apply Kd.RN | apply Kd.RD)); exact Kd.R_mono HO504.out (fun _ hk => trivial)⟩, ⟨by (with_reducible repeat (first | apply Kd.RA | apply Kd.RN | apply Kd.RD)); exact Kd.R_mono HO511.out (fun _ hk => hk.1.2)⟩, ⟨by (with_reducible repeat (first | apply Kd.RA | apply Kd.RN | apply Kd.RD)); exact Kd.R_mono HO499.out (fun _ hk => hk.2)⟩, ⟨by (with_reducible repeat (first | refine kN ?_ _ | refine kD ?_ | refine kA ?_ _)); exact BK501.out⟩, ⟨by repeat (first | (with_reducible first | exact HB.out | apply bA | apply bN | apply b1 | refine bS ?_ GE501.out) | exact HB.out)⟩⟩
   rw [if_pos c24] at H
   have c24b0 : ((t502.length : Int) == (wrap64 ((t492.length : Int) + (t497.length : Int)))) = true := beq_iff_eq.mpr c24
   have c24b1 : ((t502.length : Int) != (wrap64 ((t492.length : Int) + (t497.length : Int)))) = false := bne_eq_false_iff_eq.mpr c24
   clear c24
   (first | rw [c24b0] | rw [c24b1] | (simp only [i64_w, i32_w]; rw [c24b0]) | skip)
   replace H := Option.bind_eq_some_iff.mp H
   obtain ⟨t513, A250, H⟩ := H
   replace H : (if t513 = true then ((impl_CountIn.f k t502).bind fun t514 => ((impl_CountIn.f k t492).bind fun t515 => (laws_FnParcels.j0 k l0 t502 t509 (t514 != t515) t495 t496 t497 t500))) else (laws_FnParcels.j0 k l0 t502 t509 true t495 t496 t497 t500)) = some r := H
   have A25 := zK A250
   clear A250
   by_cases c26 : t513 = true
   rotate_left
   ·replace c26 := Bool.eq_false_iff.mpr c26
    subst c26
    have H1 : (laws_FnParcels.j0 k l0 t502 t509 true t495 t496 t497 t500) = some r := by rw [if_neg (show ¬ (false = true) by decide)] at H; exact H
    clear H
    have H := H1
    clear H1
    have H' := zK H
    clear H
    go_wp2_with (first | ((with_reducible refine gate_callee (f := 34) rfl ?_); refine goesL_ (some 37) rfl rfl Try.func34 (by kernel_rfl) rfl #[.slice Ao18 t502.length co18] rfl (by (try simp only [List.map_toArray, List.map_cons, List.map_nil]); first | done | rfl | (simp only [List.length_drop, List.length_take]; rfl)) ?_; (with_reducible refine (impl_IsChain.calls k _ _ t502 true _ ?side1 ?side2 A22.out).mono ?_); (case side1 => repeat (first | exact (Kd.R_reads' HO504.out).2.2 | (with_reducible refine Kd.CA ?_ _) | (with_reducible refine Kd.CN ?_ _) | (with_reducible refine Kd.CD ?_))); (case side2 => exact (Kd.R_reads' HO504.out).2.1); rintro e w34 ⟨rfl, hb⟩; refine ⟨_, rfl, ?_⟩; have n0_ := zK (Kd.R_below (by (with_reducible repeat (first | apply Kd.RA | apply Kd.RN | apply Kd.RD)); exact HO494.out) hb); have n1_ := zK (Kd.R_below (by (with_reducible repeat (first | apply Kd.RA | apply Kd.RN | apply Kd.RD)); exact HO499.out) hb); have n2_ := zK (Kd.R_below (by (with_reducible repeat (first | apply Kd.RA | apply Kd.RN | apply Kd.RD)); exact HO504.out) hb); have n3_ := zK (Kd.R_below (by (with_reducible repeat (first | apply Kd.RA | apply Kd.RN | apply Kd.RD)); exact HO508.out) hb); have n4_ := zK (Kd.R_below (by (with_reducible repeat (first | apply Kd.RA | apply Kd.RN | apply Kd.RD)); exact HO511.out) hb); have n5_ := zK (bB (g := gb501) (o := .cells #[.int .i64 t495, .int .i64 t496, .slice Ao10 t497.length co10, .int .i64 t500] 53 (0, 0)) (by (with_reducible repeat (first | refine kN ?_ _ | refine kD ?_ | refine kA ?_ _)); exact BK501.out) hb); have n6_ := zK (bT (by repeat (first | (with_reducible first | exact HB.out | apply bA | apply bN | apply b1 | refine bS ?_ GE501.out) | exact HB.out)) hb); clear HO494; clear HO499; clear HO504; clear HO508; clear HO511; clear BK501; clear HB; have HO494 := n0_; have HO499 := n1_; have HO504 := n2_; have HO508 := n3_; have HO511 := n4_; have BK501 := n5_; have HB := n6_; clear n0_ n1_ n2_ n3_ n4_ n5_ n6_; (try clear hb); (try clear hb2); (try clear hk); (try clear hi); have hcz35_0 : w34.cell? ⟨gb501, 0, none⟩ = some (.int .i64 t495) := (bc BK501.out 0).trans rfl; have hcz35_1 : w34.cell? ⟨gb501, 1, none⟩ = some (.int .i64 t496) := (bc BK501.out 1).trans rfl; have hcz35_2 : w34.cell? ⟨gb501, 2, none⟩ = some (.slice Ao10 t497.length co10) := (bc BK501.out 2).trans rfl; have hcz35_3 : w34.cell? ⟨gb501, 3, none⟩ = some (.int .i64 t500) := (bc BK501.out 3).trans rfl; have hfz35_0 := bf BK501.out 0; have hfz35_1 := bf BK501.out 1; have hfz35_2 := bf BK501.out 2; have hfz35_3 := bf BK501.out 3; obtain ⟨Ao36, co36, eo36⟩ := Kd.R_slice HO508.out; subst eo36) | (go_at_call 35; (with_reducible refine (laws_within.calls k _ _ t497 _ _ t506 false _ ?side1 ?side2 ?side3 ?side4 A25.out).mono ?_); (case side1 => repeat (first | exact (Kd.R_reads' HO499.out).2.2 | (with_reducible refine Kd.CA ?_ _) | (with_reducible refine Kd.CN ?_ _) | (with_reducible refine Kd.CD ?_))); (case side2 => exact (Kd.R_reads' HO499.out).2.1); (case side3 => repeat (first | exact (Kd.R_reads' HO508.out).2.2 | (with_reducible refine Kd.CA ?_ _) | (with_reducible refine Kd.CN ?_ _) | (with_reducible refine Kd.CD ?_))); (case side4 => exact (Kd.R_reads' HO508.out).2.1); rintro e w' ⟨rfl, ⟨nd, rfl⟩⟩))
    go_meet
    case rel => exact ⟨_, (true), (by first | rfl | (simp; done) | (simp [*]; done)), H', ⟨by first | omega | exact Nat.le_refl _⟩, ⟨by (with_reducible repeat (first | apply Kd.RA | apply Kd.RN | apply Kd.RD)); exact Kd.R_mono HO504.out (fun _ hk => trivial)⟩, ⟨by (with_reducible repeat (first | apply Kd.RA | apply Kd.RN | apply Kd.RD)); exact Kd.R_mono HO511.out (fun _ hk => hk.1.2)⟩, ⟨by (with_reducible repeat (first | apply Kd.RA | apply Kd.RN | apply Kd.RD)); exact Kd.R_mono HO499.out (fun _ hk => hk.2)⟩, ⟨by (with_reducible repeat (first | refine kN ?_ _ | refine kD ?_ | refine kA ?_ _)); exact BK501.out⟩, ⟨by repeat (first | (with_reducible first | exact HB.out | apply bA | apply bN | apply b1 | refine bS ?_ GE501.out) | exact HB.out)⟩⟩
   subst c26
   have H1 : ((impl_CountIn.f k t502).bind fun t514 => ((impl_CountIn.f k t492).bind fun t515 => (laws_FnParcels.j0 k l0 t502 t509 (t514 != t515) t495 t496 t497 t500))) = some r := by rw [if_pos rfl] at H; exact H
   clear H
   have H := H1
   clear H1
   replace H := Option.bind_eq_some_iff.mp H
   obtain ⟨t514, A270, H⟩ := H
   replace H : ((impl_CountIn.f k t492).bind fun t515 => (laws_FnParcels.j0 k l0 t502 t509 (t514 != t515) t495 t496 t497 t500)) = some r := H
   have A27 := zK A270
   clear A270
   replace H := Option.bind_eq_some_iff.mp H
   obtain ⟨t515, A280, H⟩ := H
   replace H : (laws_FnParcels.j0 k l0 t502 t509 (t514 != t515) t495 t496 t497 t500) = some r := H
   have A28 := zK A280
   clear A280
   have H' := zK H
   clear H
   go_wp2_with (first | ((with_reducible refine gate_callee (f := 34) rfl ?_); refine goesL_ (some 37) rfl rfl Try.func34 (by kernel_rfl) rfl #[.slice Ao18 t502.length co18] rfl (by (try simp only [List.map_toArray, List.map_cons, List.map_nil]); first | done | rfl | (simp only [List.length_drop, List.length_take]; rfl)) ?_; (with_reducible refine (impl_IsChain.calls k _ _ t502 true _ ?side1 ?side2 A22.out).mono ?_); (case side1 => repeat (first | exact (Kd.R_reads' HO504.out).2.2 | (with_reducible refine Kd.CA ?_ _) | (with_reducible refine Kd.CN ?_ _) | (with_reducible refine Kd.CD ?_))); (case side2 => exact (Kd.R_reads' HO504.out).2.1); rintro e w29 ⟨rfl, hb⟩; refine ⟨_, rfl, ?_⟩; have n0_ := zK (Kd.R_below (by (with_reducible repeat (first | apply Kd.RA | apply Kd.RN | apply Kd.RD)); exact HO494.out) hb); have n1_ := zK (Kd.R_below (by (with_reducible repeat (first | apply Kd.RA | apply Kd.RN | apply Kd.RD)); exact HO499.out) hb); have n2_ := zK (Kd.R_below (by (with_reducible repeat (first | apply Kd.RA | apply Kd.RN | apply Kd.RD)); exact HO504.out) hb); have n3_ := zK (Kd.R_below (by (with_reducible repeat (first | apply Kd.RA | apply Kd.RN | apply Kd.RD)); exact HO508.out) hb); have n4_ := zK (Kd.R_below (by (with_reducible repeat (first | apply Kd.RA | apply Kd.RN | apply Kd.RD)); exact HO511.out) hb); have n5_ := zK (bB (g := gb501) (o := .cells #[.int .i64 t495, .int .i64 t496, .slice Ao10 t497.length co10, .int .i64 t500] 53 (0, 0)) (by (with_reducible repeat (first | refine kN ?_ _ | refine kD ?_ | refine kA ?_ _)); exact BK501.out) hb); have n6_ := zK (bT (by repeat (first | (with_reducible first | exact HB.out | apply bA | apply bN | apply b1 | refine bS ?_ GE501.out) | exact HB.out)) hb); clear HO494; clear HO499; clear HO504; clear HO508; clear HO511; clear BK501; clear HB; have HO494 := n0_; have HO499 := n1_; have HO504 := n2_; have HO508 := n3_; have HO511 := n4_; have BK501 := n5_; have HB := n6_; clear n0_ n1_ n2_ n3_ n4_ n5_ n6_; (try clear hb); (try clear hb2); (try clear hk); (try clear hi); have hcz30_0 : w29.cell? ⟨gb501, 0, none⟩ = some (.int .i64 t495) := (bc BK501.out 0).trans rfl; have hcz30_1 : w29.cell? ⟨gb501, 1, none⟩ = some (.int .i64 t496) := (bc BK501.out 1).trans rfl; have hcz30_2 : w29.cell? ⟨gb501, 2, none⟩ = some (.slice Ao10 t497.length co10) := (bc BK501.out 2).trans rfl; have hcz30_3 : w29.cell? ⟨gb501, 3, none⟩ = some (.int .i64 t500) := (bc BK501.out 3).trans rfl; have hfz30_0 := bf BK501.out 0; have hfz30_1 := bf BK501.out 1; have hfz30_2 := bf BK501.out 2; have hfz30_3 := bf BK501.out 3; obtain ⟨Ao31, co31, eo31⟩ := Kd.R_slice HO508.out; subst eo31) | (go_at_call 35; (with_reducible refine (laws_within.calls k _ _ t497 _ _ t506 true _ ?side1 ?side2 ?side3 ?side4 A25.out).mono ?_); (case side1 => repeat (first | exact (Kd.R_reads' HO499.out).2.2 | (with_reducible refine Kd.CA ?_ _) | (with_reducible refine Kd.CN ?_ _) | (with_reducible refine Kd.CD ?_))); (case side2 => exact (Kd.R_reads' HO499.out).2.1); (case side3 => repeat (first | exact (Kd.R_reads' HO508.out).2.2 | (with_reducible refine Kd.CA ?_ _) | (with_reducible refine Kd.CN ?_ _) | (with_reducible refine Kd.CD ?_))); (case side4 => exact (Kd.R_reads' HO508.out).2.1); rintro e w' ⟨rfl, ⟨nd, rfl⟩⟩) | (go_at_call 36; (with_reducible refine (impl_CountIn.calls k _ _ t502 t514 _ ?side1 ?side2 A27.out).mono ?_); (case side1 => repeat (first | exact (Kd.R_reads' HO504.out).2.2 | (with_reducible refine Kd.CA ?_ _) | (with_reducible refine Kd.CN ?_ _) | (with_reducible refine Kd.CD ?_))); (case side2 => exact (Kd.R_reads' HO504.out).2.1); rintro e w32 ⟨rfl, hb⟩; have n0_ := zK (Kd.R_below (by (with_reducible repeat (first | apply Kd.RA | apply Kd.RN | apply Kd.RD)); exact HO494.out) hb); have n1_ := zK (Kd.R_below (by (with_reducible repeat (first | apply Kd.RA | apply Kd.RN | apply Kd.RD)); exact HO499.out) hb); have n2_ := zK (Kd.R_below (by (with_reducible repeat (first | apply Kd.RA | apply Kd.RN | apply Kd.RD)); exact HO504.out) hb); have n3_ := zK (Kd.R_below (by (with_reducible repeat (first | apply Kd.RA | apply Kd.RN | apply Kd.RD)); exact HO508.out) hb); have n4_ := zK (Kd.R_below (by (with_reducible repeat (first | apply Kd.RA | apply Kd.RN | apply Kd.RD)); exact HO511.out) hb); have n5_ := zK (bB (g := gb501) (o := .cells #[.int .i64 t495, .int .i64 t496, .slice Ao10 t497.length co10, .int .i64 t500] 53 (0, 0)) (by (with_reducible repeat (first | refine kN ?_ _ | refine kD ?_ | refine kA ?_ _)); exact BK501.out) hb); have n6_ := zK (bT (by repeat (first | (with_reducible first | exact HB.out | apply bA | apply bN | apply b1 | refine bS ?_ GE501.out) | exact HB.out)) hb); clear HO494; clear HO499; clear HO504; clear HO508; clear HO511; clear BK501; clear HB; have HO494 := n0_; have HO499 := n1_; have HO504 := n2_; have HO508 := n3_; have HO511 := n4_; have BK501 := n5_; have HB := n6_; clear n0_ n1_ n2_ n3_ n4_ n5_ n6_; (try clear hb); (try clear hb2); (try clear hk); (try clear hi)) | (go_at_call 36; (with_reducible refine (impl_CountIn.calls k _ _ t492 t515 _ ?side1 ?side2 A28.out).mono ?_); (case side1 => repeat (first | exact (Kd.R_reads' HO494.out).2.2 | (with_reducible refine Kd.CA ?_ _) | (with_reducible refine Kd.CN ?_ _) | (with_reducible refine Kd.CD ?_))); (case side2 => exact (Kd.R_reads' HO494.out).2.1); rintro e w33 ⟨rfl, hb⟩; have n0_ := zK (Kd.R_below (by (with_reducible repeat (first | apply Kd.RA | apply Kd.RN | apply Kd.RD)); exact HO494.out) hb); have n1_ := zK (Kd.R_below (by (with_reducible repeat (first | apply Kd.RA | apply Kd.RN | apply Kd.RD)); exact HO499.out) hb); have n2_ := zK (Kd.R_below (by (with_reducible repeat (first | apply Kd.RA | apply Kd.RN | apply Kd.RD)); exact HO504.out) hb); have n3_ := zK (Kd.R_below (by (with_reducible repeat (first | apply Kd.RA | apply Kd.RN | apply Kd.RD)); exact HO508.out) hb); have n4_ := zK (Kd.R_below (by (with_reducible repeat (first | apply Kd.RA | apply Kd.RN | apply Kd.RD)); exact HO511.out) hb); have n5_ := zK (bB (g := gb501) (o := .cells #[.int .i64 t495, .int .i64 t496, .slice Ao10 t497.length co10, .int .i64 t500] 53 (0, 0)) (by (with_reducible repeat (first | refine kN ?_ _ | refine kD ?_ | refine kA ?_ _)); exact BK501.out) hb); have n6_ := zK (bT (by repeat (first | (with_reducible first | exact HB.out | apply bA | apply bN | apply b1 | refine bS ?_ GE501.out) | exact HB.out)) hb); clear HO494; clear HO499; clear HO504; clear HO508; clear HO511; clear BK501; clear HB; have HO494 := n0_; have HO499 := n1_; have HO504 := n2_; have HO508 := n3_; have HO511 := n4_; have BK501 := n5_; have HB := n6_; clear n0_ n1_ n2_ n3_ n4_ n5_ n6_; (try clear hb); (try clear hb2); (try clear hk); (try clear hi)))
   go_meet
   case rel => exact ⟨_, ((t514 != t515)), (by first | rfl | (simp; done) | (simp [*]; done)), H', ⟨by first | omega | exact Nat.le_refl _⟩, ⟨by (with_reducible repeat (first | apply Kd.RA | apply Kd.RN | apply Kd.RD)); exact Kd.R_mono HO504.out (fun _ hk => trivial)⟩, ⟨by (with_reducible repeat (first | apply Kd.RA | apply Kd.RN | apply Kd.RD)); exact Kd.R_mono HO511.out (fun _ hk => hk.1.2)⟩, ⟨by (with_reducible repeat (first | apply Kd.RA | apply Kd.RN | apply Kd.RD)); exact Kd.R_mono HO499.out (fun _ hk => hk.2)⟩, ⟨by (with_reducible repeat (first | refine kN ?_ _ | refine kD ?_ | refine kA ?_ _)); exact BK501.out⟩, ⟨by repeat (first | (with_reducible first | exact HB.out | apply bA | apply bN | apply b1 | refine bS ?_ GE501.out) | exact HB.out)⟩⟩
  case rest =>
   clear HC16
   try clear c1
   try clear c2
   try clear p2
   try clear c3
   try clear c6
   try clear p6
   try clear c13
   try clear c23
   try clear c24
   try clear c24b0
   try clear c24b1
   try clear c26
   try clear c30
   try clear c31
   try clear c32
   try clear c33
   try clear c34
   try clear hcz17_0
   try clear hcz17_1
   try clear hcz17_2
   try clear hcz17_3
   try clear hcz20_0
   try clear hcz20_1
   try clear hcz20_2
   try clear hcz20_3
   try clear hcz30_0
   try clear hcz30_1
   try clear hcz30_2
   try clear hcz30_3
   try clear hcz35_0
   try clear hcz35_1
   try clear hcz35_2
   try clear hcz35_3
   try clear hcz38_0
   try clear hcz38_1
   try clear hcz38_2
   try clear hcz38_3
   try clear hcz9_0
   try clear hcz9_1
   try clear hcz9_2
   try clear hcz9_3
   try clear hfz17_0
   try clear hfz17_1
   try clear hfz17_2
   try clear hfz17_3
   try clear hfz20_0
   try clear hfz20_1
   try clear hfz20_2
   try clear hfz20_3
   try clear hfz30_0
   try clear hfz30_1
   try clear hfz30_2
   try clear hfz30_3
   try clear hfz35_0
   try clear hfz35_1
   try clear hfz35_2
   try clear hfz35_3
   try clear hfz38_0
   try clear hfz38_1
   try clear hfz38_2
   try clear hfz38_3
   try clear hfz9_0
   try clear hfz9_1
   try clear hfz9_2
   try clear hfz9_3
   obtain ⟨kq, x63_15, rfl, HA, HJ15, HO_5, HO_8, HO_502002, BK501, HB⟩ := hcut
   cases kq with
   | zero => exact absurd HA.out (by simp [laws_FnParcels.j0])
   | succ kj15 =>
    have H := HA.out
    clear HA
    simp only [laws_FnParcels.j0] at H
    by_cases c40 : x63_15 = true
    ·subst c40
     have H1 : (some false) = some r := by rw [if_pos rfl] at H; exact H
     clear H
     have H := H1
     clear H1
     obtain rfl := Option.some.inj H
     go_wp2
     go_ret
     exact ⟨by first | rfl | (simp [errW_none, errW_some] <;> rfl) | (simp [*, errW_none, errW_some] <;> rfl), by repeat (first | (with_reducible first | exact HB.out | apply bA | apply bN | apply b1 | refine bS ?_ GE501.out) | exact HB.out)⟩
    replace c40 := Bool.eq_false_iff.mpr c40
    subst c40
    have H1 : (laws_FnParcels.l0 kj15 l0 t502 t509 0 t495 t496 t497 t500) = some r := by rw [if_neg (show ¬ (false = true) by decide)] at H; exact H
    clear H
    have H := H1
    clear H1
    have H' := zK H
    clear H
    go_wp2
    go_loopg [9] kj15 (fun kq v9 w' => ∃ (x9_2 : Int), v9 = .int .i64 x9_2 ∧ Aside0 (laws_FnParcels.l0 kq l0 t502 t509 x9_2 t495 t496 t497 t500 = some r) ∧ Aside0 (kq ≤ kj15) ∧ Aside0 (Kd.R k138 138 w' w.heap.size (fun _ => True) (.slice Ao18 t502.length co18) t502) ∧ Aside0 (Kd.R (Kd.int .i64) 3 w' w.heap.size (fun k_ => some k_ ≠ ((.slice Ao10 t497.length co10) : Value).ownBlock) v510 t509) ∧ Aside0 (Kd.R (Kd.int .i64) 3 w' w.heap.size (fun k_ => some k_ ≠ (v510 : Value).ownBlock) (.slice Ao10 t497.length co10) t497) ∧ Aside0 (w'.heap[gb501]? = some (.cells #[.int .i64 t495, .int .i64 t496, (.slice Ao10 t497.length co10), .int .i64 t500] 53 (0, 0))) ∧ Aside0 (Below w.heap.size w w'))
    case atStart => exact ⟨(0), (by first | rfl | (simp; done) | (simp [*]; done)), H', ⟨Nat.le_refl _⟩, ⟨by (with_reducible repeat (first | apply Kd.RA | apply Kd.RN | apply Kd.RD)); exact HO_5.out⟩, ⟨by (with_reducible repeat (first | apply Kd.RA | apply Kd.RN | apply Kd.RD)); exact HO_8.out⟩, ⟨by (with_reducible repeat (first | apply Kd.RA | apply Kd.RN | apply Kd.RD)); exact HO_502002.out⟩, ⟨by (with_reducible repeat (first | refine kN ?_ _ | refine kD ?_ | refine kA ?_ _)); exact BK501.out⟩, ⟨by repeat (first | (with_reducible first | exact HB.out | apply bA | apply bN | apply b1 | refine bS ?_ GE501.out) | exact HB.out)⟩⟩
    case round =>
     clear H'
     try clear c1
     try clear c2
     try clear p2
     try clear c3
     try clear c4
     try clear c6
     try clear p6
     try clear c13
     try clear c23
     try clear c24
     try clear c24b0
     try clear c24b1
     try clear c26
     try clear c30
     try clear c31
     try clear c32
     try clear c33
     try clear c34
     try clear c40
     try clear hcz17_0
     try clear hcz17_1
     try clear hcz17_2
     try clear hcz17_3
     try clear hcz20_0
     try clear hcz20_1
     try clear hcz20_2
     try clear hcz20_3
     try clear hcz30_0
     try clear hcz30_1
     try clear hcz30_2
     try clear hcz30_3
     try clear hcz35_0
     try clear hcz35_1
     try clear hcz35_2
     try clear hcz35_3
     try clear hcz38_0
     try clear hcz38_1
     try clear hcz38_2
     try clear hcz38_3
     try clear hcz9_0
     try clear hcz9_1
     try clear hcz9_2
     try clear hcz9_3
     try clear hfz17_0
     try clear hfz17_1
     try clear hfz17_2
     try clear hfz17_3
     try clear hfz20_0
     try clear hfz20_1
     try clear hfz20_2
     try clear hfz20_3
     try clear hfz30_0
     try clear hfz30_1
     try clear hfz30_2
     try clear hfz30_3
     try clear hfz35_0
     try clear hfz35_1
     try clear hfz35_2
     try clear hfz35_3
     try clear hfz38_0
     try clear hfz38_1
     try clear hfz38_2
     try clear hfz38_3
     try clear hfz9_0
     try clear hfz9_1
     try clear hfz9_2
     try clear hfz9_3
     try clear p2
     try clear p6
     obtain ⟨x9_2, rfl, HA, HK2, HO_5, HO_8, HO_502002, BK501, HB⟩ := hrel
     cases gk with
     | zero => exact absurd HA.out (by simp [laws_FnParcels.l0])
     | succ k2 =>
      have H := HA.out
      clear HA
      simp only [laws_FnParcels.l0] at H
      by_cases c41 : x9_2 < (t497.length : Int)
      rotate_left
      ·rw [if_neg c41] at H
       have c41b0 : decide (x9_2 < (t497.length : Int)) = false := decide_eq_false c41
       clear c41
       have H' := zK H
       clear H
       have hcz61_0 : wr.cell? ⟨gb501, 0, none⟩ = some (.int .i64 t495) := (bc BK501.out 0).trans rfl
       have hcz61_1 : wr.cell? ⟨gb501, 1, none⟩ = some (.int .i64 t496) := (bc BK501.out 1).trans rfl
       have hcz61_2 : wr.cell? ⟨gb501, 2, none⟩ = some (.slice Ao10 t497.length co10) := (bc BK501.out 2).trans rfl
       have hcz61_3 : wr.cell? ⟨gb501, 3, none⟩ = some (.int .i64 t500) := (bc BK501.out 3).trans rfl
       have hfz61_0 := bf BK501.out 0
       have hfz61_1 := bf BK501.out 1
       have hfz61_2 := bf BK501.out 2
       have hfz61_3 := bf BK501.out 3
       go_wp2
       go_meet
       case rel => exact ⟨_, H', ⟨by have := HJ15.out; have := HK2.out; first | omega | exact Nat.le_refl _⟩, ⟨by (with_reducible repeat (first | apply Kd.RA | apply Kd.RN | apply Kd.RD)); exact Kd.R_mono HO_502002.out (fun _ hk => trivial)⟩, ⟨by (with_reducible repeat (first | refine kN ?_ _ | refine kD ?_ | refine kA ?_ _)); exact BK501.out⟩, ⟨by repeat (first | (with_reducible first | exact HB.out | apply bA | apply bN | apply b1 | refine bS ?_ GE501.out) | exact HB.out)⟩⟩
      rw [if_pos c41] at H
      have c41b0 : decide (x9_2 < (t497.length : Int)) = true := decide_eq_true c41
      clear c41
      by_cases c42 : 0 ≤ x9_2
      rotate_left
      ·rw [if_neg c42] at H
       exact absurd H (by simp)
      rw [if_pos c42] at H
      have c42b0 : decide (0 ≤ x9_2) = true := decide_eq_true c42
      clear c42
      replace H := Option.bind_eq_some_iff.mp H
      obtain ⟨t517, A430, H⟩ := H
      replace H : (if t517 = true then (some false) else ((impl_HousesOf.f k2 t502 (rd t497 x9_2)).bind fun t519 => ((laws_contains.f k2 t519 t495).bind fun t522 => (if t522 = true then (laws_FnParcels.l0 k2 l0 t502 t509 (wrap64 (x9_2 + 1)) t495 t496 t497 t500) else (some false))))) = some r := H
      have A43 := zK A430
      clear A430
      by_cases c44 : t517 = true
      ·subst c44
       have H1 : (some false) = some r := by rw [if_pos rfl] at H; exact H
       clear H
       have H := H1
       clear H1
       obtain rfl := Option.some.inj H
       have hcz45_0 : wr.cell? ⟨gb501, 0, none⟩ = some (.int .i64 t495) := (bc BK501.out 0).trans rfl
       have hcz45_1 : wr.cell? ⟨gb501, 1, none⟩ = some (.int .i64 t496) := (bc BK501.out 1).trans rfl
       have hcz45_2 : wr.cell? ⟨gb501, 2, none⟩ = some (.slice Ao10 t497.length co10) := (bc BK501.out 2).trans rfl
       have hcz45_3 : wr.cell? ⟨gb501, 3, none⟩ = some (.int .i64 t500) := (bc BK501.out 3).trans rfl
       have hfz45_0 := bf BK501.out 0
       have hfz45_1 := bf BK501.out 1
       have hfz45_2 := bf BK501.out 2
       have hfz45_3 := bf BK501.out 3
       try go_wp2
       have n0_ := zK (Kd.RD HO_5.out)
       have n1_ := zK (Kd.RD HO_8.out)
       have n2_ := zK (Kd.RD HO_502002.out)
       have n3_ := zK (kD BK501.out)
       have n4_ := zK (b1 HB.out)
       clear HO_5
       clear HO_8
       clear HO_502002
       clear BK501
       clear HB
       have HO_5 := n0_
       have HO_8 := n1_
       have HO_502002 := n2_
       have BK501 := n3_
       have HB := n4_
       clear n0_ n1_ n2_ n3_ n4_
       have p516 : 0 ≤ (x9_2 : Int) := oD (by first | (with_reducible assumption) | assumption)
       have q516 : x9_2 < (t497.length : Int) := oD (by first | (with_reducible assumption) | assumption)
       obtain ⟨ad516, e516, hx516_0⟩ := Kd.at_int (Kd.R_reads' HO_502002.out).2.2 x9_2 p516 q516
       cases e516
       replace p516 := eq_true p516
       replace q516 := eq_true q516
       obtain ⟨Ao47, co47, eo47⟩ := Kd.R_slice HO_8.out
       (first | subst eo47 | (injection eo47 with f1_ f2_ f3_; have f4_ := f1_.symm; have f5_ := f3_.symm; clear f1_ f2_ f3_; subst f4_; subst f5_))
       refine start_ (n := 20) (S := fun w' => w'.cell? ⟨gb501, 0, none⟩ = some (.int .i64 t495) ∧ w'.cell? ⟨gb501, 1, none⟩ = some (.int .i64 t496) ∧ w'.cell? ⟨gb501, 2, none⟩ = some (.slice (some ad516) t497.length co10) ∧ w'.cell? ⟨gb501, 3, none⟩ = some (.int .i64 t500) ∧ w'.cell? (ad516.add (x9_2).toNat) = some (.int .i64 (rd t497 x9_2))) (ds := []) b14A0 (by kernel_rfl) rfl rfl ⟨(bc BK501.out 0).trans rfl, (bc BK501.out 1).trans rfl, (bc BK501.out 2).trans rfl, (bc BK501.out 3).trans rfl, hx516_0⟩ (fun hHeld => ?_); refine with_tabW laws_FnParcels.tab13 laws_FnParcels.bits13 (fun HT_ HW_ => ?_)
       generalize wr.drew = w46 at HO_5 HO_8 HO_502002 BK501 HB hx516_0 hHeld ⊢
       refine pI 0 (some 71) b14A1 HT_ ?_
       refine pI 1 (some 72) b14A2 HT_ ?_
       refine pI 3 (some 74) b14A3 HT_ ?_
       refine tI 2 (some 73) b14A4 HT_ HW_ hHeld rfl rfl (Or.inl ⟨by rfl, by rintro w' ⟨s0, s1, s2, s3, s4⟩; go_simp; with_reducible rfl⟩) ?_
       refine pI 4 (some 75) b14A5 HT_ ?_
       refine tI 5 (some 76) b14A6 HT_ HW_ hHeld rfl rfl (Or.inl ⟨by rfl, by rintro w' ⟨s0, s1, s2, s3, s4⟩; go_simp; with_reducible rfl⟩) ?_
       refine one_ (i := 6) (N := some 77) b14A7 rfl rfl (one_of HT_.out (by kernel_rfl)) (by decide) (fun K hK => ?_)
       refine goes_ Try.func37 (by kernel_rfl) rfl #[.slice Ao47 t509.length co47, .int .i64 (rd t497 x9_2)] (by rfl) rfl rfl (by (try simp only [List.map_toArray, List.map_cons, List.map_nil]); first | done | rfl | (simp only [List.length_drop, List.length_take]; rfl)) ?_
       with_reducible refine (laws_contains.calls k2 _ _ t509 (rd t497 x9_2) true _ ?side1 ?side2 A43.out).mono ?_
       (case side1 => repeat (first | exact (Kd.R_reads' HO_8.out).2.2 | (with_reducible refine Kd.CA ?_ _) | (with_reducible refine Kd.CN ?_ _) | (with_reducible refine Kd.CD ?_)))
       (case side2 => exact (Kd.R_reads' HO_8.out).2.1)
       rintro e w' ⟨rfl, ⟨nd, rfl⟩⟩
       refine ⟨_, rfl, ?_⟩
       refine hK.out _ _ ⟨(bc BK501.out 0).trans rfl, (bc BK501.out 1).trans rfl, (bc BK501.out 2).trans rfl, (bc BK501.out 3).trans rfl, hHeld.2.2.2.2⟩ (fun hHeld => ?_)
       clear hK K
       refine norm_ (a' := ?_) ?_ ?_
       rotate_left
       ·show Act.put _ (some 77) _ = _
        simp only [Act.put, sA, sZ, sS, i64_w, i32_w]
        rfl
       refine pI 7 (some 78) b14A8 HT_ ?_
       refine pU 8 (some 79) b14A9 HT_ ?_
       refine pU 9 (some 80) b14A10 HT_ ?_
       refine pU 10 (some 81) b14A11 HT_ ?_
       refine pU 11 (some 82) b14A12 HT_ ?_
       refine pU 12 (some 83) b14A13 HT_ ?_
       refine pU 13 (some 84) b14A14 HT_ ?_
       refine pU 14 (some 85) b14A15 HT_ ?_
       refine pU 15 (some 86) b14A16 HT_ ?_
       refine pU 16 (some 87) b14A17 HT_ ?_
       refine pU 17 (some 88) b14A18 HT_ ?_
       refine pU 18 (some 89) b14A19 HT_ ?_
       refine pI 19 (some 90) b14A20 HT_ ?_
       refine done_ (done_of HT_.out (by kernel_rfl)) ?_
       try go_wp2
       go_ret
       exact ⟨by first | rfl | (simp [errW_none, errW_some] <;> rfl) | (simp [*, errW_none, errW_some] <;> rfl), by repeat (first | (with_reducible first | exact HB.out | apply bA | apply bN | apply b1 | refine bS ?_ GE501.out) | exact HB.out)⟩
      replace c44 := Bool.eq_false_iff.mpr c44
      subst c44
      have H1 : ((impl_HousesOf.f k2 t502 (rd t497 x9_2)).bind fun t519 => ((laws_contains.f k2 t519 t495).bind fun t522 => (if t522 = true then (laws_FnParcels.l0 k2 l0 t502 t509 (wrap64 (x9_2 + 1)) t495 t496 t497 t500) else (some false)))) = some r := by rw [if_neg (show ¬ (false = true) by decide)] at H; exact H
      clear H
      have H := H1
      clear H1
      replace H := Option.bind_eq_some_iff.mp H
      obtain ⟨t519, A480, H⟩ := H
      replace H : ((laws_contains.f k2 t519 t495).bind fun t522 => (if t522 = true then (laws_FnParcels.l0 k2 l0 t502 t509 (wrap64 (x9_2 + 1)) t495 t496 t497 t500) else (some false))) = some r := H
      have A48 := zK A480
      clear A480
      replace H := Option.bind_eq_some_iff.mp H
      obtain ⟨t522, A490, H⟩ := H
      replace H : (if t522 = true then (laws_FnParcels.l0 k2 l0 t502 t509 (wrap64 (x9_2 + 1)) t495 t496 t497 t500) else (some false)) = some r := H
      have A49 := zK A490
      clear A490
      by_cases c50 : t522 = true
      rotate_left
      ·replace c50 := Bool.eq_false_iff.mpr c50
       subst c50
       have H1 : (some false) = some r := by rw [if_neg (show ¬ (false = true) by decide)] at H; exact H
       clear H
       have H := H1
       clear H1
       obtain rfl := Option.some.inj H
       have hcz56_0 : wr.cell? ⟨gb501, 0, none⟩ = some (.int .i64 t495) := (bc BK501.out 0).trans rfl
       have hcz56_1 : wr.cell? ⟨gb501, 1, none⟩ = some (.int .i64 t496) := (bc BK501.out 1).trans rfl
       have hcz56_2 : wr.cell? ⟨gb501, 2, none⟩ = some (.slice Ao10 t497.length co10) := (bc BK501.out 2).trans rfl
       have hcz56_3 : wr.cell? ⟨gb501, 3, none⟩ = some (.int .i64 t500) := (bc BK501.out 3).trans rfl
       have hfz56_0 := bf BK501.out 0
       have hfz56_1 := bf BK501.out 1
       have hfz56_2 := bf BK501.out 2
       have hfz56_3 := bf BK501.out 3
       try go_wp2
       have n0_ := zK (Kd.RD HO_5.out)
       have n1_ := zK (Kd.RD HO_8.out)
       have n2_ := zK (Kd.RD HO_502002.out)
       have n3_ := zK (kD BK501.out)
       have n4_ := zK (b1 HB.out)
       clear HO_5
       clear HO_8
       clear HO_502002
       clear BK501
       clear HB
       have HO_5 := n0_
       have HO_8 := n1_
       have HO_502002 := n2_
       have BK501 := n3_
       have HB := n4_
       clear n0_ n1_ n2_ n3_ n4_
       have p516 : 0 ≤ (x9_2 : Int) := oD (by first | (with_reducible assumption) | assumption)
       have q516 : x9_2 < (t497.length : Int) := oD (by first | (with_reducible assumption) | assumption)
       obtain ⟨ad516, e516, hx516_0⟩ := Kd.at_int (Kd.R_reads' HO_502002.out).2.2 x9_2 p516 q516
       cases e516
       replace p516 := eq_true p516
       replace q516 := eq_true q516
       obtain ⟨Ao58, co58, eo58⟩ := Kd.R_slice HO_8.out
       (first | subst eo58 | (injection eo58 with f1_ f2_ f3_; have f4_ := f1_.symm; have f5_ := f3_.symm; clear f1_ f2_ f3_; subst f4_; subst f5_))
       have p518 : 0 ≤ (x9_2 : Int) := oD (by first | (with_reducible assumption) | assumption)
       have q518 : x9_2 < (t497.length : Int) := oD (by first | (with_reducible assumption) | assumption)
       obtain ⟨ad518, e518, hx518_0⟩ := Kd.at_int (Kd.R_reads' HO_502002.out).2.2 x9_2 p518 q518
       obtain rfl : ad516 = ad518 := (by injection e518)
       replace p518 := eq_true p518
       replace q518 := eq_true q518
       refine start_ (n := 20) (S := fun w' => w'.cell? ⟨gb501, 0, none⟩ = some (.int .i64 t495) ∧ w'.cell? ⟨gb501, 1, none⟩ = some (.int .i64 t496) ∧ w'.cell? ⟨gb501, 2, none⟩ = some (.slice (some ad516) t497.length co10) ∧ w'.cell? ⟨gb501, 3, none⟩ = some (.int .i64 t500) ∧ w'.cell? (ad516.add (x9_2).toNat) = some (.int .i64 (rd t497 x9_2)) ∧ w'.cell? (ad516.add (x9_2).toNat) = some (.int .i64 (rd t497 x9_2))) (ds := []) b14A0 (by kernel_rfl) rfl rfl ⟨(bc BK501.out 0).trans rfl, (bc BK501.out 1).trans rfl, (bc BK501.out 2).trans rfl, (bc BK501.out 3).trans rfl, hx516_0, hx518_0⟩ (fun hHeld => ?_); refine with_tabW laws_FnParcels.tab13 laws_FnParcels.bits13 (fun HT_ HW_ => ?_)
       generalize wr.drew = w57 at HO_5 HO_8 HO_502002 BK501 HB hx516_0 hx518_0 hHeld ⊢
       refine pI 0 (some 71) b14A1 HT_ ?_
       refine pI 1 (some 72) b14A2 HT_ ?_
       refine pI 3 (some 74) b14A3 HT_ ?_
       refine tI 2 (some 73) b14A4 HT_ HW_ hHeld rfl rfl (Or.inl ⟨by rfl, by rintro w' ⟨s0, s1, s2, s3, s4, s5⟩; go_simp; with_reducible rfl⟩) ?_
       refine pI 4 (some 75) b14A5 HT_ ?_
       refine tI 5 (some 76) b14A6 HT_ HW_ hHeld rfl rfl (Or.inl ⟨by rfl, by rintro w' ⟨s0, s1, s2, s3, s4, s5⟩; go_simp; with_reducible rfl⟩) ?_
       refine one_ (i := 6) (N := some 77) b14A7 rfl rfl (one_of HT_.out (by kernel_rfl)) (by decide) (fun K hK => ?_)
       refine goes_ Try.func37 (by kernel_rfl) rfl #[.slice Ao58 t509.length co58, .int .i64 (rd t497 x9_2)] (by rfl) rfl rfl (by (try simp only [List.map_toArray, List.map_cons, List.map_nil]); first | done | rfl | (simp only [List.length_drop, List.length_take]; rfl)) ?_
       with_reducible refine (laws_contains.calls k2 _ _ t509 (rd t497 x9_2) false _ ?side1 ?side2 A43.out).mono ?_
       (case side1 => repeat (first | exact (Kd.R_reads' HO_8.out).2.2 | (with_reducible refine Kd.CA ?_ _) | (with_reducible refine Kd.CN ?_ _) | (with_reducible refine Kd.CD ?_)))
       (case side2 => exact (Kd.R_reads' HO_8.out).2.1)
       rintro e w' ⟨rfl, ⟨nd, rfl⟩⟩
       refine ⟨_, rfl, ?_⟩
       refine hK.out _ _ ⟨(bc BK501.out 0).trans rfl, (bc BK501.out 1).trans rfl, (bc BK501.out 2).trans rfl, (bc BK501.out 3).trans rfl, hHeld.2.2.2.2.1, hHeld.2.2.2.2.2⟩ (fun hHeld => ?_)
       clear hK K
       refine norm_ (a' := ?_) ?_ ?_
       rotate_left
       ·show Act.put _ (some 77) _ = _
        simp only [Act.put, sA, sZ, sS, i64_w, i32_w]
        rfl
       refine pI 7 (some 78) b14A8 HT_ ?_
       refine pI 8 (some 79) b14A9 HT_ ?_
       refine pI 9 (some 80) b14A10 HT_ ?_
       refine pI 11 (some 82) b14A21 HT_ ?_
       refine pI 15 (some 86) b14A22 HT_ ?_
       refine tI 10 (some 81) b14A23 HT_ HW_ hHeld rfl rfl (Or.inl ⟨by rfl, by rintro w' ⟨s0, s1, s2, s3, s4, s5⟩; go_simp; with_reducible rfl⟩) ?_
       refine pI 12 (some 83) b14A24 HT_ ?_
       refine tI 13 (some 84) b14A25 HT_ HW_ hHeld rfl rfl (Or.inl ⟨by rfl, by rintro w' ⟨s0, s1, s2, s3, s4, s5⟩; go_simp; with_reducible rfl⟩) ?_
       refine tI 16 (some 87) b14A26 HT_ HW_ hHeld rfl rfl (Or.inl ⟨by rfl, by rintro w' ⟨s0, s1, s2, s3, s4, s5⟩; go_simp; with_reducible rfl⟩) ?_
       refine one_ (i := 14) (N := some 85) b14A17 rfl rfl (one_of HT_.out (by kernel_rfl)) (by decide) (fun K hK => ?_)
       refine goes_ Try.func38 (by kernel_rfl) rfl #[.slice Ao18 t502.length co18, .int .i64 (rd t497 x9_2)] (by rfl) rfl rfl (by (try simp only [List.map_toArray, List.map_cons, List.map_nil]); first | done | rfl | (simp only [List.length_drop, List.length_take]; rfl)) ?_
       with_reducible refine (impl_HousesOf.calls k2 _ _ t502 (rd t497 x9_2) t519 _ ?side1 ?side2 A48.out).mono ?_
       (case side1 => repeat (first | exact (Kd.R_reads' HO_5.out).2.2 | (with_reducible refine Kd.CA ?_ _) | (with_reducible refine Kd.CN ?_ _) | (with_reducible refine Kd.CD ?_)))
       (case side2 => exact (Kd.R_reads' HO_5.out).2.1)
       rintro e w59 ⟨v520, rfl, ho0, hb⟩
       have HS4_ := (hb.cell (World.block_lt_of_cell? _ _ (hHeld.2.2.2.2.1))).trans (hHeld.2.2.2.2.1)
       have HS5_ := (hb.cell (World.block_lt_of_cell? _ _ (hHeld.2.2.2.2.2))).trans (hHeld.2.2.2.2.2)
       refine ⟨_, rfl, ?_⟩
       have n0_ := zK (Kd.R_below (by (with_reducible repeat (first | apply Kd.RA | apply Kd.RN | apply Kd.RD)); exact HO_5.out) hb)
       have n1_ := zK (Kd.R_elder' (by (with_reducible repeat (first | apply Kd.RA | apply Kd.RN | apply Kd.RD)); exact HO_8.out) (Kd.R_base ho0) hb)
       have n2_ := zK (Kd.R_elder' (by (with_reducible repeat (first | apply Kd.RA | apply Kd.RN | apply Kd.RD)); exact HO_502002.out) (Kd.R_base ho0) hb)
       have n3_ := zK (Kd.R_lower (Kd.R_new' (Kd.R_new' ho0 (Kd.R_lt (by (with_reducible repeat (first | apply Kd.RA | apply Kd.RN | apply Kd.RD)); exact HO_8.out))) (Kd.R_lt (by (with_reducible repeat (first | apply Kd.RA | apply Kd.RN | apply Kd.RD)); exact HO_502002.out))) (bZ (by repeat (first | (with_reducible first | exact HB.out | apply bA | apply bN | apply b1 | refine bS ?_ GE501.out) | exact HB.out))))
       have n4_ := zK (bB (g := gb501) (o := .cells #[.int .i64 t495, .int .i64 t496, .slice (some ad516) t497.length co10, .int .i64 t500] 53 (0, 0)) (by (with_reducible repeat (first | refine kN ?_ _ | refine kD ?_ | refine kA ?_ _)); exact BK501.out) hb)
       have n5_ := zK (bT (by repeat (first | (with_reducible first | exact HB.out | apply bA | apply bN | apply b1 | refine bS ?_ GE501.out) | exact HB.out)) hb)
       clear HO_5
       clear HO_8
       clear HO_502002
       clear BK501
       clear HB
       have HO_5 := n0_
       have HO_8 := n1_
       have HO_502002 := n2_
       have HO521 := n3_
       have BK501 := n4_
       have HB := n5_
       clear n0_ n1_ n2_ n3_ n4_ n5_
       (try clear hb)
       (try clear hb2)
       (try clear hk)
       (try clear hi)
       (try clear ho0)
       obtain ⟨Ao60, co60, eo60⟩ := Kd.R_slice HO521.out
       (first | subst eo60 | (injection eo60 with f1_ f2_ f3_; have f4_ := f1_.symm; have f5_ := f3_.symm; clear f1_ f2_ f3_; subst f4_; subst f5_))
       refine hK.out _ _ ⟨(bc BK501.out 0).trans rfl, (bc BK501.out 1).trans rfl, (bc BK501.out 2).trans rfl, (bc BK501.out 3).trans rfl, HS4_, HS5_⟩ (fun hHeld => ?_)
       clear hK K
       refine norm_ (a' := ?_) ?_ ?_
       rotate_left
       ·show Act.put _ (some 85) _ = _
        simp only [Act.put, sA, sZ, sS, i64_w, i32_w]
        rfl
       refine one_ (i := 17) (N := some 88) b14A18 rfl rfl (one_of HT_.out (by kernel_rfl)) (by decide) (fun K hK => ?_)
       refine goes_ Try.func37 (by kernel_rfl) rfl #[.slice Ao60 t519.length co60, .int .i64 t495] (by rfl) rfl rfl (by (try simp only [List.map_toArray, List.map_cons, List.map_nil]); first | done | rfl | (simp only [List.length_drop, List.length_take]; rfl)) ?_
       with_reducible refine (laws_contains.calls k2 _ _ t519 t495 false _ ?side1 ?side2 A49.out).mono ?_
       (case side1 => repeat (first | exact (Kd.R_reads' HO521.out).2.2 | (with_reducible refine Kd.CA ?_ _) | (with_reducible refine Kd.CN ?_ _) | (with_reducible refine Kd.CD ?_)))
       (case side2 => exact (Kd.R_reads' HO521.out).2.1)
       rintro e w' ⟨rfl, ⟨nd, rfl⟩⟩
       refine ⟨_, rfl, ?_⟩
       refine hK.out _ _ ⟨(bc BK501.out 0).trans rfl, (bc BK501.out 1).trans rfl, (bc BK501.out 2).trans rfl, (bc BK501.out 3).trans rfl, hHeld.2.2.2.2.1, hHeld.2.2.2.2.2⟩ (fun hHeld => ?_)
       clear hK K
       refine norm_ (a' := ?_) ?_ ?_
       rotate_left
       ·show Act.put _ (some 88) _ = _
        simp only [Act.put, sA, sZ, sS, i64_w, i32_w]
        rfl
       refine pI 18 (some 89) b14A19 HT_ ?_
       refine pI 19 (some 90) b14A20 HT_ ?_
       refine done_ (done_of HT_.out (by kernel_rfl)) ?_
       try go_wp2
       go_ret
       exact ⟨by first | rfl | (simp [errW_none, errW_some] <;> rfl) | (simp [*, errW_none, errW_some] <;> rfl), by repeat (first | (with_reducible first | exact HB.out | apply bA | apply bN | apply b1 | refine bS ?_ GE501.out) | exact HB.out)⟩
      subst c50
      have H1 : (laws_FnParcels.l0 k2 l0 t502 t509 (wrap64 (x9_2 + 1)) t495 t496 t497 t500) = some r := by rw [if_pos rfl] at H; exact H
      clear H
      have H := H1
      clear H1
      have H' := zK H
      clear H
      have hcz51_0 : wr.cell? ⟨gb501, 0, none⟩ = some (.int .i64 t495) := (bc BK501.out 0).trans rfl
      have hcz51_1 : wr.cell? ⟨gb501, 1, none⟩ = some (.int .i64 t496) := (bc BK501.out 1).trans rfl
      have hcz51_2 : wr.cell? ⟨gb501, 2, none⟩ = some (.slice Ao10 t497.length co10) := (bc BK501.out 2).trans rfl
      have hcz51_3 : wr.cell? ⟨gb501, 3, none⟩ = some (.int .i64 t500) := (bc BK501.out 3).trans rfl
      have hfz51_0 := bf BK501.out 0
      have hfz51_1 := bf BK501.out 1
      have hfz51_2 := bf BK501.out 2
      have hfz51_3 := bf BK501.out 3
      try go_wp2
      have n0_ := zK (Kd.RD HO_5.out)
      have n1_ := zK (Kd.RD HO_8.out)
      have n2_ := zK (Kd.RD HO_502002.out)
      have n3_ := zK (kD BK501.out)
      have n4_ := zK (b1 HB.out)
      clear HO_5
      clear HO_8
      clear HO_502002
      clear BK501
      clear HB
      have HO_5 := n0_
      have HO_8 := n1_
      have HO_502002 := n2_
      have BK501 := n3_
      have HB := n4_
      clear n0_ n1_ n2_ n3_ n4_
      have p516 : 0 ≤ (x9_2 : Int) := oD (by first | (with_reducible assumption) | assumption)
      have q516 : x9_2 < (t497.length : Int) := oD (by first | (with_reducible assumption) | assumption)
      obtain ⟨ad516, e516, hx516_0⟩ := Kd.at_int (Kd.R_reads' HO_502002.out).2.2 x9_2 p516 q516
      cases e516
      replace p516 := eq_true p516
      replace q516 := eq_true q516
      obtain ⟨Ao53, co53, eo53⟩ := Kd.R_slice HO_8.out
      (first | subst eo53 | (injection eo53 with f1_ f2_ f3_; have f4_ := f1_.symm; have f5_ := f3_.symm; clear f1_ f2_ f3_; subst f4_; subst f5_))
      have p518 : 0 ≤ (x9_2 : Int) := oD (by first | (with_reducible assumption) | assumption)
      have q518 : x9_2 < (t497.length : Int) := oD (by first | (with_reducible assumption) | assumption)
      obtain ⟨ad518, e518, hx518_0⟩ := Kd.at_int (Kd.R_reads' HO_502002.out).2.2 x9_2 p518 q518
      obtain rfl : ad516 = ad518 := (by injection e518)
      replace p518 := eq_true p518
      replace q518 := eq_true q518
      refine start_ (n := 20) (S := fun w' => w'.cell? ⟨gb501, 0, none⟩ = some (.int .i64 t495) ∧ w'.cell? ⟨gb501, 1, none⟩ = some (.int .i64 t496) ∧ w'.cell? ⟨gb501, 2, none⟩ = some (.slice (some ad516) t497.length co10) ∧ w'.cell? ⟨gb501, 3, none⟩ = some (.int .i64 t500) ∧ w'.cell? (ad516.add (x9_2).toNat) = some (.int .i64 (rd t497 x9_2)) ∧ w'.cell? (ad516.add (x9_2).toNat) = some (.int .i64 (rd t497 x9_2))) (ds := []) b14A0 (by kernel_rfl) rfl rfl ⟨(bc BK501.out 0).trans rfl, (bc BK501.out 1).trans rfl, (bc BK501.out 2).trans rfl, (bc BK501.out 3).trans rfl, hx516_0, hx518_0⟩ (fun hHeld => ?_); refine with_tabW laws_FnParcels.tab13 laws_FnParcels.bits13 (fun HT_ HW_ => ?_)
      generalize wr.drew = w52 at HO_5 HO_8 HO_502002 BK501 HB hx516_0 hx518_0 hHeld ⊢
      refine pI 0 (some 71) b14A1 HT_ ?_
      refine pI 1 (some 72) b14A2 HT_ ?_
      refine pI 3 (some 74) b14A3 HT_ ?_
      refine tI 2 (some 73) b14A4 HT_ HW_ hHeld rfl rfl (Or.inl ⟨by rfl, by rintro w' ⟨s0, s1, s2, s3, s4, s5⟩; go_simp; with_reducible rfl⟩) ?_
      refine pI 4 (some 75) b14A5 HT_ ?_
      refine tI 5 (some 76) b14A6 HT_ HW_ hHeld rfl rfl (Or.inl ⟨by rfl, by rintro w' ⟨s0, s1, s2, s3, s4, s5⟩; go_simp; with_reducible rfl⟩) ?_
      refine one_ (i := 6) (N := some 77) b14A7 rfl rfl (one_of HT_.out (by kernel_rfl)) (by decide) (fun K hK => ?_)
      refine goes_ Try.func37 (by kernel_rfl) rfl #[.slice Ao53 t509.length co53, .int .i64 (rd t497 x9_2)] (by rfl) rfl rfl (by (try simp only [List.map_toArray, List.map_cons, List.map_nil]); first | done | rfl | (simp only [List.length_drop, List.length_take]; rfl)) ?_
      with_reducible refine (laws_contains.calls k2 _ _ t509 (rd t497 x9_2) false _ ?side1 ?side2 A43.out).mono ?_
      (case side1 => repeat (first | exact (Kd.R_reads' HO_8.out).2.2 | (with_reducible refine Kd.CA ?_ _) | (with_reducible refine Kd.CN ?_ _) | (with_reducible refine Kd.CD ?_)))
      (case side2 => exact (Kd.R_reads' HO_8.out).2.1)
      rintro e w' ⟨rfl, ⟨nd, rfl⟩⟩
      refine ⟨_, rfl, ?_⟩
      refine hK.out _ _ ⟨(bc BK501.out 0).trans rfl, (bc BK501.out 1).trans rfl, (bc BK501.out 2).trans rfl, (bc BK501.out 3).trans rfl, hHeld.2.2.2.2.1, hHeld.2.2.2.2.2⟩ (fun hHeld => ?_)
      clear hK K
      refine norm_ (a' := ?_) ?_ ?_
      rotate_left
      ·show Act.put _ (some 77) _ = _
       simp only [Act.put, sA, sZ, sS, i64_w, i32_w]
       rfl
      refine pI 7 (some 78) b14A8 HT_ ?_
      refine pI 8 (some 79) b14A9 HT_ ?_
      refine pI 9 (some 80) b14A10 HT_ ?_
      refine pI 11 (some 82) b14A21 HT_ ?_
      refine pI 15 (some 86) b14A22 HT_ ?_
      refine tI 10 (some 81) b14A23 HT_ HW_ hHeld rfl rfl (Or.inl ⟨by rfl, by rintro w' ⟨s0, s1, s2, s3, s4, s5⟩; go_simp; with_reducible rfl⟩) ?_
      refine pI 12 (some 83) b14A24 HT_ ?_
      refine tI 13 (some 84) b14A25 HT_ HW_ hHeld rfl rfl (Or.inl ⟨by rfl, by rintro w' ⟨s0, s1, s2, s3, s4, s5⟩; go_simp; with_reducible rfl⟩) ?_
      refine tI 16 (some 87) b14A26 HT_ HW_ hHeld rfl rfl (Or.inl ⟨by rfl, by rintro w' ⟨s0, s1, s2, s3, s4, s5⟩; go_simp; with_reducible rfl⟩) ?_
      refine one_ (i := 14) (N := some 85) b14A17 rfl rfl (one_of HT_.out (by kernel_rfl)) (by decide) (fun K hK => ?_)
      refine goes_ Try.func38 (by kernel_rfl) rfl #[.slice Ao18 t502.length co18, .int .i64 (rd t497 x9_2)] (by rfl) rfl rfl (by (try simp only [List.map_toArray, List.map_cons, List.map_nil]); first | done | rfl | (simp only [List.length_drop, List.length_take]; rfl)) ?_
      with_reducible refine (impl_HousesOf.calls k2 _ _ t502 (rd t497 x9_2) t519 _ ?side1 ?side2 A48.out).mono ?_
      (case side1 => repeat (first | exact (Kd.R_reads' HO_5.out).2.2 | (with_reducible refine Kd.CA ?_ _) | (with_reducible refine Kd.CN ?_ _) | (with_reducible refine Kd.CD ?_)))
      (case side2 => exact (Kd.R_reads' HO_5.out).2.1)
      rintro e w54 ⟨v520, rfl, ho0, hb⟩
      have HS4_ := (hb.cell (World.block_lt_of_cell? _ _ (hHeld.2.2.2.2.1))).trans (hHeld.2.2.2.2.1)
      have HS5_ := (hb.cell (World.block_lt_of_cell? _ _ (hHeld.2.2.2.2.2))).trans (hHeld.2.2.2.2.2)
      refine ⟨_, rfl, ?_⟩
      have n0_ := zK (Kd.R_below (by (with_reducible repeat (first | apply Kd.RA | apply Kd.RN | apply Kd.RD)); exact HO_5.out) hb)
      have n1_ := zK (Kd.R_elder' (by (with_reducible repeat (first | apply Kd.RA | apply Kd.RN | apply Kd.RD)); exact HO_8.out) (Kd.R_base ho0) hb)
      have n2_ := zK (Kd.R_elder' (by (with_reducible repeat (first | apply Kd.RA | apply Kd.RN | apply Kd.RD)); exact HO_502002.out) (Kd.R_base ho0) hb)
      have n3_ := zK (Kd.R_lower (Kd.R_new' (Kd.R_new' ho0 (Kd.R_lt (by (with_reducible repeat (first | apply Kd.RA | apply Kd.RN | apply Kd.RD)); exact HO_8.out))) (Kd.R_lt (by (with_reducible repeat (first | apply Kd.RA | apply Kd.RN | apply Kd.RD)); exact HO_502002.out))) (bZ (by repeat (first | (with_reducible first | exact HB.out | apply bA | apply bN | apply b1 | refine bS ?_ GE501.out) | exact HB.out))))
      have n4_ := zK (bB (g := gb501) (o := .cells #[.int .i64 t495, .int .i64 t496, .slice (some ad516) t497.length co10, .int .i64 t500] 53 (0, 0)) (by (with_reducible repeat (first | refine kN ?_ _ | refine kD ?_ | refine kA ?_ _)); exact BK501.out) hb)
      have n5_ := zK (bT (by repeat (first | (with_reducible first | exact HB.out | apply bA | apply bN | apply b1 | refine bS ?_ GE501.out) | exact HB.out)) hb)
      clear HO_5
      clear HO_8
      clear HO_502002
      clear BK501
      clear HB
      have HO_5 := n0_
      have HO_8 := n1_
      have HO_502002 := n2_
      have HO521 := n3_
      have BK501 := n4_
      have HB := n5_
      clear n0_ n1_ n2_ n3_ n4_ n5_
      (try clear hb)
      (try clear hb2)
      (try clear hk)
      (try clear hi)
      (try clear ho0)
      obtain ⟨Ao55, co55, eo55⟩ := Kd.R_slice HO521.out
      (first | subst eo55 | (injection eo55 with f1_ f2_ f3_; have f4_ := f1_.symm; have f5_ := f3_.symm; clear f1_ f2_ f3_; subst f4_; subst f5_))
      refine hK.out _ _ ⟨(bc BK501.out 0).trans rfl, (bc BK501.out 1).trans rfl, (bc BK501.out 2).trans rfl, (bc BK501.out 3).trans rfl, HS4_, HS5_⟩ (fun hHeld => ?_)
      clear hK K
      refine norm_ (a' := ?_) ?_ ?_
      rotate_left
      ·show Act.put _ (some 85) _ = _
       simp only [Act.put, sA, sZ, sS, i64_w, i32_w]
       rfl
      refine one_ (i := 17) (N := some 88) b14A18 rfl rfl (one_of HT_.out (by kernel_rfl)) (by decide) (fun K hK => ?_)
      refine goes_ Try.func37 (by kernel_rfl) rfl #[.slice Ao55 t519.length co55, .int .i64 t495] (by rfl) rfl rfl (by (try simp only [List.map_toArray, List.map_cons, List.map_nil]); first | done | rfl | (simp only [List.length_drop, List.length_take]; rfl)) ?_
      with_reducible refine (laws_contains.calls k2 _ _ t519 t495 true _ ?side1 ?side2 A49.out).mono ?_
      (case side1 => repeat (first | exact (Kd.R_reads' HO521.out).2.2 | (with_reducible refine Kd.CA ?_ _) | (with_reducible refine Kd.CN ?_ _) | (with_reducible refine Kd.CD ?_)))
      (case side2 => exact (Kd.R_reads' HO521.out).2.1)
      rintro e w' ⟨rfl, ⟨nd, rfl⟩⟩
      refine ⟨_, rfl, ?_⟩
      refine hK.out _ _ ⟨(bc BK501.out 0).trans rfl, (bc BK501.out 1).trans rfl, (bc BK501.out 2).trans rfl, (bc BK501.out 3).trans rfl, hHeld.2.2.2.2.1, hHeld.2.2.2.2.2⟩ (fun hHeld => ?_)
      clear hK K
      refine norm_ (a' := ?_) ?_ ?_
      rotate_left
      ·show Act.put _ (some 88) _ = _
       simp only [Act.put, sA, sZ, sS, i64_w, i32_w]
       rfl
      refine pI 18 (some 89) b14A19 HT_ ?_
      refine pI 19 (some 90) b14A20 HT_ ?_
      refine done_ (done_of HT_.out (by kernel_rfl)) ?_
      try go_wp2
      go_roundg k2
      case measure => have := HJ15.out; have := HK2.out; omega
      case rel => exact ⟨(wrap64 (x9_2 + 1)), (by first | rfl | (simp; done) | (simp [*]; done)), H', ⟨by have := HJ15.out; have := HK2.out; omega⟩, ⟨by (with_reducible repeat (first | apply Kd.RA | apply Kd.RN | apply Kd.RD)); exact HO_5.out⟩, ⟨by (with_reducible repeat (first | apply Kd.RA | apply Kd.RN | apply Kd.RD)); exact Kd.R_mono HO_8.out (fun _ hk => hk.1)⟩, ⟨by (with_reducible repeat (first | apply Kd.RA | apply Kd.RN | apply Kd.RD)); exact Kd.R_mono HO_502002.out (fun _ hk => hk.1)⟩, ⟨by (with_reducible repeat (first | refine kN ?_ _ | refine kD ?_ | refine kA ?_ _)); exact BK501.out⟩, ⟨by repeat (first | (with_reducible first | exact HB.out | apply bA | apply bN | apply b1 | refine bS ?_ GE501.out) | exact HB.out)⟩⟩
 case rest =>
  clear HC6
  try clear c1
  try clear p2
  try clear c3
  try clear c4
  try clear c5
  try clear p5
  try clear q5
  try clear hx5
  try clear c6
  try clear p6
  try clear c13
  try clear c37
  try clear c38
  try clear c41
  try clear c41b0
  try clear c42
  try clear c44
  try clear c50
  try clear p51
  try clear q51
  try clear hx51
  try clear c62
  try clear c62b0
  try clear c62b1
  try clear c62b2
  try clear p64
  try clear hcz51_0
  try clear hcz51_1
  try clear hcz51_2
  try clear hcz51_3
  try clear hcz56_0
  try clear hcz56_1
  try clear hcz56_2
  try clear hcz56_3
  try clear hcz61_0
  try clear hcz61_1
  try clear hcz61_2
  try clear hcz61_3
  try clear hfz51_0
  try clear hfz51_1
  try clear hfz51_2
  try clear hfz51_3
  try clear hfz56_0
  try clear hfz56_1
  try clear hfz56_2
  try clear hfz56_3
  try clear hfz61_0
  try clear hfz61_1
  try clear hfz61_2
  try clear hfz61_3
  try clear hx516_0
  try clear hx518_0
  try clear p516
  try clear p518
  try clear q516
  try clear q518
  obtain ⟨kq, HA, HJ5, HO_502002, BK501, HB⟩ := hcut
  cases kq with
  | zero => exact absurd HA.out (by simp [laws_FnParcels.j2])
  | succ kj5 =>
   have H := HA.out
   clear HA
   simp only [laws_FnParcels.j2] at H
   replace H := Option.bind_eq_some_iff.mp H
   obtain ⟨⟨t523, t524⟩, A650, H⟩ := H
   replace H : ((impl_SendAll.f kj5 t523 t524).bind fun bt529 => (if bt529.2 ≥ 0 then (if bt529.2 ≤ (t524.length : Int) then (if (bt529.1.length : Int) ≥ (t523.length : Int) then ((impl_IsChain.f kj5 bt529.1).bind fun t533 => ((impl_IsChain.f kj5 t523).bind fun t534 => (some (t533 == t534)))) else (some false)) else (some false)) else (some false))) = some r := H
   have A65 := zK A650
   clear A650
   replace H := Option.bind_eq_some_iff.mp H
   obtain ⟨⟨t529, t530⟩, A660, H⟩ := H
   replace H : (if t530 ≥ 0 then (if t530 ≤ (t524.length : Int) then (if (t529.length : Int) ≥ (t523.length : Int) then ((impl_IsChain.f kj5 t529).bind fun t533 => ((impl_IsChain.f kj5 t523).bind fun t534 => (some (t533 == t534)))) else (some false)) else (some false)) else (some false)) = some r := H
   have A66 := zK A660
   clear A660
   by_cases c67 : t530 ≥ 0
   rotate_left
   ·rw [if_neg c67] at H
    have c67b0 : decide (0 ≤ t530) = false := decide_eq_false c67
    clear c67
    obtain rfl := Option.some.inj H
    go_wp2_with (first | ((with_reducible refine gate_callee (f := 39) rfl ?_); refine goesL_ (some 98) rfl rfl Try.func39 (by kernel_rfl) rfl #[.slice A0 l0.length c0] rfl (by (try simp only [List.map_toArray, List.map_cons, List.map_nil]); first | done | rfl | (simp only [List.length_drop, List.length_take]; rfl)) ?_; (with_reducible refine (spec_DrawSendAll.calls kj5 _ _ l0 t523 t524 _ ?side1 ?side2 A65.out).mono ?_); (case side1 => repeat (first | exact (Kd.C_below HR0.out HB.out) | (with_reducible refine Kd.CA ?_ _) | (with_reducible refine Kd.CN ?_ _) | (with_reducible refine Kd.CD ?_))); (case side2 => exact HC0.out); rintro e w88 ⟨v525, v527, rfl, ho0, ho1, hb⟩; refine ⟨_, rfl, ?_⟩; have n0_ := zK (Kd.R_below (by (with_reducible repeat (first | apply Kd.RA | apply Kd.RN | apply Kd.RD)); exact HO_502002.out) hb); have n1_ := zK (Kd.R_lower ho0 (bZ (by repeat (first | (with_reducible first | exact HB.out | apply bA | apply bN | apply b1 | refine bS ?_ GE501.out) | exact HB.out)))); have n2_ := zK (Kd.S_lower (Kd.S_newB (Kd.S_new' ho1 (Kd.R_lt (by (with_reducible repeat (first | apply Kd.RA | apply Kd.RN | apply Kd.RD)); exact HO_502002.out))) (g := gb501) (o := .cells #[.int .i64 t495, .int .i64 t496, .slice Ao10 t497.length co10, .int .i64 t500] 53 (0, 0)) (by (with_reducible repeat (first | refine kN ?_ _ | refine kD ?_ | refine kA ?_ _)); exact BK501.out)) (bZ (by repeat (first | (with_reducible first | exact HB.out | apply bA | apply bN | apply b1 | refine bS ?_ GE501.out) | exact HB.out)))); have n3_ := zK (bB (g := gb501) (o := .cells #[.int .i64 t495, .int .i64 t496, .slice Ao10 t497.length co10, .int .i64 t500] 53 (0, 0)) (by (with_reducible repeat (first | refine kN ?_ _ | refine kD ?_ | refine kA ?_ _)); exact BK501.out) hb); have n4_ := zK (bT (by repeat (first | (with_reducible first | exact HB.out | apply bA | apply bN | apply b1 | refine bS ?_ GE501.out) | exact HB.out)) hb); clear HO_502002; clear BK501; clear HB; have HO_502002 := n0_; have HO526 := n1_; have HO528 := n2_; have BK501 := n3_; have HB := n4_; clear n0_ n1_ n2_ n3_ n4_; (try clear hb); (try clear hb2); (try clear hk); (try clear hi); (try clear ho0); (try clear ho1); obtain ⟨Ao89, co89, eo89⟩ := Kd.R_slice HO526.out; subst eo89; obtain ⟨Ao90, co90, eo90⟩ := Kd.S_slice HO528.out; subst eo90) | ((with_reducible refine gate_callee (f := 40) rfl ?_); refine goesL_ (some 104) rfl rfl Try.func40 (by kernel_rfl) rfl #[.slice Ao89 t523.length co89, .slice Ao90 t524.length co90] rfl (by (try simp only [List.map_toArray, List.map_cons, List.map_nil]); first | done | rfl | (simp only [List.length_drop, List.length_take]; rfl)) ?_; (with_reducible refine (impl_SendAll.calls kj5 _ _ t523 _ _ t524 t529 t530 _ ?side1 ?side2 ?side3 ?side4 A66.out).mono ?_); (case side1 => repeat (first | exact (Kd.R_reads' HO526.out).2.2 | (with_reducible refine Kd.CA ?_ _) | (with_reducible refine Kd.CN ?_ _) | (with_reducible refine Kd.CD ?_))); (case side2 => exact (Kd.R_reads' HO526.out).2.1); (case side3 => repeat (first | exact (Kd.S_reads' HO528.out).2.2 | (with_reducible refine Kd.CA ?_ _) | (with_reducible refine Kd.CN ?_ _) | (with_reducible refine Kd.CD ?_))); (case side4 => exact (Kd.S_reads' HO528.out).2.1); rintro e w91 ⟨v531, rfl, ho0, hb⟩; refine ⟨_, rfl, ?_⟩; have n0_ := zK (Kd.R_below (by (with_reducible repeat (first | apply Kd.RA | apply Kd.RN | apply Kd.RD)); exact HO_502002.out) hb); have n1_ := zK (Kd.R_elder' (by (with_reducible repeat (first | apply Kd.RA | apply Kd.RN | apply Kd.RD)); exact HO526.out) (Kd.R_base ho0) hb); have n2_ := zK (Kd.S_below (by (with_reducible repeat (first | apply Kd.S_alloc | apply Kd.S_drewN | apply Kd.S_drew)); exact HO528.out) hb); have n3_ := zK (Kd.R_lower (Kd.R_new' ho0 (Kd.R_lt (by (with_reducible repeat (first | apply Kd.RA | apply Kd.RN | apply Kd.RD)); exact HO526.out))) (bZ (by repeat (first | (with_reducible first | exact HB.out | apply bA | apply bN | apply b1 | refine bS ?_ GE501.out) | exact HB.out)))); have n4_ := zK (bB (g := gb501) (o := .cells #[.int .i64 t495, .int .i64 t496, .slice Ao10 t497.length co10, .int .i64 t500] 53 (0, 0)) (by (with_reducible repeat (first | refine kN ?_ _ | refine kD ?_ | refine kA ?_ _)); exact BK501.out) hb); have n5_ := zK (bT (by repeat (first | (with_reducible first | exact HB.out | apply bA | apply bN | apply b1 | refine bS ?_ GE501.out) | exact HB.out)) hb); clear HO_502002; clear HO526; clear HO528; clear BK501; clear HB; have HO_502002 := n0_; have HO526 := n1_; have HO528 := n2_; have HO532 := n3_; have BK501 := n4_; have HB := n5_; clear n0_ n1_ n2_ n3_ n4_ n5_; (try clear hb); (try clear hb2); (try clear hk); (try clear hi); (try clear ho0)))
    go_ret
    exact ⟨by first | rfl | (simp [errW_none, errW_some] <;> rfl) | (simp [*, errW_none, errW_some] <;> rfl), by repeat (first | (with_reducible first | exact HB.out | apply bA | apply bN | apply b1 | refine bS ?_ GE501.out) | exact HB.out)⟩

   rw [if_pos c67] at H
   have c67b0 : decide (0 ≤ t530) = true := decide_eq_true c67
   clear c67
   by_cases c68 : t530 ≤ (t524.length : Int)
   rotate_left
   ·rw [if_neg c68] at H
    have c68b0 : decide (t530 ≤ (t524.length : Int)) = false := decide_eq_false c68
    clear c68
    obtain rfl := Option.some.inj H
    go_wp2_with (first | ((with_reducible refine gate_callee (f := 39) rfl ?_); refine goesL_ (some 98) rfl rfl Try.func39 (by kernel_rfl) rfl #[.slice A0 l0.length c0] rfl (by (try simp only [List.map_toArray, List.map_cons, List.map_nil]); first | done | rfl | (simp only [List.length_drop, List.length_take]; rfl)) ?_; (with_reducible refine (spec_DrawSendAll.calls kj5 _ _ l0 t523 t524 _ ?side1 ?side2 A65.out).mono ?_); (case side1 => repeat (first | exact (Kd.C_below HR0.out HB.out) | (with_reducible refine Kd.CA ?_ _) | (with_reducible refine Kd.CN ?_ _) | (with_reducible refine Kd.CD ?_))); (case side2 => exact HC0.out); rintro e w84 ⟨v525, v527, rfl, ho0, ho1, hb⟩; refine ⟨_, rfl, ?_⟩; have n0_ := zK (Kd.R_below (by (with_reducible repeat (first | apply Kd.RA | apply Kd.RN | apply Kd.RD)); exact HO_502002.out) hb); have n1_ := zK (Kd.R_lower ho0 (bZ (by repeat (first | (with_reducible first | exact HB.out | apply bA | apply bN | apply b1 | refine bS ?_ GE501.out) | exact HB.out)))); have n2_ := zK (Kd.S_lower (Kd.S_newB (Kd.S_new' ho1 (Kd.R_lt (by (with_reducible repeat (first | apply Kd.RA | apply Kd.RN | apply Kd.RD)); exact HO_502002.out))) (g := gb501) (o := .cells #[.int .i64 t495, .int .i64 t496, .slice Ao10 t497.length co10, .int .i64 t500] 53 (0, 0)) (by (with_reducible repeat (first | refine kN ?_ _ | refine kD ?_ | refine kA ?_ _)); exact BK501.out)) (bZ (by repeat (first | (with_reducible first | exact HB.out | apply bA | apply bN | apply b1 | refine bS ?_ GE501.out) | exact HB.out)))); have n3_ := zK (bB (g := gb501) (o := .cells #[.int .i64 t495, .int .i64 t496, .slice Ao10 t497.length co10, .int .i64 t500] 53 (0, 0)) (by (with_reducible repeat (first | refine kN ?_ _ | refine kD ?_ | refine kA ?_ _)); exact BK501.out) hb); have n4_ := zK (bT (by repeat (first | (with_reducible first | exact HB.out | apply bA | apply bN | apply b1 | refine bS ?_ GE501.out) | exact HB.out)) hb); clear HO_502002; clear BK501; clear HB; have HO_502002 := n0_; have HO526 := n1_; have HO528 := n2_; have BK501 := n3_; have HB := n4_; clear n0_ n1_ n2_ n3_ n4_; (try clear hb); (try clear hb2); (try clear hk); (try clear hi); (try clear ho0); (try clear ho1); obtain ⟨Ao85, co85, eo85⟩ := Kd.R_slice HO526.out; subst eo85; obtain ⟨Ao86, co86, eo86⟩ := Kd.S_slice HO528.out; subst eo86) | ((with_reducible refine gate_callee (f := 40) rfl ?_); refine goesL_ (some 104) rfl rfl Try.func40 (by kernel_rfl) rfl #[.slice Ao85 t523.length co85, .slice Ao86 t524.length co86] rfl (by (try simp only [List.map_toArray, List.map_cons, List.map_nil]); first | done | rfl | (simp only [List.length_drop, List.length_take]; rfl)) ?_; (with_reducible refine (impl_SendAll.calls kj5 _ _ t523 _ _ t524 t529 t530 _ ?side1 ?side2 ?side3 ?side4 A66.out).mono ?_); (case side1 => repeat (first | exact (Kd.R_reads' HO526.out).2.2 | (with_reducible refine Kd.CA ?_ _) | (with_reducible refine Kd.CN ?_ _) | (with_reducible refine Kd.CD ?_))); (case side2 => exact (Kd.R_reads' HO526.out).2.1); (case side3 => repeat (first | exact (Kd.S_reads' HO528.out).2.2 | (with_reducible refine Kd.CA ?_ _) | (with_reducible refine Kd.CN ?_ _) | (with_reducible refine Kd.CD ?_))); (case side4 => exact (Kd.S_reads' HO528.out).2.1); rintro e w87 ⟨v531, rfl, ho0, hb⟩; refine ⟨_, rfl, ?_⟩; have n0_ := zK (Kd.R_below (by (with_reducible repeat (first | apply Kd.RA | apply Kd.RN | apply Kd.RD)); exact HO_502002.out) hb); have n1_ := zK (Kd.R_elder' (by (with_reducible repeat (first | apply Kd.RA | apply Kd.RN | apply Kd.RD)); exact HO526.out) (Kd.R_base ho0) hb); have n2_ := zK (Kd.S_below (by (with_reducible repeat (first | apply Kd.S_alloc | apply Kd.S_drewN | apply Kd.S_drew)); exact HO528.out) hb); have n3_ := zK (Kd.R_lower (Kd.R_new' ho0 (Kd.R_lt (by (with_reducible repeat (first | apply Kd.RA | apply Kd.RN | apply Kd.RD)); exact HO526.out))) (bZ (by repeat (first | (with_reducible first | exact HB.out | apply bA | apply bN | apply b1 | refine bS ?_ GE501.out) | exact HB.out)))); have n4_ := zK (bB (g := gb501) (o := .cells #[.int .i64 t495, .int .i64 t496, .slice Ao10 t497.length co10, .int .i64 t500] 53 (0, 0)) (by (with_reducible repeat (first | refine kN ?_ _ | refine kD ?_ | refine kA ?_ _)); exact BK501.out) hb); have n5_ := zK (bT (by repeat (first | (with_reducible first | exact HB.out | apply bA | apply bN | apply b1 | refine bS ?_ GE501.out) | exact HB.out)) hb); clear HO_502002; clear HO526; clear HO528; clear BK501; clear HB; have HO_502002 := n0_; have HO526 := n1_; have HO528 := n2_; have HO532 := n3_; have BK501 := n4_; have HB := n5_; clear n0_ n1_ n2_ n3_ n4_ n5_; (try clear hb); (try clear hb2); (try clear hk); (try clear hi); (try clear ho0)))
    go_ret
    exact ⟨by first | rfl | (simp [errW_none, errW_some] <;> rfl) | (simp [*, errW_none, errW_some] <;> rfl), by repeat (first | (with_reducible first | exact HB.out | apply bA | apply bN | apply b1 | refine bS ?_ GE501.out) | exact HB.out)⟩
   rw [if_pos c68] at H
   have c68b0 : decide (t530 ≤ (t524.length : Int)) = true := decide_eq_true c68
   clear c68
   by_cases c69 : (t529.length : Int) ≥ (t523.length : Int)
   rotate_left
   ·rw [if_neg c69] at H
    have c69b0 : decide ((t523.length : Int) ≤ (t529.length : Int)) = false := decide_eq_false c69
    have c69b1 : decide (t523.length ≤ t529.length) = false := decide_eq_false (fun h => c69 (Int.ofNat_le.mpr h))
    clear c69
    obtain rfl := Option.some.inj H
    go_wp2_with (first | ((with_reducible refine gate_callee (f := 39) rfl ?_); refine goesL_ (some 98) rfl rfl Try.func39 (by kernel_rfl) rfl #[.slice A0 l0.length c0] rfl (by (try simp only [List.map_toArray, List.map_cons, List.map_nil]); first | done | rfl | (simp only [List.length_drop, List.length_take]; rfl)) ?_; (with_reducible refine (spec_DrawSendAll.calls kj5 _ _ l0 t523 t524 _ ?side1 ?side2 A65.out).mono ?_); (case side1 => repeat (first | exact (Kd.C_below HR0.out HB.out) | (with_reducible refine Kd.CA ?_ _) | (with_reducible refine Kd.CN ?_ _) | (with_reducible refine Kd.CD ?_))); (case side2 => exact HC0.out); rintro e w79 ⟨v525, v527, rfl, ho0, ho1, hb⟩; refine ⟨_, rfl, ?_⟩; have n0_ := zK (Kd.R_below (by (with_reducible repeat (first | apply Kd.RA | apply Kd.RN | apply Kd.RD)); exact HO_502002.out) hb); have n1_ := zK (Kd.R_lower ho0 (bZ (by repeat (first | (with_reducible first | exact HB.out | apply bA | apply bN | apply b1 | refine bS ?_ GE501.out) | exact HB.out)))); have n2_ := zK (Kd.S_lower (Kd.S_newB (Kd.S_new' ho1 (Kd.R_lt (by (with_reducible repeat (first | apply Kd.RA | apply Kd.RN | apply Kd.RD)); exact HO_502002.out))) (g := gb501) (o := .cells #[.int .i64 t495, .int .i64 t496, .slice Ao10 t497.length co10, .int .i64 t500] 53 (0, 0)) (by (with_reducible repeat (first | refine kN ?_ _ | refine kD ?_ | refine kA ?_ _)); exact BK501.out)) (bZ (by repeat (first | (with_reducible first | exact HB.out | apply bA | apply bN | apply b1 | refine bS ?_ GE501.out) | exact HB.out)))); have n3_ := zK (bB (g := gb501) (o := .cells #[.int .i64 t495, .int .i64 t496, .slice Ao10 t497.length co10, .int .i64 t500] 53 (0, 0)) (by (with_reducible repeat (first | refine kN ?_ _ | refine kD ?_ | refine kA ?_ _)); exact BK501.out) hb); have n4_ := zK (bT (by repeat (first | (with_reducible first | exact HB.out | apply bA | apply bN | apply b1 | refine bS ?_ GE501.out) | exact HB.out)) hb); clear HO_502002; clear BK501; clear HB; have HO_502002 := n0_; have HO526 := n1_; have HO528 := n2_; have BK501 := n3_; have HB := n4_; clear n0_ n1_ n2_ n3_ n4_; (try clear hb); (try clear hb2); (try clear hk); (try clear hi); (try clear ho0); (try clear ho1); obtain ⟨Ao80, co80, eo80⟩ := Kd.R_slice HO526.out; subst eo80; obtain ⟨Ao81, co81, eo81⟩ := Kd.S_slice HO528.out; subst eo81) | ((with_reducible refine gate_callee (f := 40) rfl ?_); refine goesL_ (some 104) rfl rfl Try.func40 (by kernel_rfl) rfl #[.slice Ao80 t523.length co80, .slice Ao81 t524.length co81] rfl (by (try simp only [List.map_toArray, List.map_cons, List.map_nil]); first | done | rfl | (simp only [List.length_drop, List.length_take]; rfl)) ?_; (with_reducible refine (impl_SendAll.calls kj5 _ _ t523 _ _ t524 t529 t530 _ ?side1 ?side2 ?side3 ?side4 A66.out).mono ?_); (case side1 => repeat (first | exact (Kd.R_reads' HO526.out).2.2 | (with_reducible refine Kd.CA ?_ _) | (with_reducible refine Kd.CN ?_ _) | (with_reducible refine Kd.CD ?_))); (case side2 => exact (Kd.R_reads' HO526.out).2.1); (case side3 => repeat (first | exact (Kd.S_reads' HO528.out).2.2 | (with_reducible refine Kd.CA ?_ _) | (with_reducible refine Kd.CN ?_ _) | (with_reducible refine Kd.CD ?_))); (case side4 => exact (Kd.S_reads' HO528.out).2.1); rintro e w82 ⟨v531, rfl, ho0, hb⟩; refine ⟨_, rfl, ?_⟩; have n0_ := zK (Kd.R_below (by (with_reducible repeat (first | apply Kd.RA | apply Kd.RN | apply Kd.RD)); exact HO_502002.out) hb); have n1_ := zK (Kd.R_elder' (by (with_reducible repeat (first | apply Kd.RA | apply Kd.RN | apply Kd.RD)); exact HO526.out) (Kd.R_base ho0) hb); have n2_ := zK (Kd.S_below (by (with_reducible repeat (first | apply Kd.S_alloc | apply Kd.S_drewN | apply Kd.S_drew)); exact HO528.out) hb); have n3_ := zK (Kd.R_lower (Kd.R_new' ho0 (Kd.R_lt (by (with_reducible repeat (first | apply Kd.RA | apply Kd.RN | apply Kd.RD)); exact HO526.out))) (bZ (by repeat (first | (with_reducible first | exact HB.out | apply bA | apply bN | apply b1 | refine bS ?_ GE501.out) | exact HB.out)))); have n4_ := zK (bB (g := gb501) (o := .cells #[.int .i64 t495, .int .i64 t496, .slice Ao10 t497.length co10, .int .i64 t500] 53 (0, 0)) (by (with_reducible repeat (first | refine kN ?_ _ | refine kD ?_ | refine kA ?_ _)); exact BK501.out) hb); have n5_ := zK (bT (by repeat (first | (with_reducible first | exact HB.out | apply bA | apply bN | apply b1 | refine bS ?_ GE501.out) | exact HB.out)) hb); clear HO_502002; clear HO526; clear HO528; clear BK501; clear HB; have HO_502002 := n0_; have HO526 := n1_; have HO528 := n2_; have HO532 := n3_; have BK501 := n4_; have HB := n5_; clear n0_ n1_ n2_ n3_ n4_ n5_; (try clear hb); (try clear hb2); (try clear hk); (try clear hi); (try clear ho0); obtain ⟨Ao83, co83, eo83⟩ := Kd.R_slice HO532.out; subst eo83))
    go_ret
    exact ⟨by first | rfl | (simp [errW_none, errW_some] <;> rfl) | (simp [*, errW_none, errW_some] <;> rfl), by repeat (first | (with_reducible first | exact HB.out | apply bA | apply bN | apply b1 | refine bS ?_ GE501.out) | exact HB.out)⟩
   rw [if_pos c69] at H
   have c69b0 : decide ((t523.length : Int) ≤ (t529.length : Int)) = true := decide_eq_true c69
   have c69b1 : decide (t523.length ≤ t529.length) = true := decide_eq_true (Int.ofNat_le.mp c69)
   clear c69
   replace H := Option.bind_eq_some_iff.mp H
   obtain ⟨t533, A700, H⟩ := H
   replace H : ((impl_IsChain.f kj5 t523).bind fun t534 => (some (t533 == t534))) = some r := H
   have A70 := zK A700
   clear A700
   replace H := Option.bind_eq_some_iff.mp H
   obtain ⟨t534, A710, H⟩ := H
   replace H : (some (t533 == t534)) = some r := H
   have A71 := zK A710
   clear A710
   obtain rfl := Option.some.inj H
   go_wp2_with (first | ((with_reducible refine gate_callee (f := 39) rfl ?_); refine goesL_ (some 98) rfl rfl Try.func39 (by kernel_rfl) rfl #[.slice A0 l0.length c0] rfl (by (try simp only [List.map_toArray, List.map_cons, List.map_nil]); first | done | rfl | (simp only [List.length_drop, List.length_take]; rfl)) ?_; (with_reducible refine (spec_DrawSendAll.calls kj5 _ _ l0 t523 t524 _ ?side1 ?side2 A65.out).mono ?_); (case side1 => repeat (first | exact (Kd.C_below HR0.out HB.out) | (with_reducible refine Kd.CA ?_ _) | (with_reducible refine Kd.CN ?_ _) | (with_reducible refine Kd.CD ?_))); (case side2 => exact HC0.out); rintro e w72 ⟨v525, v527, rfl, ho0, ho1, hb⟩; refine ⟨_, rfl, ?_⟩; have n0_ := zK (Kd.R_below (by (with_reducible repeat (first | apply Kd.RA | apply Kd.RN | apply Kd.RD)); exact HO_502002.out) hb); have n1_ := zK (Kd.R_lower ho0 (bZ (by repeat (first | (with_reducible first | exact HB.out | apply bA | apply bN | apply b1 | refine bS ?_ GE501.out) | exact HB.out)))); have n2_ := zK (Kd.S_lower (Kd.S_newB (Kd.S_new' ho1 (Kd.R_lt (by (with_reducible repeat (first | apply Kd.RA | apply Kd.RN | apply Kd.RD)); exact HO_502002.out))) (g := gb501) (o := .cells #[.int .i64 t495, .int .i64 t496, .slice Ao10 t497.length co10, .int .i64 t500] 53 (0, 0)) (by (with_reducible repeat (first | refine kN ?_ _ | refine kD ?_ | refine kA ?_ _)); exact BK501.out)) (bZ (by repeat (first | (with_reducible first | exact HB.out | apply bA | apply bN | apply b1 | refine bS ?_ GE501.out) | exact HB.out)))); have n3_ := zK (bB (g := gb501) (o := .cells #[.int .i64 t495, .int .i64 t496, .slice Ao10 t497.length co10, .int .i64 t500] 53 (0, 0)) (by (with_reducible repeat (first | refine kN ?_ _ | refine kD ?_ | refine kA ?_ _)); exact BK501.out) hb); have n4_ := zK (bT (by repeat (first | (with_reducible first | exact HB.out | apply bA | apply bN | apply b1 | refine bS ?_ GE501.out) | exact HB.out)) hb); clear HO_502002; clear BK501; clear HB; have HO_502002 := n0_; have HO526 := n1_; have HO528 := n2_; have BK501 := n3_; have HB := n4_; clear n0_ n1_ n2_ n3_ n4_; (try clear hb); (try clear hb2); (try clear hk); (try clear hi); (try clear ho0); (try clear ho1); obtain ⟨Ao73, co73, eo73⟩ := Kd.R_slice HO526.out; subst eo73; obtain ⟨Ao74, co74, eo74⟩ := Kd.S_slice HO528.out; subst eo74) | ((with_reducible refine gate_callee (f := 40) rfl ?_); refine goesL_ (some 104) rfl rfl Try.func40 (by kernel_rfl) rfl #[.slice Ao73 t523.length co73, .slice Ao74 t524.length co74] rfl (by (try simp only [List.map_toArray, List.map_cons, List.map_nil]); first | done | rfl | (simp only [List.length_drop, List.length_take]; rfl)) ?_; (with_reducible refine (impl_SendAll.calls kj5 _ _ t523 _ _ t524 t529 t530 _ ?side1 ?side2 ?side3 ?side4 A66.out).mono ?_); (case side1 => repeat (first | exact (Kd.R_reads' HO526.out).2.2 | (with_reducible refine Kd.CA ?_ _) | (with_reducible refine Kd.CN ?_ _) | (with_reducible refine Kd.CD ?_))); (case side2 => exact (Kd.R_reads' HO526.out).2.1); (case side3 => repeat (first | exact (Kd.S_reads' HO528.out).2.2 | (with_reducible refine Kd.CA ?_ _) | (with_reducible refine Kd.CN ?_ _) | (with_reducible refine Kd.CD ?_))); (case side4 => exact (Kd.S_reads' HO528.out).2.1); rintro e w75 ⟨v531, rfl, ho0, hb⟩; refine ⟨_, rfl, ?_⟩; have n0_ := zK (Kd.R_below (by (with_reducible repeat (first | apply Kd.RA | apply Kd.RN | apply Kd.RD)); exact HO_502002.out) hb); have n1_ := zK (Kd.R_elder' (by (with_reducible repeat (first | apply Kd.RA | apply Kd.RN | apply Kd.RD)); exact HO526.out) (Kd.R_base ho0) hb); have n2_ := zK (Kd.S_below (by (with_reducible repeat (first | apply Kd.S_alloc | apply Kd.S_drewN | apply Kd.S_drew)); exact HO528.out) hb); have n3_ := zK (Kd.R_lower (Kd.R_new' ho0 (Kd.R_lt (by (with_reducible repeat (first | apply Kd.RA | apply Kd.RN | apply Kd.RD)); exact HO526.out))) (bZ (by repeat (first | (with_reducible first | exact HB.out | apply bA | apply bN | apply b1 | refine bS ?_ GE501.out) | exact HB.out)))); have n4_ := zK (bB (g := gb501) (o := .cells #[.int .i64 t495, .int .i64 t496, .slice Ao10 t497.length co10, .int .i64 t500] 53 (0, 0)) (by (with_reducible repeat (first | refine kN ?_ _ | refine kD ?_ | refine kA ?_ _)); exact BK501.out) hb); have n5_ := zK (bT (by repeat (first | (with_reducible first | exact HB.out | apply bA | apply bN | apply b1 | refine bS ?_ GE501.out) | exact HB.out)) hb); clear HO_502002; clear HO526; clear HO528; clear BK501; clear HB; have HO_502002 := n0_; have HO526 := n1_; have HO528 := n2_; have HO532 := n3_; have BK501 := n4_; have HB := n5_; clear n0_ n1_ n2_ n3_ n4_ n5_; (try clear hb); (try clear hb2); (try clear hk); (try clear hi); (try clear ho0); obtain ⟨Ao76, co76, eo76⟩ := Kd.R_slice HO532.out; subst eo76) | (go_at_call 34; (with_reducible refine (impl_IsChain.calls kj5 _ _ t529 t533 _ ?side1 ?side2 A70.out).mono ?_); (case side1 => repeat (first | exact (Kd.R_reads' HO532.out).2.2 | (with_reducible refine Kd.CA ?_ _) | (with_reducible refine Kd.CN ?_ _) | (with_reducible refine Kd.CD ?_))); (case side2 => exact (Kd.R_reads' HO532.out).2.1); rintro e w77 ⟨rfl, hb⟩; have n0_ := zK (Kd.R_below (by (with_reducible repeat (first | apply Kd.RA | apply Kd.RN | apply Kd.RD)); exact HO_502002.out) hb); have n1_ := zK (Kd.R_below (by (with_reducible repeat (first | apply Kd.RA | apply Kd.RN | apply Kd.RD)); exact HO526.out) hb); have n2_ := zK (Kd.S_below (by (with_reducible repeat (first | apply Kd.S_alloc | apply Kd.S_drewN | apply Kd.S_drew)); exact HO528.out) hb); have n3_ := zK (Kd.R_below (by (with_reducible repeat (first | apply Kd.RA | apply Kd.RN | apply Kd.RD)); exact HO532.out) hb); have n4_ := zK (bB (g := gb501) (o := .cells #[.int .i64 t495, .int .i64 t496, .slice Ao10 t497.length co10, .int .i64 t500] 53 (0, 0)) (by (with_reducible repeat (first | refine kN ?_ _ | refine kD ?_ | refine kA ?_ _)); exact BK501.out) hb); have n5_ := zK (bT (by repeat (first | (with_reducible first | exact HB.out | apply bA | apply bN | apply b1 | refine bS ?_ GE501.out) | exact HB.out)) hb); clear HO_502002; clear HO526; clear HO528; clear HO532; clear BK501; clear HB; have HO_502002 := n0_; have HO526 := n1_; have HO528 := n2_; have HO532 := n3_; have BK501 := n4_; have HB := n5_; clear n0_ n1_ n2_ n3_ n4_ n5_; (try clear hb); (try clear hb2); (try clear hk); (try clear hi)) | (go_at_call 34; (with_reducible refine (impl_IsChain.calls kj5 _ _ t523 t534 _ ?side1 ?side2 A71.out).mono ?_); (case side1 => repeat (first | exact (Kd.R_reads' HO526.out).2.2 | (with_reducible refine Kd.CA ?_ _) | (with_reducible refine Kd.CN ?_ _) | (with_reducible refine Kd.CD ?_))); (case side2 => exact (Kd.R_reads' HO526.out).2.1); rintro e w78 ⟨rfl, hb⟩; have n0_ := zK (Kd.R_below (by (with_reducible repeat (first | apply Kd.RA | apply Kd.RN | apply Kd.RD)); exact HO_502002.out) hb); have n1_ := zK (Kd.R_below (by (with_reducible repeat (first | apply Kd.RA | apply Kd.RN | apply Kd.RD)); exact HO526.out) hb); have n2_ := zK (Kd.S_below (by (with_reducible repeat (first | apply Kd.S_alloc | apply Kd.S_drewN | apply Kd.S_drew)); exact HO528.out) hb); have n3_ := zK (Kd.R_below (by (with_reducible repeat (first | apply Kd.RA | apply Kd.RN | apply Kd.RD)); exact HO532.out) hb); have n4_ := zK (bB (g := gb501) (o := .cells #[.int .i64 t495, .int .i64 t496, .slice Ao10 t497.length co10, .int .i64 t500] 53 (0, 0)) (by (with_reducible repeat (first | refine kN ?_ _ | refine kD ?_ | refine kA ?_ _)); exact BK501.out) hb); have n5_ := zK (bT (by repeat (first | (with_reducible first | exact HB.out | apply bA | apply bN | apply b1 | refine bS ?_ GE501.out) | exact HB.out)) hb); clear HO_502002; clear HO526; clear HO528; clear HO532; clear BK501; clear HB; have HO_502002 := n0_; have HO526 := n1_; have HO528 := n2_; have HO532 := n3_; have BK501 := n4_; have HB := n5_; clear n0_ n1_ n2_ n3_ n4_ n5_; (try clear hb); (try clear hb2); (try clear hk); (try clear hi)))
   go_ret
   exact ⟨by first | rfl | (simp [errW_none, errW_some] <;> rfl) | (simp [*, errW_none, errW_some] <;> rfl), by repeat (first | (with_reducible first | exact HB.out | apply bA | apply bN | apply b1 | refine bS ?_ GE501.out) | exact HB.out)⟩
/-- THE ONE PURE STATEMENT of laws_FnParcels: yours. -/
def laws_FnParcels.Pure : Prop := ∀ (l0 : List Int), l0.length ≤ maxLen → l0.length * 1 ≤ 140737488351232 → (∀ x ∈ l0, (Lit.int .u8 x).wf = true) → ∃ k, laws_FnParcels.f k l0 = some true
theorem laws_FnParcels.walk (P : laws_FnParcels.Pure) (a0 : Option Addr) (len0 cap0 : Nat) (z0 : List Int) (w : World) (w0 : (a0 = none ∧ len0 = 0 ∧ cap0 = 0 ∧ z0 = []) ∨ ∃ x, a0 = some x ∧ len0 ≤ cap0 ∧ cap0 ≤ maxLen ∧ z0.length = cap0 ∧ (∀ i, i < z0.length → w.cell? (x.add i) = some (.int .u8 (z0.getD i 0))) ∧ ∀ n ∈ z0, (Lit.int .u8 n).wf = true) (y0 : len0 * 1 ≤ 140737488351232) :
  Calls Try.prog 6 #[.slice a0 len0 cap0] w fun e w' => e = .returned (.bool true) ∧ Below w.heap.size w w' := by
 obtain ⟨l0, rfl, hr0, hm0, hw0, hc0⟩ := ReadsInt.ofRowC w0
 obtain ⟨k, h⟩ := P l0 hm0 y0 hw0
 refine (laws_FnParcels.calls k _ _ l0 true w (Kd.C_of_reads (d := (0 : Int)) (h1 := fun _ => rfl) hr0) hc0 h).mono ?_
 rintro e w' ⟨rfl, hd⟩
 exact ⟨rfl, hd⟩

end Go.Proofs.Ytejhjenlodclpaa.PFnParcels
