/- Walks of functions that FnCustody reaches: written by a tool of the kit for this claim, then shortened by a program of ours. -/
import Derived.Test.YtpkdbkheggfkkaaPFnCustodyx0
import Derived.Test.YtpkdbkheggfkkaaPFnCustodyx1
import Derived.Test.YtpkdbkheggfkkaaPFnCustodyx2
import Derived.Test.YtpkdbkheggfkkaaPFnCustodyx3
import Derived.Test.YtpkdbkheggfkkaaPFnCustodyx7
import Derived.Test.YtpkdbkheggfkkaaPFnCustodyx8
import Derived.Test.YtpkdbkheggfkkaaPFnCustodyx9
namespace Go.Proofs.Ytpkdbkheggfkkaa.PFnCustody
open Go.RowKit Go.Proofs.YtpkdbkheggfkkaaW.PrintWords Go.Proofs.YtpkdbkheggfkkaaW.PrintLast Go.Proofs.YtpkdbkheggfkkaaW.PrintMore
attribute [local go_sem] max2_int min2_int max_two min_two max_three min_three max_four min_four   -- for this text's walks alone
set_option linter.unusedVariables false
set_option linter.unusedSimpArgs false

/-! ### laws_FnCustody: function 10 -/
mutual
def laws_FnCustody.j1 : Nat → List Int → Option (Bool)
  | 0, _ => none
  | k + 1, x0 => (spec_DrawHolderAt.f k x0).bind fun bt378 => ((impl_HolderAt.f k bt378.1 bt378.2.1 bt378.2.2).bind fun bt383 => (if bt383.1 = 0 then (laws_FnCustody.j2 k x0 false) else ((impl_HandsOf.f k bt378.1 bt378.2.1).bind fun t385 => (if (t385.length : Int) = 0 then (laws_FnCustody.j2 k x0 true) else ((impl_IsChain.f k bt378.1).bind fun t388 => (laws_FnCustody.j2 k x0 (!t388)))))))
def laws_FnCustody.j2 : Nat → List Int → Bool → Option (Bool)
  | 0, _, _ => none
  | k + 1, x0, x132 => if x132 = true then (some false) else ((spec_DrawInHouse.f k x0).bind fun bt389 => ((impl_InHouse.f k bt389.1 bt389.2).bind fun t393 => (laws_FnCustody.l0 k bt389.1 bt389.2 t393 0)))
def laws_FnCustody.l0 : Nat → List (S95) → Int → List Int → Int → Option (Bool)
  | 0, _, _, _, _ => none
  | k + 1, x16, x17, x18, x19 => if x19 < (x18.length : Int) then (if 0 ≤ x19 then ((impl_HolderAt.f k x16 (rd x18 x19) 100000).bind fun bt397 => (if bt397.1 = 2 then (if bt397.2 = x17 then (laws_FnCustody.l0 k x16 x17 x18 (wrap64 (x19 + 1))) else (some false)) else (some false))) else (none)) else ((laws_ascends.f k x18).bind fun t399 => (some t399))
def laws_FnCustody.j0 : Nat → List Int → List (S95) → Bool → Int → Int → Int → Int → Int → Option (Bool)
  | 0, _, _, _, _, _, _, _, _ => none
  | k + 1, x0, x5, x86, x365000, x365001, x365002, x365003, x365004 => if x86 = true then (some false) else (if x365001 ≥ 3 then ((impl_AddHand.f k x5 x365000 2 1 x365003 0).bind fun bt374 => (if bt374.2 = true then (some false) else (laws_FnCustody.j1 k x0))) else (laws_FnCustody.j1 k x0))
end
def laws_FnCustody.f (k : Nat) (l0 : List Int) : Option (Bool) := (laws_big.f l0).bind fun t355 => (if t355 = true then (some true) else ((spec_DrawAddHand.f k l0).bind fun bt356 => ((impl_AddHand.f k bt356.1 bt356.2.1 bt356.2.2.1 bt356.2.2.2.1 bt356.2.2.2.2.1 bt356.2.2.2.2.2).bind fun bt365 => (if bt365.2 = true then ((impl_HolderAt.f k bt365.1 bt356.2.1 bt356.2.2.2.2.1).bind fun bt369 => ((impl_IsChain.f k bt365.1).bind fun t371 => (if t371 = true then (if (bt365.1.length : Int) = (wrap64 ((bt356.1.length : Int) + 1)) then (if bt369.1 = bt356.2.2.1 then (if bt369.2 = bt356.2.2.2.1 then (if 0 ≤ (bt356.1.length : Int) then (if (bt356.1.length : Int) < (bt365.1.length : Int) then (if ((rd_T95 bt365.1 (bt356.1.length : Int)).f4) = 0 then ((impl_HandSeal.f k 0 bt356.2.1 bt356.2.2.1 bt356.2.2.2.1 bt356.2.2.2.2.1 bt356.2.2.2.2.2).bind fun t373 => (if t373 = 0 then (laws_FnCustody.j0 k l0 bt365.1 false bt356.2.1 bt356.2.2.1 bt356.2.2.2.1 bt356.2.2.2.2.1 bt356.2.2.2.2.2) else (laws_FnCustody.j0 k l0 bt365.1 ((bt356.1.length : Int) == 0) bt356.2.1 bt356.2.2.1 bt356.2.2.2.1 bt356.2.2.2.2.1 bt356.2.2.2.2.2))) else (laws_FnCustody.j0 k l0 bt365.1 false bt356.2.1 bt356.2.2.1 bt356.2.2.2.1 bt356.2.2.2.2.1 bt356.2.2.2.2.2)) else (none)) else (none)) else (laws_FnCustody.j0 k l0 bt365.1 true bt356.2.1 bt356.2.2.1 bt356.2.2.2.1 bt356.2.2.2.2.1 bt356.2.2.2.2.2)) else (laws_FnCustody.j0 k l0 bt365.1 true bt356.2.1 bt356.2.2.1 bt356.2.2.2.1 bt356.2.2.2.2.1 bt356.2.2.2.2.2)) else (laws_FnCustody.j0 k l0 bt365.1 true bt356.2.1 bt356.2.2.1 bt356.2.2.2.1 bt356.2.2.2.2.1 bt356.2.2.2.2.2)) else (laws_FnCustody.j0 k l0 bt365.1 true bt356.2.1 bt356.2.2.1 bt356.2.2.2.1 bt356.2.2.2.2.1 bt356.2.2.2.2.2)))) else (if (bt365.1.length : Int) = (bt356.1.length : Int) then (laws_FnCustody.j1 k l0) else (some false))))))
set_option maxHeartbeats 8000000 in
set_option maxRecDepth 100000 in
theorem laws_FnCustody.calls (k : Nat) (A0 : Option Addr) (c0 : Nat) (l0 : List Int) (r : Bool) (w : World) (hr0 : Kd.C (Kd.int .u8) w A0 l0.length l0) (hc0 : l0.length ≤ c0) (h : laws_FnCustody.f k l0 = some r) :
    Calls Try.prog 10 #[.slice A0 l0.length c0] w fun e w' => e = .returned (.bool r) ∧ Below w.heap.size w w' := by
  have hu95 := Try.underlying95
  have HR0 := zK hr0
  have HC0 := zK hc0
  clear hr0 hc0
  have HB := zK (Below.refl w.heap.size w)
  have H : ((laws_big.f l0).bind fun t355 => (if t355 = true then (some true) else ((spec_DrawAddHand.f k l0).bind fun bt356 => ((impl_AddHand.f k bt356.1 bt356.2.1 bt356.2.2.1 bt356.2.2.2.1 bt356.2.2.2.2.1 bt356.2.2.2.2.2).bind fun bt365 => (if bt365.2 = true then ((impl_HolderAt.f k bt365.1 bt356.2.1 bt356.2.2.2.2.1).bind fun bt369 => ((impl_IsChain.f k bt365.1).bind fun t371 => (if t371 = true then (if (bt365.1.length : Int) = (wrap64 ((bt356.1.length : Int) + 1)) then (if bt369.1 = bt356.2.2.1 then (if bt369.2 = bt356.2.2.2.1 then (if 0 ≤ (bt356.1.length : Int) then (if (bt356.1.length : Int) < (bt365.1.length : Int) then (if ((rd_T95 bt365.1 (bt356.1.length : Int)).f4) = 0 then ((impl_HandSeal.f k 0 bt356.2.1 bt356.2.2.1 bt356.2.2.2.1 bt356.2.2.2.2.1 bt356.2.2.2.2.2).bind fun t373 => (if t373 = 0 then (laws_FnCustody.j0 k l0 bt365.1 false bt356.2.1 bt356.2.2.1 bt356.2.2.2.1 bt356.2.2.2.2.1 bt356.2.2.2.2.2) else (laws_FnCustody.j0 k l0 bt365.1 ((bt356.1.length : Int) == 0) bt356.2.1 bt356.2.2.1 bt356.2.2.2.1 bt356.2.2.2.2.1 bt356.2.2.2.2.2))) else (laws_FnCustody.j0 k l0 bt365.1 false bt356.2.1 bt356.2.2.1 bt356.2.2.2.1 bt356.2.2.2.2.1 bt356.2.2.2.2.2)) else (none)) else (none)) else (laws_FnCustody.j0 k l0 bt365.1 true bt356.2.1 bt356.2.2.1 bt356.2.2.2.1 bt356.2.2.2.2.1 bt356.2.2.2.2.2)) else (laws_FnCustody.j0 k l0 bt365.1 true bt356.2.1 bt356.2.2.1 bt356.2.2.2.1 bt356.2.2.2.2.1 bt356.2.2.2.2.2)) else (laws_FnCustody.j0 k l0 bt365.1 true bt356.2.1 bt356.2.2.1 bt356.2.2.2.1 bt356.2.2.2.2.1 bt356.2.2.2.2.2)) else (laws_FnCustody.j0 k l0 bt365.1 true bt356.2.1 bt356.2.2.1 bt356.2.2.2.1 bt356.2.2.2.2.1 bt356.2.2.2.2.2)))) else (if (bt365.1.length : Int) = (bt356.1.length : Int) then (laws_FnCustody.j1 k l0) else (some false))))))) = some r := h
  clear h
  replace H := Option.bind_eq_some_iff.mp H
  obtain ⟨t355, A20, H⟩ := H
  replace H : (if t355 = true then (some true) else ((spec_DrawAddHand.f k l0).bind fun bt356 => ((impl_AddHand.f k bt356.1 bt356.2.1 bt356.2.2.1 bt356.2.2.2.1 bt356.2.2.2.2.1 bt356.2.2.2.2.2).bind fun bt365 => (if bt365.2 = true then ((impl_HolderAt.f k bt365.1 bt356.2.1 bt356.2.2.2.2.1).bind fun bt369 => ((impl_IsChain.f k bt365.1).bind fun t371 => (if t371 = true then (if (bt365.1.length : Int) = (wrap64 ((bt356.1.length : Int) + 1)) then (if bt369.1 = bt356.2.2.1 then (if bt369.2 = bt356.2.2.2.1 then (if 0 ≤ (bt356.1.length : Int) then (if (bt356.1.length : Int) < (bt365.1.length : Int) then (if ((rd_T95 bt365.1 (bt356.1.length : Int)).f4) = 0 then ((impl_HandSeal.f k 0 bt356.2.1 bt356.2.2.1 bt356.2.2.2.1 bt356.2.2.2.2.1 bt356.2.2.2.2.2).bind fun t373 => (if t373 = 0 then (laws_FnCustody.j0 k l0 bt365.1 false bt356.2.1 bt356.2.2.1 bt356.2.2.2.1 bt356.2.2.2.2.1 bt356.2.2.2.2.2) else (laws_FnCustody.j0 k l0 bt365.1 ((bt356.1.length : Int) == 0) bt356.2.1 bt356.2.2.1 bt356.2.2.2.1 bt356.2.2.2.2.1 bt356.2.2.2.2.2))) else (laws_FnCustody.j0 k l0 bt365.1 false bt356.2.1 bt356.2.2.1 bt356.2.2.2.1 bt356.2.2.2.2.1 bt356.2.2.2.2.2)) else (none)) else (none)) else (laws_FnCustody.j0 k l0 bt365.1 true bt356.2.1 bt356.2.2.1 bt356.2.2.2.1 bt356.2.2.2.2.1 bt356.2.2.2.2.2)) else (laws_FnCustody.j0 k l0 bt365.1 true bt356.2.1 bt356.2.2.1 bt356.2.2.2.1 bt356.2.2.2.2.1 bt356.2.2.2.2.2)) else (laws_FnCustody.j0 k l0 bt365.1 true bt356.2.1 bt356.2.2.1 bt356.2.2.2.1 bt356.2.2.2.2.1 bt356.2.2.2.2.2)) else (laws_FnCustody.j0 k l0 bt365.1 true bt356.2.1 bt356.2.2.1 bt356.2.2.2.1 bt356.2.2.2.2.1 bt356.2.2.2.2.2)))) else (if (bt365.1.length : Int) = (bt356.1.length : Int) then (laws_FnCustody.j1 k l0) else (some false)))))) = some r := H
  have A2 := zK A20
  clear A20
  by_cases c3 : t355 = true
  · subst c3
    have H1 : (some true) = some r := by rw [if_pos rfl] at H; exact H
    clear H
    have H := H1
    clear H1
    obtain rfl := Option.some.inj H
    go_enter Try.func10, Try.ntmps10
    go_wp2_with (first | ((with_reducible refine gate_callee (f := 33) rfl ?_); refine goesL_ (some 23) rfl rfl Try.func33 (by kernel_rfl) rfl #[.slice A0 l0.length c0] rfl (by (try simp only [List.map_toArray, List.map_cons, List.map_nil]); first | done | rfl | (simp only [List.length_drop, List.length_take]; rfl)) ?_; (with_reducible refine (laws_big.calls _ _ l0 true _ ?side1 ?side2 A2.out).mono ?_); (case side1 => repeat (first | exact HR0.out | (with_reducible refine Kd.CA ?_ _) | (with_reducible refine Kd.CN ?_ _) | (with_reducible refine Kd.CD ?_))); (case side2 => exact HC0.out); rintro e w' ⟨rfl, ⟨nd, rfl⟩⟩; refine ⟨_, rfl, ?_⟩))
    go_ret
    exact ⟨by first | rfl | (simp [errW_none, errW_some] <;> rfl) | (simp [*, errW_none, errW_some] <;> rfl), by repeat (first | (with_reducible first | exact HB.out | apply bA | apply bN | apply b1) | exact HB.out)⟩
  replace c3 := Bool.eq_false_iff.mpr c3
  subst c3
  have H1 : ((spec_DrawAddHand.f k l0).bind fun bt356 => ((impl_AddHand.f k bt356.1 bt356.2.1 bt356.2.2.1 bt356.2.2.2.1 bt356.2.2.2.2.1 bt356.2.2.2.2.2).bind fun bt365 => (if bt365.2 = true then ((impl_HolderAt.f k bt365.1 bt356.2.1 bt356.2.2.2.2.1).bind fun bt369 => ((impl_IsChain.f k bt365.1).bind fun t371 => (if t371 = true then (if (bt365.1.length : Int) = (wrap64 ((bt356.1.length : Int) + 1)) then (if bt369.1 = bt356.2.2.1 then (if bt369.2 = bt356.2.2.2.1 then (if 0 ≤ (bt356.1.length : Int) then (if (bt356.1.length : Int) < (bt365.1.length : Int) then (if ((rd_T95 bt365.1 (bt356.1.length : Int)).f4) = 0 then ((impl_HandSeal.f k 0 bt356.2.1 bt356.2.2.1 bt356.2.2.2.1 bt356.2.2.2.2.1 bt356.2.2.2.2.2).bind fun t373 => (if t373 = 0 then (laws_FnCustody.j0 k l0 bt365.1 false bt356.2.1 bt356.2.2.1 bt356.2.2.2.1 bt356.2.2.2.2.1 bt356.2.2.2.2.2) else (laws_FnCustody.j0 k l0 bt365.1 ((bt356.1.length : Int) == 0) bt356.2.1 bt356.2.2.1 bt356.2.2.2.1 bt356.2.2.2.2.1 bt356.2.2.2.2.2))) else (laws_FnCustody.j0 k l0 bt365.1 false bt356.2.1 bt356.2.2.1 bt356.2.2.2.1 bt356.2.2.2.2.1 bt356.2.2.2.2.2)) else (none)) else (none)) else (laws_FnCustody.j0 k l0 bt365.1 true bt356.2.1 bt356.2.2.1 bt356.2.2.2.1 bt356.2.2.2.2.1 bt356.2.2.2.2.2)) else (laws_FnCustody.j0 k l0 bt365.1 true bt356.2.1 bt356.2.2.1 bt356.2.2.2.1 bt356.2.2.2.2.1 bt356.2.2.2.2.2)) else (laws_FnCustody.j0 k l0 bt365.1 true bt356.2.1 bt356.2.2.1 bt356.2.2.2.1 bt356.2.2.2.2.1 bt356.2.2.2.2.2)) else (laws_FnCustody.j0 k l0 bt365.1 true bt356.2.1 bt356.2.2.1 bt356.2.2.2.1 bt356.2.2.2.2.1 bt356.2.2.2.2.2)))) else (if (bt365.1.length : Int) = (bt356.1.length : Int) then (laws_FnCustody.j1 k l0) else (some false))))) = some r := by rw [if_neg (show ¬ (false = true) by decide)] at H; exact H
  clear H
  have H := H1
  clear H1
  replace H := Option.bind_eq_some_iff.mp H
  obtain ⟨⟨t356, t359, t360, t361, t362, t363⟩, A40, H⟩ := H
  replace H : ((impl_AddHand.f k t356 t359 t360 t361 t362 t363).bind fun bt365 => (if bt365.2 = true then ((impl_HolderAt.f k bt365.1 t359 t362).bind fun bt369 => ((impl_IsChain.f k bt365.1).bind fun t371 => (if t371 = true then (if (bt365.1.length : Int) = (wrap64 ((t356.length : Int) + 1)) then (if bt369.1 = t360 then (if bt369.2 = t361 then (if 0 ≤ (t356.length : Int) then (if (t356.length : Int) < (bt365.1.length : Int) then (if ((rd_T95 bt365.1 (t356.length : Int)).f4) = 0 then ((impl_HandSeal.f k 0 t359 t360 t361 t362 t363).bind fun t373 => (if t373 = 0 then (laws_FnCustody.j0 k l0 bt365.1 false t359 t360 t361 t362 t363) else (laws_FnCustody.j0 k l0 bt365.1 ((t356.length : Int) == 0) t359 t360 t361 t362 t363))) else (laws_FnCustody.j0 k l0 bt365.1 false t359 t360 t361 t362 t363)) else (none)) else (none)) else (laws_FnCustody.j0 k l0 bt365.1 true t359 t360 t361 t362 t363)) else (laws_FnCustody.j0 k l0 bt365.1 true t359 t360 t361 t362 t363)) else (laws_FnCustody.j0 k l0 bt365.1 true t359 t360 t361 t362 t363)) else (laws_FnCustody.j0 k l0 bt365.1 true t359 t360 t361 t362 t363)))) else (if (bt365.1.length : Int) = (t356.length : Int) then (laws_FnCustody.j1 k l0) else (some false)))) = some r := H
  have A4 := zK A40
  clear A40
  replace H := Option.bind_eq_some_iff.mp H
  obtain ⟨⟨t365, t368⟩, A50, H⟩ := H
  replace H : (if t368 = true then ((impl_HolderAt.f k t365 t359 t362).bind fun bt369 => ((impl_IsChain.f k t365).bind fun t371 => (if t371 = true then (if (t365.length : Int) = (wrap64 ((t356.length : Int) + 1)) then (if bt369.1 = t360 then (if bt369.2 = t361 then (if 0 ≤ (t356.length : Int) then (if (t356.length : Int) < (t365.length : Int) then (if ((rd_T95 t365 (t356.length : Int)).f4) = 0 then ((impl_HandSeal.f k 0 t359 t360 t361 t362 t363).bind fun t373 => (if t373 = 0 then (laws_FnCustody.j0 k l0 t365 false t359 t360 t361 t362 t363) else (laws_FnCustody.j0 k l0 t365 ((t356.length : Int) == 0) t359 t360 t361 t362 t363))) else (laws_FnCustody.j0 k l0 t365 false t359 t360 t361 t362 t363)) else (none)) else (none)) else (laws_FnCustody.j0 k l0 t365 true t359 t360 t361 t362 t363)) else (laws_FnCustody.j0 k l0 t365 true t359 t360 t361 t362 t363)) else (laws_FnCustody.j0 k l0 t365 true t359 t360 t361 t362 t363)) else (laws_FnCustody.j0 k l0 t365 true t359 t360 t361 t362 t363)))) else (if (t365.length : Int) = (t356.length : Int) then (laws_FnCustody.j1 k l0) else (some false))) = some r := H
  have A5 := zK A50
  clear A50
  have HC6 := zK H
  clear H
  go_enter Try.func10, Try.ntmps10
  go_upto_if 35 with (first | ((with_reducible refine gate_callee (f := 33) rfl ?_); refine goesL_ (some 23) rfl rfl Try.func33 (by kernel_rfl) rfl #[.slice A0 l0.length c0] rfl (by (try simp only [List.map_toArray, List.map_cons, List.map_nil]); first | done | rfl | (simp only [List.length_drop, List.length_take]; rfl)) ?_; (with_reducible refine (laws_big.calls _ _ l0 false _ ?side1 ?side2 A2.out).mono ?_); (case side1 => repeat (first | exact HR0.out | (with_reducible refine Kd.CA ?_ _) | (with_reducible refine Kd.CN ?_ _) | (with_reducible refine Kd.CD ?_))); (case side2 => exact HC0.out); rintro e w' ⟨rfl, ⟨nd, rfl⟩⟩; refine ⟨_, rfl, ?_⟩) | ((with_reducible refine gate_callee (f := 62) rfl ?_); refine goesL_ (some 26) rfl rfl Try.func62 (by kernel_rfl) rfl #[.slice A0 l0.length c0] rfl (by (try simp only [List.map_toArray, List.map_cons, List.map_nil]); first | done | rfl | (simp only [List.length_drop, List.length_take]; rfl)) ?_; (with_reducible refine (spec_DrawAddHand.calls k _ _ l0 t356 t359 t360 t361 t362 t363 _ ?side1 ?side2 A4.out).mono ?_); (case side1 => repeat (first | exact HR0.out | (with_reducible refine Kd.CA ?_ _) | (with_reducible refine Kd.CN ?_ _) | (with_reducible refine Kd.CD ?_))); (case side2 => exact HC0.out); rintro e w7 ⟨v357, rfl, ho0, hb⟩; refine ⟨_, rfl, ?_⟩; have n0_ := zK (Kd.R_lower ho0 (bZ (by repeat (first | (with_reducible first | exact HB.out | apply bA | apply bN | apply b1) | exact HB.out)))); have n1_ := zK (bT (by repeat (first | (with_reducible first | exact HB.out | apply bA | apply bN | apply b1) | exact HB.out)) hb); clear HB; have HO358 := n0_; have HB := n1_; clear n0_ n1_; (try clear hb); (try clear hb2); (try clear hk); (try clear hi); (try clear ho0)) | ((with_reducible refine gate_dst (N := 4) rfl ?_); (try (refine gate_guard (by rfl) ?_; dsimp only)); refine box_event ?hg (N := 4) ?hd (cs := #[.int .i64 0, .int .i64 0, .int .i64 0, .int .i64 0, .int .i64 0]) (t := 95) ?hr ?_; (case hd => rfl); (case hg => rfl); (case hr => first | (go_simp; done) | (go_simp; rfl)); intro gb364 hg w8 hbox hb; have n0_ := zK (Kd.R_below (Kd.R_elderB (by (with_reducible repeat (first | apply Kd.RA | apply Kd.RN | apply Kd.RD)); exact HO358.out) gb364 (Nat.le_of_eq hg.symm)) hb); have n1_ := zK (bT (by repeat (first | (with_reducible first | exact HB.out | apply bA | apply bN | apply b1) | exact HB.out)) hb); have n2_ := zK (hbox); have n3_ := zK ((by rw [hg]; exact (bZ (by repeat (first | (with_reducible first | exact HB.out | apply bA | apply bN | apply b1) | exact HB.out))) : w.heap.size ≤ gb364)); have n4_ := zK ((by rw [hg]; exact (bZ (by repeat (first | (with_reducible first | exact HB.out | apply bA | apply bN | apply b1) | exact HB.out))) : w.heap.size ≤ gb364)); clear HO358; clear HB; have HO358 := n0_; have HB := n1_; have BK364 := n2_; have GW364 := n3_; have GE364 := n4_; clear n0_ n1_ n2_ n3_ n4_; clear hb hbox hg; have hcz9_0 : w8.cell? ⟨gb364, 0, none⟩ = some (.int .i64 0) := (bc BK364.out 0).trans rfl; have hcz9_1 : w8.cell? ⟨gb364, 1, none⟩ = some (.int .i64 0) := (bc BK364.out 1).trans rfl; have hcz9_2 : w8.cell? ⟨gb364, 2, none⟩ = some (.int .i64 0) := (bc BK364.out 2).trans rfl; have hcz9_3 : w8.cell? ⟨gb364, 3, none⟩ = some (.int .i64 0) := (bc BK364.out 3).trans rfl; have hcz9_4 : w8.cell? ⟨gb364, 4, none⟩ = some (.int .i64 0) := (bc BK364.out 4).trans rfl; have hfz9_0 := bf BK364.out 0; have hfz9_1 := bf BK364.out 1; have hfz9_2 := bf BK364.out 2; have hfz9_3 := bf BK364.out 3; have hfz9_4 := bf BK364.out 4; obtain ⟨Ao10, co10, eo10⟩ := Kd.R_slice HO358.out; subst eo10) | ((with_reducible refine gate_callee (f := 63) rfl ?_); refine goesL_ (some 32) rfl rfl Try.func63 (by kernel_rfl) rfl #[.slice Ao10 t356.length co10, .agg #[.int .i64 t359, .int .i64 t360, .int .i64 t361, .int .i64 t362, .int .i64 t363]] rfl (by (try simp only [List.map_toArray, List.map_cons, List.map_nil]); first | done | rfl | (simp only [List.length_drop, List.length_take]; rfl)) ?_; (with_reducible refine (impl_AddHand.calls k _ _ t356 t359 t360 t361 t362 t363 t365 t368 _ ?side1 ?side2 A5.out).mono ?_); (case side1 => refine (Kd.R_reads' (e := 95) (base := w.heap.size) (ok := fun k_ => (True ∧ k_ ≠ gb364)) (n := t356.length) (c := co10) ?_).2.2; exact (by (with_reducible repeat (first | apply Kd.RA | apply Kd.RN | apply Kd.RD)); exact (Kd.R_mono (Kd.R_far (p := ⟨gb364, 4, none⟩) (Kd.R_far (p := ⟨gb364, 3, none⟩) (Kd.R_far (p := ⟨gb364, 2, none⟩) (Kd.R_far (p := ⟨gb364, 1, none⟩) (Kd.R_far (p := ⟨gb364, 0, none⟩) (Kd.R_mono HO358.out (fun k_ hk => (⟨hk, hk.2⟩ : _ ∧ k_ ≠ gb364))) (fun _ hk => hk.2) (.int .i64 t359)) (fun _ hk => hk.2) (.int .i64 t360)) (fun _ hk => hk.2) (.int .i64 t361)) (fun _ hk => hk.2) (.int .i64 t362)) (fun _ hk => hk.2) (.int .i64 t363)) (fun _ h_ => h_.1)))); (case side2 => exact (Kd.R_reads' HO358.out).2.1); rintro e w11 ⟨v366, rfl, ho0, hb⟩; refine ⟨_, rfl, ?_⟩; have n0_ := zK (Kd.R_elder' (by (with_reducible repeat (first | apply Kd.RA | apply Kd.RN | apply Kd.RD)); exact (Kd.R_mono (Kd.R_far (p := ⟨gb364, 4, none⟩) (Kd.R_far (p := ⟨gb364, 3, none⟩) (Kd.R_far (p := ⟨gb364, 2, none⟩) (Kd.R_far (p := ⟨gb364, 1, none⟩) (Kd.R_far (p := ⟨gb364, 0, none⟩) (Kd.R_mono HO358.out (fun k_ hk => (⟨hk, hk.2⟩ : _ ∧ k_ ≠ gb364))) (fun _ hk => hk.2) (.int .i64 t359)) (fun _ hk => hk.2) (.int .i64 t360)) (fun _ hk => hk.2) (.int .i64 t361)) (fun _ hk => hk.2) (.int .i64 t362)) (fun _ hk => hk.2) (.int .i64 t363)) (fun _ h_ => h_.1))) (Kd.R_base ho0) hb); have n1_ := zK (Kd.R_lower (Kd.R_newB (Kd.R_new' ho0 (Kd.R_lt (by (with_reducible repeat (first | apply Kd.RA | apply Kd.RN | apply Kd.RD)); exact (Kd.R_mono (Kd.R_far (p := ⟨gb364, 4, none⟩) (Kd.R_far (p := ⟨gb364, 3, none⟩) (Kd.R_far (p := ⟨gb364, 2, none⟩) (Kd.R_far (p := ⟨gb364, 1, none⟩) (Kd.R_far (p := ⟨gb364, 0, none⟩) (Kd.R_mono HO358.out (fun k_ hk => (⟨hk, hk.2⟩ : _ ∧ k_ ≠ gb364))) (fun _ hk => hk.2) (.int .i64 t359)) (fun _ hk => hk.2) (.int .i64 t360)) (fun _ hk => hk.2) (.int .i64 t361)) (fun _ hk => hk.2) (.int .i64 t362)) (fun _ hk => hk.2) (.int .i64 t363)) (fun _ h_ => h_.1))))) (g := gb364) (o := .cells #[.int .i64 t359, .int .i64 t360, .int .i64 t361, .int .i64 t362, .int .i64 t363] 95 (0, 0)) (by (with_reducible repeat (first | refine kN ?_ _ | refine kD ?_ | refine kA ?_ _)); refine blk_put (cs := #[.int .i64 t359, .int .i64 t360, .int .i64 t361, .int .i64 t362, .int .i64 0]) ?_ 4 _ rfl; (with_reducible repeat (first | refine kN ?_ _ | refine kD ?_ | refine kA ?_ _)); refine blk_put (cs := #[.int .i64 t359, .int .i64 t360, .int .i64 t361, .int .i64 0, .int .i64 0]) ?_ 3 _ rfl; (with_reducible repeat (first | refine kN ?_ _ | refine kD ?_ | refine kA ?_ _)); refine blk_put (cs := #[.int .i64 t359, .int .i64 t360, .int .i64 0, .int .i64 0, .int .i64 0]) ?_ 2 _ rfl; (with_reducible repeat (first | refine kN ?_ _ | refine kD ?_ | refine kA ?_ _)); refine blk_put (cs := #[.int .i64 t359, .int .i64 0, .int .i64 0, .int .i64 0, .int .i64 0]) ?_ 1 _ rfl; (with_reducible repeat (first | refine kN ?_ _ | refine kD ?_ | refine kA ?_ _)); refine blk_put (cs := #[.int .i64 0, .int .i64 0, .int .i64 0, .int .i64 0, .int .i64 0]) ?_ 0 _ rfl; (with_reducible repeat (first | refine kN ?_ _ | refine kD ?_ | refine kA ?_ _)); exact BK364.out)) (bZ (by repeat (first | (with_reducible first | exact HB.out | apply bA | apply bN | apply b1 | refine bS ?_ GE364.out) | exact HB.out)))); have n2_ := zK (bB (g := gb364) (o := .cells #[.int .i64 t359, .int .i64 t360, .int .i64 t361, .int .i64 t362, .int .i64 t363] 95 (0, 0)) (by (with_reducible repeat (first | refine kN ?_ _ | refine kD ?_ | refine kA ?_ _)); refine blk_put (cs := #[.int .i64 t359, .int .i64 t360, .int .i64 t361, .int .i64 t362, .int .i64 0]) ?_ 4 _ rfl; (with_reducible repeat (first | refine kN ?_ _ | refine kD ?_ | refine kA ?_ _)); refine blk_put (cs := #[.int .i64 t359, .int .i64 t360, .int .i64 t361, .int .i64 0, .int .i64 0]) ?_ 3 _ rfl; (with_reducible repeat (first | refine kN ?_ _ | refine kD ?_ | refine kA ?_ _)); refine blk_put (cs := #[.int .i64 t359, .int .i64 t360, .int .i64 0, .int .i64 0, .int .i64 0]) ?_ 2 _ rfl; (with_reducible repeat (first | refine kN ?_ _ | refine kD ?_ | refine kA ?_ _)); refine blk_put (cs := #[.int .i64 t359, .int .i64 0, .int .i64 0, .int .i64 0, .int .i64 0]) ?_ 1 _ rfl; (with_reducible repeat (first | refine kN ?_ _ | refine kD ?_ | refine kA ?_ _)); refine blk_put (cs := #[.int .i64 0, .int .i64 0, .int .i64 0, .int .i64 0, .int .i64 0]) ?_ 0 _ rfl; (with_reducible repeat (first | refine kN ?_ _ | refine kD ?_ | refine kA ?_ _)); exact BK364.out) hb); have n3_ := zK (bT (by repeat (first | (with_reducible first | exact HB.out | apply bA | apply bN | apply b1 | refine bS ?_ GE364.out) | exact HB.out)) hb); clear HO358; clear BK364; clear HB; have HO358 := n0_; have HO367 := n1_; have BK364 := n2_; have HB := n3_; clear n0_ n1_ n2_ n3_; (try clear hb); (try clear hb2); (try clear hk); (try clear hi); (try clear ho0)))
  (try simp only [Act.put, sA, sZ, sS])
  go_cut [] (fun wc => ∃ (kq : Nat), Aside0 (laws_FnCustody.j1 kq l0 = some r) ∧ Aside0 (kq ≤ k) ∧ Aside0 (wc.heap[gb364]? = some (.cells #[.int .i64 t359, .int .i64 t360, .int .i64 t361, .int .i64 t362, .int .i64 t363] 95 (0, 0))) ∧ Aside0 (Below w.heap.size w wc))
  case first =>
    have H := HC6.out
    clear HC6
    by_cases c12 : t368 = true
    rotate_left
    · replace c12 := Bool.eq_false_iff.mpr c12
      subst c12
      have H1 : (if (t365.length : Int) = (t356.length : Int) then (laws_FnCustody.j1 k l0) else (some false)) = some r := by rw [if_neg (show ¬ (false = true) by decide)] at H; exact H
      clear H
      have H := H1
      clear H1
      by_cases c51 : (t365.length : Int) = (t356.length : Int)
      rotate_left
      · rw [if_neg c51] at H
        have c51b0 : ((t365.length : Int) == (t356.length : Int)) = false := beq_eq_false_iff_ne.mpr c51
        have c51b1 : ((t365.length : Int) != (t356.length : Int)) = true := bne_iff_ne.mpr c51
        have c51b2 : (t365.length == t356.length) = false := by first | simpa using c51 | (simp at c51 ⊢; omega)
        obtain rfl := Option.some.inj H
        obtain ⟨Ao53, co53, eo53⟩ := Kd.R_slice HO367.out
        subst eo53
        go_wp2
        go_ret
        exact ⟨by first | rfl | (simp [errW_none, errW_some] <;> rfl) | (simp [*, errW_none, errW_some] <;> rfl), by repeat (first | (with_reducible first | exact HB.out | apply bA | apply bN | apply b1 | refine bS ?_ GE364.out) | exact HB.out)⟩
      rw [if_pos c51] at H
      have c51b0 : ((t365.length : Int) == (t356.length : Int)) = true := beq_iff_eq.mpr c51
      have c51b1 : ((t365.length : Int) != (t356.length : Int)) = false := bne_eq_false_iff_eq.mpr c51
      have c51b2 : (t365.length == t356.length) = true := by first | simpa using c51 | (simp at c51 ⊢; omega)
      clear c51
      have H' := zK H
      clear H
      obtain ⟨Ao52, co52, eo52⟩ := Kd.R_slice HO367.out
      subst eo52
      go_wp2
      go_meet
      case rel => exact ⟨_, H', ⟨by first | omega | exact Nat.le_refl _⟩, ⟨by (with_reducible repeat (first | refine kN ?_ _ | refine kD ?_ | refine kA ?_ _)); exact BK364.out⟩, ⟨by repeat (first | (with_reducible first | exact HB.out | apply bA | apply bN | apply b1 | refine bS ?_ GE364.out) | exact HB.out)⟩⟩
    subst c12
    have H1 : ((impl_HolderAt.f k t365 t359 t362).bind fun bt369 => ((impl_IsChain.f k t365).bind fun t371 => (if t371 = true then (if (t365.length : Int) = (wrap64 ((t356.length : Int) + 1)) then (if bt369.1 = t360 then (if bt369.2 = t361 then (if 0 ≤ (t356.length : Int) then (if (t356.length : Int) < (t365.length : Int) then (if ((rd_T95 t365 (t356.length : Int)).f4) = 0 then ((impl_HandSeal.f k 0 t359 t360 t361 t362 t363).bind fun t373 => (if t373 = 0 then (laws_FnCustody.j0 k l0 t365 false t359 t360 t361 t362 t363) else (laws_FnCustody.j0 k l0 t365 ((t356.length : Int) == 0) t359 t360 t361 t362 t363))) else (laws_FnCustody.j0 k l0 t365 false t359 t360 t361 t362 t363)) else (none)) else (none)) else (laws_FnCustody.j0 k l0 t365 true t359 t360 t361 t362 t363)) else (laws_FnCustody.j0 k l0 t365 true t359 t360 t361 t362 t363)) else (laws_FnCustody.j0 k l0 t365 true t359 t360 t361 t362 t363)) else (laws_FnCustody.j0 k l0 t365 true t359 t360 t361 t362 t363)))) = some r := by rw [if_pos rfl] at H; exact H
    clear H
    have H := H1
    clear H1
    replace H := Option.bind_eq_some_iff.mp H
    obtain ⟨⟨t369, t370⟩, A130, H⟩ := H
    replace H : ((impl_IsChain.f k t365).bind fun t371 => (if t371 = true then (if (t365.length : Int) = (wrap64 ((t356.length : Int) + 1)) then (if t369 = t360 then (if t370 = t361 then (if 0 ≤ (t356.length : Int) then (if (t356.length : Int) < (t365.length : Int) then (if ((rd_T95 t365 (t356.length : Int)).f4) = 0 then ((impl_HandSeal.f k 0 t359 t360 t361 t362 t363).bind fun t373 => (if t373 = 0 then (laws_FnCustody.j0 k l0 t365 false t359 t360 t361 t362 t363) else (laws_FnCustody.j0 k l0 t365 ((t356.length : Int) == 0) t359 t360 t361 t362 t363))) else (laws_FnCustody.j0 k l0 t365 false t359 t360 t361 t362 t363)) else (none)) else (none)) else (laws_FnCustody.j0 k l0 t365 true t359 t360 t361 t362 t363)) else (laws_FnCustody.j0 k l0 t365 true t359 t360 t361 t362 t363)) else (laws_FnCustody.j0 k l0 t365 true t359 t360 t361 t362 t363)) else (laws_FnCustody.j0 k l0 t365 true t359 t360 t361 t362 t363))) = some r := H
    have A13 := zK A130
    clear A130
    have HC14 := zK H
    clear H
    have hcz15_0 : w11.cell? ⟨gb364, 0, none⟩ = some (.int .i64 t359) := (bc BK364.out 0).trans rfl
    have hcz15_1 : w11.cell? ⟨gb364, 1, none⟩ = some (.int .i64 t360) := (bc BK364.out 1).trans rfl
    have hcz15_2 : w11.cell? ⟨gb364, 2, none⟩ = some (.int .i64 t361) := (bc BK364.out 2).trans rfl
    have hcz15_3 : w11.cell? ⟨gb364, 3, none⟩ = some (.int .i64 t362) := (bc BK364.out 3).trans rfl
    have hcz15_4 : w11.cell? ⟨gb364, 4, none⟩ = some (.int .i64 t363) := (bc BK364.out 4).trans rfl
    have hfz15_0 := bf BK364.out 0
    have hfz15_1 := bf BK364.out 1
    have hfz15_2 := bf BK364.out 2
    have hfz15_3 := bf BK364.out 3
    have hfz15_4 := bf BK364.out 4
    obtain ⟨Ao16, co16, eo16⟩ := Kd.R_slice HO367.out
    subst eo16
    go_upto_region 7 with (first | ((with_reducible refine gate_callee (f := 64) rfl ?_); refine goesL_ (some 42) rfl rfl Try.func64 (by kernel_rfl) rfl #[.slice Ao16 t365.length co16, .int .i64 t359, .int .i64 t362] rfl (by (try simp only [List.map_toArray, List.map_cons, List.map_nil]); first | done | rfl | (simp only [List.length_drop, List.length_take]; rfl)) ?_; (with_reducible refine (impl_HolderAt.calls k _ _ t365 t359 t362 t369 t370 _ ?side1 ?side2 A13.out).mono ?_); (case side1 => repeat (first | exact (Kd.R_reads' HO367.out).2.2 | (with_reducible refine Kd.CA ?_ _) | (with_reducible refine Kd.CN ?_ _) | (with_reducible refine Kd.CD ?_))); (case side2 => exact (Kd.R_reads' HO367.out).2.1); rintro e w17 ⟨rfl, hb⟩; refine ⟨_, rfl, ?_⟩; have n0_ := zK (Kd.R_below (by (with_reducible repeat (first | apply Kd.RA | apply Kd.RN | apply Kd.RD)); exact HO358.out) hb); have n1_ := zK (Kd.R_below (by (with_reducible repeat (first | apply Kd.RA | apply Kd.RN | apply Kd.RD)); exact HO367.out) hb); have n2_ := zK (bB (g := gb364) (o := .cells #[.int .i64 t359, .int .i64 t360, .int .i64 t361, .int .i64 t362, .int .i64 t363] 95 (0, 0)) (by (with_reducible repeat (first | refine kN ?_ _ | refine kD ?_ | refine kA ?_ _)); exact BK364.out) hb); have n3_ := zK (bT (by repeat (first | (with_reducible first | exact HB.out | apply bA | apply bN | apply b1 | refine bS ?_ GE364.out) | exact HB.out)) hb); clear HO358; clear HO367; clear BK364; clear HB; have HO358 := n0_; have HO367 := n1_; have BK364 := n2_; have HB := n3_; clear n0_ n1_ n2_ n3_; (try clear hb); (try clear hb2); (try clear hk); (try clear hi)))
    (try simp only [Act.put, sA, sZ, sS])
    go_cut [86] (fun v86 wc => ∃ (kq : Nat) (x86_13 : Bool), v86 = .bool x86_13 ∧ Aside0 (laws_FnCustody.j0 kq l0 t365 x86_13 t359 t360 t361 t362 t363 = some r) ∧ Aside0 (kq ≤ k) ∧ Aside0 (Kd.R k95 95 wc w.heap.size (fun k_ => k_ ≠ gb364) (.slice Ao16 t365.length co16) t365) ∧ Aside0 (wc.heap[gb364]? = some (.cells #[.int .i64 t359, .int .i64 t360, .int .i64 t361, .int .i64 t362, .int .i64 t363] 95 (0, 0))) ∧ Aside0 (Below w.heap.size w wc))
    case first =>
      have H := HC14.out
      clear HC14
      replace H := Option.bind_eq_some_iff.mp H
      obtain ⟨t371, A180, H⟩ := H
      replace H : (if t371 = true then (if (t365.length : Int) = (wrap64 ((t356.length : Int) + 1)) then (if t369 = t360 then (if t370 = t361 then (if 0 ≤ (t356.length : Int) then (if (t356.length : Int) < (t365.length : Int) then (if ((rd_T95 t365 (t356.length : Int)).f4) = 0 then ((impl_HandSeal.f k 0 t359 t360 t361 t362 t363).bind fun t373 => (if t373 = 0 then (laws_FnCustody.j0 k l0 t365 false t359 t360 t361 t362 t363) else (laws_FnCustody.j0 k l0 t365 ((t356.length : Int) == 0) t359 t360 t361 t362 t363))) else (laws_FnCustody.j0 k l0 t365 false t359 t360 t361 t362 t363)) else (none)) else (none)) else (laws_FnCustody.j0 k l0 t365 true t359 t360 t361 t362 t363)) else (laws_FnCustody.j0 k l0 t365 true t359 t360 t361 t362 t363)) else (laws_FnCustody.j0 k l0 t365 true t359 t360 t361 t362 t363)) else (laws_FnCustody.j0 k l0 t365 true t359 t360 t361 t362 t363)) = some r := H
      have A18 := zK A180
      clear A180
      by_cases c19 : t371 = true
      rotate_left
      · replace c19 := Bool.eq_false_iff.mpr c19
        subst c19
        have H1 : (laws_FnCustody.j0 k l0 t365 true t359 t360 t361 t362 t363) = some r := by rw [if_neg (show ¬ (false = true) by decide)] at H; exact H
        clear H
        have H := H1
        clear H1
        have H' := zK H
        clear H
        go_wp2_with (first | ((with_reducible refine gate_callee (f := 65) rfl ?_); refine goesL_ (some 46) rfl rfl Try.func65 (by kernel_rfl) rfl #[.slice Ao16 t365.length co16] rfl (by (try simp only [List.map_toArray, List.map_cons, List.map_nil]); first | done | rfl | (simp only [List.length_drop, List.length_take]; rfl)) ?_; (with_reducible refine (impl_IsChain.calls k _ _ t365 false _ ?side1 ?side2 A18.out).mono ?_); (case side1 => repeat (first | exact (Kd.R_reads' HO367.out).2.2 | (with_reducible refine Kd.CA ?_ _) | (with_reducible refine Kd.CN ?_ _) | (with_reducible refine Kd.CD ?_))); (case side2 => exact (Kd.R_reads' HO367.out).2.1); rintro e w41 ⟨rfl, hb⟩; refine ⟨_, rfl, ?_⟩; have n0_ := zK (Kd.R_below (by (with_reducible repeat (first | apply Kd.RA | apply Kd.RN | apply Kd.RD)); exact HO358.out) hb); have n1_ := zK (Kd.R_below (by (with_reducible repeat (first | apply Kd.RA | apply Kd.RN | apply Kd.RD)); exact HO367.out) hb); have n2_ := zK (bB (g := gb364) (o := .cells #[.int .i64 t359, .int .i64 t360, .int .i64 t361, .int .i64 t362, .int .i64 t363] 95 (0, 0)) (by (with_reducible repeat (first | refine kN ?_ _ | refine kD ?_ | refine kA ?_ _)); exact BK364.out) hb); have n3_ := zK (bT (by repeat (first | (with_reducible first | exact HB.out | apply bA | apply bN | apply b1 | refine bS ?_ GE364.out) | exact HB.out)) hb); clear HO358; clear HO367; clear BK364; clear HB; have HO358 := n0_; have HO367 := n1_; have BK364 := n2_; have HB := n3_; clear n0_ n1_ n2_ n3_; (try clear hb); (try clear hb2); (try clear hk); (try clear hi)))
        go_meet
        case rel => exact ⟨_, (true), (by first | rfl | (simp; done) | (simp [*]; done)), H', ⟨by first | omega | exact Nat.le_refl _⟩, ⟨by (with_reducible repeat (first | apply Kd.RA | apply Kd.RN | apply Kd.RD)); exact Kd.R_mono HO367.out (fun _ hk => hk.2)⟩, ⟨by (with_reducible repeat (first | refine kN ?_ _ | refine kD ?_ | refine kA ?_ _)); exact BK364.out⟩, ⟨by repeat (first | (with_reducible first | exact HB.out | apply bA | apply bN | apply b1 | refine bS ?_ GE364.out) | exact HB.out)⟩⟩
      subst c19
      have H1 : (if (t365.length : Int) = (wrap64 ((t356.length : Int) + 1)) then (if t369 = t360 then (if t370 = t361 then (if 0 ≤ (t356.length : Int) then (if (t356.length : Int) < (t365.length : Int) then (if ((rd_T95 t365 (t356.length : Int)).f4) = 0 then ((impl_HandSeal.f k 0 t359 t360 t361 t362 t363).bind fun t373 => (if t373 = 0 then (laws_FnCustody.j0 k l0 t365 false t359 t360 t361 t362 t363) else (laws_FnCustody.j0 k l0 t365 ((t356.length : Int) == 0) t359 t360 t361 t362 t363))) else (laws_FnCustody.j0 k l0 t365 false t359 t360 t361 t362 t363)) else (none)) else (none)) else (laws_FnCustody.j0 k l0 t365 true t359 t360 t361 t362 t363)) else (laws_FnCustody.j0 k l0 t365 true t359 t360 t361 t362 t363)) else (laws_FnCustody.j0 k l0 t365 true t359 t360 t361 t362 t363)) = some r := by rw [if_pos rfl] at H; exact H
      clear H
      have H := H1
      clear H1
      by_cases c20 : (t365.length : Int) = (wrap64 ((t356.length : Int) + 1))
      rotate_left
      · rw [if_neg c20] at H
        have c20b0 : ((t365.length : Int) == (wrap64 ((t356.length : Int) + 1))) = false := beq_eq_false_iff_ne.mpr c20
        have c20b1 : ((t365.length : Int) != (wrap64 ((t356.length : Int) + 1))) = true := bne_iff_ne.mpr c20
        (first | rw [c20b0] | rw [c20b1] | (simp only [i64_w, i32_w]; rw [c20b0]) | skip)
        have H' := zK H
        clear H
        go_wp2_with (first | ((with_reducible refine gate_callee (f := 65) rfl ?_); refine goesL_ (some 46) rfl rfl Try.func65 (by kernel_rfl) rfl #[.slice Ao16 t365.length co16] rfl (by (try simp only [List.map_toArray, List.map_cons, List.map_nil]); first | done | rfl | (simp only [List.length_drop, List.length_take]; rfl)) ?_; (with_reducible refine (impl_IsChain.calls k _ _ t365 true _ ?side1 ?side2 A18.out).mono ?_); (case side1 => repeat (first | exact (Kd.R_reads' HO367.out).2.2 | (with_reducible refine Kd.CA ?_ _) | (with_reducible refine Kd.CN ?_ _) | (with_reducible refine Kd.CD ?_))); (case side2 => exact (Kd.R_reads' HO367.out).2.1); rintro e w40 ⟨rfl, hb⟩; refine ⟨_, rfl, ?_⟩; have n0_ := zK (Kd.R_below (by (with_reducible repeat (first | apply Kd.RA | apply Kd.RN | apply Kd.RD)); exact HO358.out) hb); have n1_ := zK (Kd.R_below (by (with_reducible repeat (first | apply Kd.RA | apply Kd.RN | apply Kd.RD)); exact HO367.out) hb); have n2_ := zK (bB (g := gb364) (o := .cells #[.int .i64 t359, .int .i64 t360, .int .i64 t361, .int .i64 t362, .int .i64 t363] 95 (0, 0)) (by (with_reducible repeat (first | refine kN ?_ _ | refine kD ?_ | refine kA ?_ _)); exact BK364.out) hb); have n3_ := zK (bT (by repeat (first | (with_reducible first | exact HB.out | apply bA | apply bN | apply b1 | refine bS ?_ GE364.out) | exact HB.out)) hb); clear HO358; clear HO367; clear BK364; clear HB; have HO358 := n0_; have HO367 := n1_; have BK364 := n2_; have HB := n3_; clear n0_ n1_ n2_ n3_; (try clear hb); (try clear hb2); (try clear hk); (try clear hi)))
        go_meet
        case rel => exact ⟨_, (true), (by first | rfl | (simp; done) | (simp [*]; done)), H', ⟨by first | omega | exact Nat.le_refl _⟩, ⟨by (with_reducible repeat (first | apply Kd.RA | apply Kd.RN | apply Kd.RD)); exact Kd.R_mono HO367.out (fun _ hk => hk.2)⟩, ⟨by (with_reducible repeat (first | refine kN ?_ _ | refine kD ?_ | refine kA ?_ _)); exact BK364.out⟩, ⟨by repeat (first | (with_reducible first | exact HB.out | apply bA | apply bN | apply b1 | refine bS ?_ GE364.out) | exact HB.out)⟩⟩
      rw [if_pos c20] at H
      have c20b0 : ((t365.length : Int) == (wrap64 ((t356.length : Int) + 1))) = true := beq_iff_eq.mpr c20
      have c20b1 : ((t365.length : Int) != (wrap64 ((t356.length : Int) + 1))) = false := bne_eq_false_iff_eq.mpr c20
      clear c20
      (first | rw [c20b0] | rw [c20b1] | (simp only [i64_w, i32_w]; rw [c20b0]) | skip)
      by_cases c21 : t369 = t360
      rotate_left
      · rw [if_neg c21] at H
        have c21b0 : (t369 == t360) = false := beq_eq_false_iff_ne.mpr c21
        have c21b1 : (t369 != t360) = true := bne_iff_ne.mpr c21
        have H' := zK H
        clear H
        go_wp2_with (first | ((with_reducible refine gate_callee (f := 65) rfl ?_); refine goesL_ (some 46) rfl rfl Try.func65 (by kernel_rfl) rfl #[.slice Ao16 t365.length co16] rfl (by (try simp only [List.map_toArray, List.map_cons, List.map_nil]); first | done | rfl | (simp only [List.length_drop, List.length_take]; rfl)) ?_; (with_reducible refine (impl_IsChain.calls k _ _ t365 true _ ?side1 ?side2 A18.out).mono ?_); (case side1 => repeat (first | exact (Kd.R_reads' HO367.out).2.2 | (with_reducible refine Kd.CA ?_ _) | (with_reducible refine Kd.CN ?_ _) | (with_reducible refine Kd.CD ?_))); (case side2 => exact (Kd.R_reads' HO367.out).2.1); rintro e w38 ⟨rfl, hb⟩; refine ⟨_, rfl, ?_⟩; have n0_ := zK (Kd.R_below (by (with_reducible repeat (first | apply Kd.RA | apply Kd.RN | apply Kd.RD)); exact HO358.out) hb); have n1_ := zK (Kd.R_below (by (with_reducible repeat (first | apply Kd.RA | apply Kd.RN | apply Kd.RD)); exact HO367.out) hb); have n2_ := zK (bB (g := gb364) (o := .cells #[.int .i64 t359, .int .i64 t360, .int .i64 t361, .int .i64 t362, .int .i64 t363] 95 (0, 0)) (by (with_reducible repeat (first | refine kN ?_ _ | refine kD ?_ | refine kA ?_ _)); exact BK364.out) hb); have n3_ := zK (bT (by repeat (first | (with_reducible first | exact HB.out | apply bA | apply bN | apply b1 | refine bS ?_ GE364.out) | exact HB.out)) hb); clear HO358; clear HO367; clear BK364; clear HB; have HO358 := n0_; have HO367 := n1_; have BK364 := n2_; have HB := n3_; clear n0_ n1_ n2_ n3_; (try clear hb); (try clear hb2); (try clear hk); (try clear hi); have hcz39_0 : w38.cell? ⟨gb364, 0, none⟩ = some (.int .i64 t359) := (bc BK364.out 0).trans rfl; have hcz39_1 : w38.cell? ⟨gb364, 1, none⟩ = some (.int .i64 t360) := (bc BK364.out 1).trans rfl; have hcz39_2 : w38.cell? ⟨gb364, 2, none⟩ = some (.int .i64 t361) := (bc BK364.out 2).trans rfl; have hcz39_3 : w38.cell? ⟨gb364, 3, none⟩ = some (.int .i64 t362) := (bc BK364.out 3).trans rfl; have hcz39_4 : w38.cell? ⟨gb364, 4, none⟩ = some (.int .i64 t363) := (bc BK364.out 4).trans rfl; have hfz39_0 := bf BK364.out 0; have hfz39_1 := bf BK364.out 1; have hfz39_2 := bf BK364.out 2; have hfz39_3 := bf BK364.out 3; have hfz39_4 := bf BK364.out 4))
        go_meet
        case rel => exact ⟨_, (true), (by first | rfl | (simp; done) | (simp [*]; done)), H', ⟨by first | omega | exact Nat.le_refl _⟩, ⟨by (with_reducible repeat (first | apply Kd.RA | apply Kd.RN | apply Kd.RD)); exact Kd.R_mono HO367.out (fun _ hk => hk.2)⟩, ⟨by (with_reducible repeat (first | refine kN ?_ _ | refine kD ?_ | refine kA ?_ _)); exact BK364.out⟩, ⟨by repeat (first | (with_reducible first | exact HB.out | apply bA | apply bN | apply b1 | refine bS ?_ GE364.out) | exact HB.out)⟩⟩
      rw [if_pos c21] at H
      have c21b0 : (t369 == t360) = true := beq_iff_eq.mpr c21
      have c21b1 : (t369 != t360) = false := bne_eq_false_iff_eq.mpr c21
      clear c21
      by_cases c22 : t370 = t361
      rotate_left
      · rw [if_neg c22] at H
        have c22b0 : (t370 == t361) = false := beq_eq_false_iff_ne.mpr c22
        have c22b1 : (t370 != t361) = true := bne_iff_ne.mpr c22
        have H' := zK H
        clear H
        go_wp2_with (first | ((with_reducible refine gate_callee (f := 65) rfl ?_); refine goesL_ (some 46) rfl rfl Try.func65 (by kernel_rfl) rfl #[.slice Ao16 t365.length co16] rfl (by (try simp only [List.map_toArray, List.map_cons, List.map_nil]); first | done | rfl | (simp only [List.length_drop, List.length_take]; rfl)) ?_; (with_reducible refine (impl_IsChain.calls k _ _ t365 true _ ?side1 ?side2 A18.out).mono ?_); (case side1 => repeat (first | exact (Kd.R_reads' HO367.out).2.2 | (with_reducible refine Kd.CA ?_ _) | (with_reducible refine Kd.CN ?_ _) | (with_reducible refine Kd.CD ?_))); (case side2 => exact (Kd.R_reads' HO367.out).2.1); rintro e w36 ⟨rfl, hb⟩; refine ⟨_, rfl, ?_⟩; have n0_ := zK (Kd.R_below (by (with_reducible repeat (first | apply Kd.RA | apply Kd.RN | apply Kd.RD)); exact HO358.out) hb); have n1_ := zK (Kd.R_below (by (with_reducible repeat (first | apply Kd.RA | apply Kd.RN | apply Kd.RD)); exact HO367.out) hb); have n2_ := zK (bB (g := gb364) (o := .cells #[.int .i64 t359, .int .i64 t360, .int .i64 t361, .int .i64 t362, .int .i64 t363] 95 (0, 0)) (by (with_reducible repeat (first | refine kN ?_ _ | refine kD ?_ | refine kA ?_ _)); exact BK364.out) hb); have n3_ := zK (bT (by repeat (first | (with_reducible first | exact HB.out | apply bA | apply bN | apply b1 | refine bS ?_ GE364.out) | exact HB.out)) hb); clear HO358; clear HO367; clear BK364; clear HB; have HO358 := n0_; have HO367 := n1_; have BK364 := n2_; have HB := n3_; clear n0_ n1_ n2_ n3_; (try clear hb); (try clear hb2); (try clear hk); (try clear hi); have hcz37_0 : w36.cell? ⟨gb364, 0, none⟩ = some (.int .i64 t359) := (bc BK364.out 0).trans rfl; have hcz37_1 : w36.cell? ⟨gb364, 1, none⟩ = some (.int .i64 t360) := (bc BK364.out 1).trans rfl; have hcz37_2 : w36.cell? ⟨gb364, 2, none⟩ = some (.int .i64 t361) := (bc BK364.out 2).trans rfl; have hcz37_3 : w36.cell? ⟨gb364, 3, none⟩ = some (.int .i64 t362) := (bc BK364.out 3).trans rfl; have hcz37_4 : w36.cell? ⟨gb364, 4, none⟩ = some (.int .i64 t363) := (bc BK364.out 4).trans rfl; have hfz37_0 := bf BK364.out 0; have hfz37_1 := bf BK364.out 1; have hfz37_2 := bf BK364.out 2; have hfz37_3 := bf BK364.out 3; have hfz37_4 := bf BK364.out 4))
        go_meet
        case rel => exact ⟨_, (true), (by first | rfl | (simp; done) | (simp [*]; done)), H', ⟨by first | omega | exact Nat.le_refl _⟩, ⟨by (with_reducible repeat (first | apply Kd.RA | apply Kd.RN | apply Kd.RD)); exact Kd.R_mono HO367.out (fun _ hk => hk.2)⟩, ⟨by (with_reducible repeat (first | refine kN ?_ _ | refine kD ?_ | refine kA ?_ _)); exact BK364.out⟩, ⟨by repeat (first | (with_reducible first | exact HB.out | apply bA | apply bN | apply b1 | refine bS ?_ GE364.out) | exact HB.out)⟩⟩
      rw [if_pos c22] at H
      have c22b0 : (t370 == t361) = true := beq_iff_eq.mpr c22
      have c22b1 : (t370 != t361) = false := bne_eq_false_iff_eq.mpr c22
      clear c22
      by_cases c23 : 0 ≤ (t356.length : Int)
      rotate_left
      · rw [if_neg c23] at H
        exact absurd H (by simp)
      rw [if_pos c23] at H
      have c23b0 : decide (0 ≤ (t356.length : Int)) = true := decide_eq_true c23
      have c23b1 : decide (0 ≤ t356.length) = true := decide_eq_true (by omega)
      clear c23
      by_cases c24 : (t356.length : Int) < (t365.length : Int)
      rotate_left
      · rw [if_neg c24] at H
        exact absurd H (by simp)
      rw [if_pos c24] at H
      have c24b0 : decide ((t356.length : Int) < (t365.length : Int)) = true := decide_eq_true c24
      have c24b1 : decide (t356.length < t365.length) = true := decide_eq_true (Int.ofNat_lt.mp c24)
      clear c24
      by_cases c25 : ((rd_T95 t365 (t356.length : Int)).f4) = 0
      rotate_left
      · rw [if_neg c25] at H
        have c25b0 : (((rd_T95 t365 (t356.length : Int)).f4) == 0) = false := beq_eq_false_iff_ne.mpr c25
        have c25b1 : (((rd_T95 t365 (t356.length : Int)).f4) != 0) = true := bne_iff_ne.mpr c25
        have H' := zK H
        clear H
        go_wp2_with (first | ((with_reducible refine gate_callee (f := 65) rfl ?_); refine goesL_ (some 46) rfl rfl Try.func65 (by kernel_rfl) rfl #[.slice Ao16 t365.length co16] rfl (by (try simp only [List.map_toArray, List.map_cons, List.map_nil]); first | done | rfl | (simp only [List.length_drop, List.length_take]; rfl)) ?_; (with_reducible refine (impl_IsChain.calls k _ _ t365 true _ ?side1 ?side2 A18.out).mono ?_); (case side1 => repeat (first | exact (Kd.R_reads' HO367.out).2.2 | (with_reducible refine Kd.CA ?_ _) | (with_reducible refine Kd.CN ?_ _) | (with_reducible refine Kd.CD ?_))); (case side2 => exact (Kd.R_reads' HO367.out).2.1); rintro e w34 ⟨rfl, hb⟩; refine ⟨_, rfl, ?_⟩; have n0_ := zK (Kd.R_below (by (with_reducible repeat (first | apply Kd.RA | apply Kd.RN | apply Kd.RD)); exact HO358.out) hb); have n1_ := zK (Kd.R_below (by (with_reducible repeat (first | apply Kd.RA | apply Kd.RN | apply Kd.RD)); exact HO367.out) hb); have n2_ := zK (bB (g := gb364) (o := .cells #[.int .i64 t359, .int .i64 t360, .int .i64 t361, .int .i64 t362, .int .i64 t363] 95 (0, 0)) (by (with_reducible repeat (first | refine kN ?_ _ | refine kD ?_ | refine kA ?_ _)); exact BK364.out) hb); have n3_ := zK (bT (by repeat (first | (with_reducible first | exact HB.out | apply bA | apply bN | apply b1 | refine bS ?_ GE364.out) | exact HB.out)) hb); clear HO358; clear HO367; clear BK364; clear HB; have HO358 := n0_; have HO367 := n1_; have BK364 := n2_; have HB := n3_; clear n0_ n1_ n2_ n3_; (try clear hb); (try clear hb2); (try clear hk); (try clear hi); have hcz35_0 : w34.cell? ⟨gb364, 0, none⟩ = some (.int .i64 t359) := (bc BK364.out 0).trans rfl; have hcz35_1 : w34.cell? ⟨gb364, 1, none⟩ = some (.int .i64 t360) := (bc BK364.out 1).trans rfl; have hcz35_2 : w34.cell? ⟨gb364, 2, none⟩ = some (.int .i64 t361) := (bc BK364.out 2).trans rfl; have hcz35_3 : w34.cell? ⟨gb364, 3, none⟩ = some (.int .i64 t362) := (bc BK364.out 3).trans rfl; have hcz35_4 : w34.cell? ⟨gb364, 4, none⟩ = some (.int .i64 t363) := (bc BK364.out 4).trans rfl; have hfz35_0 := bf BK364.out 0; have hfz35_1 := bf BK364.out 1; have hfz35_2 := bf BK364.out 2; have hfz35_3 := bf BK364.out 3; have hfz35_4 := bf BK364.out 4; have p372 : 0 ≤ ((t356.length : Int) : Int) := oD (by first | (with_reducible assumption) | assumption); have q372 : (t356.length : Int) < (t365.length : Int) := oD (by first | (with_reducible assumption) | assumption); obtain ⟨ad372, e372, hx372_0, hx372_1, hx372_2, hx372_3, hx372_4⟩ := at_T95 (Kd.R_reads' HO367.out).2.2 (t356.length : Int) p372 q372; cases e372; (try simp only [Go.IntWalk.toNatUp] at hx372_0); (try simp only [Go.IntWalk.toNatUp] at hx372_1); (try simp only [Go.IntWalk.toNatUp] at hx372_2); (try simp only [Go.IntWalk.toNatUp] at hx372_3); (try simp only [Go.IntWalk.toNatUp] at hx372_4); replace p372 := eq_true p372; replace q372 := eq_true q372))
        go_meet
        case rel => exact ⟨_, (false), (by first | rfl | (simp; done) | (simp [*]; done)), H', ⟨by first | omega | exact Nat.le_refl _⟩, ⟨by (with_reducible repeat (first | apply Kd.RA | apply Kd.RN | apply Kd.RD)); exact Kd.R_mono HO367.out (fun _ hk => hk.2)⟩, ⟨by (with_reducible repeat (first | refine kN ?_ _ | refine kD ?_ | refine kA ?_ _)); exact BK364.out⟩, ⟨by repeat (first | (with_reducible first | exact HB.out | apply bA | apply bN | apply b1 | refine bS ?_ GE364.out) | exact HB.out)⟩⟩
      rw [if_pos c25] at H
      have c25b0 : (((rd_T95 t365 (t356.length : Int)).f4) == 0) = true := beq_iff_eq.mpr c25
      have c25b1 : (((rd_T95 t365 (t356.length : Int)).f4) != 0) = false := bne_eq_false_iff_eq.mpr c25
      clear c25
      replace H := Option.bind_eq_some_iff.mp H
      obtain ⟨t373, A260, H⟩ := H
      replace H : (if t373 = 0 then (laws_FnCustody.j0 k l0 t365 false t359 t360 t361 t362 t363) else (laws_FnCustody.j0 k l0 t365 ((t356.length : Int) == 0) t359 t360 t361 t362 t363)) = some r := H
      have A26 := zK A260
      clear A260
      by_cases c27 : t373 = 0
      rotate_left
      · rw [if_neg c27] at H
        have c27b0 : (t373 == 0) = false := beq_eq_false_iff_ne.mpr c27
        have c27b1 : (t373 != 0) = true := bne_iff_ne.mpr c27
        have H' := zK H
        clear H
        go_wp2_with (first | ((with_reducible refine gate_callee (f := 65) rfl ?_); refine goesL_ (some 46) rfl rfl Try.func65 (by kernel_rfl) rfl #[.slice Ao16 t365.length co16] rfl (by (try simp only [List.map_toArray, List.map_cons, List.map_nil]); first | done | rfl | (simp only [List.length_drop, List.length_take]; rfl)) ?_; (with_reducible refine (impl_IsChain.calls k _ _ t365 true _ ?side1 ?side2 A18.out).mono ?_); (case side1 => repeat (first | exact (Kd.R_reads' HO367.out).2.2 | (with_reducible refine Kd.CA ?_ _) | (with_reducible refine Kd.CN ?_ _) | (with_reducible refine Kd.CD ?_))); (case side2 => exact (Kd.R_reads' HO367.out).2.1); rintro e w31 ⟨rfl, hb⟩; refine ⟨_, rfl, ?_⟩; have n0_ := zK (Kd.R_below (by (with_reducible repeat (first | apply Kd.RA | apply Kd.RN | apply Kd.RD)); exact HO358.out) hb); have n1_ := zK (Kd.R_below (by (with_reducible repeat (first | apply Kd.RA | apply Kd.RN | apply Kd.RD)); exact HO367.out) hb); have n2_ := zK (bB (g := gb364) (o := .cells #[.int .i64 t359, .int .i64 t360, .int .i64 t361, .int .i64 t362, .int .i64 t363] 95 (0, 0)) (by (with_reducible repeat (first | refine kN ?_ _ | refine kD ?_ | refine kA ?_ _)); exact BK364.out) hb); have n3_ := zK (bT (by repeat (first | (with_reducible first | exact HB.out | apply bA | apply bN | apply b1 | refine bS ?_ GE364.out) | exact HB.out)) hb); clear HO358; clear HO367; clear BK364; clear HB; have HO358 := n0_; have HO367 := n1_; have BK364 := n2_; have HB := n3_; clear n0_ n1_ n2_ n3_; (try clear hb); (try clear hb2); (try clear hk); (try clear hi); have hcz32_0 : w31.cell? ⟨gb364, 0, none⟩ = some (.int .i64 t359) := (bc BK364.out 0).trans rfl; have hcz32_1 : w31.cell? ⟨gb364, 1, none⟩ = some (.int .i64 t360) := (bc BK364.out 1).trans rfl; have hcz32_2 : w31.cell? ⟨gb364, 2, none⟩ = some (.int .i64 t361) := (bc BK364.out 2).trans rfl; have hcz32_3 : w31.cell? ⟨gb364, 3, none⟩ = some (.int .i64 t362) := (bc BK364.out 3).trans rfl; have hcz32_4 : w31.cell? ⟨gb364, 4, none⟩ = some (.int .i64 t363) := (bc BK364.out 4).trans rfl; have hfz32_0 := bf BK364.out 0; have hfz32_1 := bf BK364.out 1; have hfz32_2 := bf BK364.out 2; have hfz32_3 := bf BK364.out 3; have hfz32_4 := bf BK364.out 4; have p372 : 0 ≤ ((t356.length : Int) : Int) := oD (by first | (with_reducible assumption) | assumption); have q372 : (t356.length : Int) < (t365.length : Int) := oD (by first | (with_reducible assumption) | assumption); obtain ⟨ad372, e372, hx372_0, hx372_1, hx372_2, hx372_3, hx372_4⟩ := at_T95 (Kd.R_reads' HO367.out).2.2 (t356.length : Int) p372 q372; cases e372; (try simp only [Go.IntWalk.toNatUp] at hx372_0); (try simp only [Go.IntWalk.toNatUp] at hx372_1); (try simp only [Go.IntWalk.toNatUp] at hx372_2); (try simp only [Go.IntWalk.toNatUp] at hx372_3); (try simp only [Go.IntWalk.toNatUp] at hx372_4); replace p372 := eq_true p372; replace q372 := eq_true q372) | (go_at_call 66; (with_reducible refine (impl_HandSeal.calls k 0 t359 t360 t361 t362 t363 t373 _ A26.out).mono ?_); rintro e w33 ⟨rfl, hb⟩; have n0_ := zK (Kd.R_below (by (with_reducible repeat (first | apply Kd.RA | apply Kd.RN | apply Kd.RD)); exact HO358.out) hb); have n1_ := zK (Kd.R_below (by (with_reducible repeat (first | apply Kd.RA | apply Kd.RN | apply Kd.RD)); exact HO367.out) hb); have n2_ := zK (bB (g := gb364) (o := .cells #[.int .i64 t359, .int .i64 t360, .int .i64 t361, .int .i64 t362, .int .i64 t363] 95 (0, 0)) (by (with_reducible repeat (first | refine kN ?_ _ | refine kD ?_ | refine kA ?_ _)); exact BK364.out) hb); have n3_ := zK (bT (by repeat (first | (with_reducible first | exact HB.out | apply bA | apply bN | apply b1 | refine bS ?_ GE364.out) | exact HB.out)) hb); clear HO358; clear HO367; clear BK364; clear HB; have HO358 := n0_; have HO367 := n1_; have BK364 := n2_; have HB := n3_; clear n0_ n1_ n2_ n3_; (try clear hb); (try clear hb2); (try clear hk); (try clear hi)))
        go_meet
        case rel => exact ⟨_, (((t356.length : Int) == 0)), (by first | rfl | (simp; done) | (simp [*]; done)), H', ⟨by first | omega | exact Nat.le_refl _⟩, ⟨by (with_reducible repeat (first | apply Kd.RA | apply Kd.RN | apply Kd.RD)); exact Kd.R_mono HO367.out (fun _ hk => hk.2)⟩, ⟨by (with_reducible repeat (first | refine kN ?_ _ | refine kD ?_ | refine kA ?_ _)); exact BK364.out⟩, ⟨by repeat (first | (with_reducible first | exact HB.out | apply bA | apply bN | apply b1 | refine bS ?_ GE364.out) | exact HB.out)⟩⟩
      rw [if_pos c27] at H
      have c27b0 : (t373 == 0) = true := beq_iff_eq.mpr c27
      have c27b1 : (t373 != 0) = false := bne_eq_false_iff_eq.mpr c27
      clear c27
      have H' := zK H
      clear H
      go_wp2_with (first | ((with_reducible refine gate_callee (f := 65) rfl ?_); refine goesL_ (some 46) rfl rfl Try.func65 (by kernel_rfl) rfl #[.slice Ao16 t365.length co16] rfl (by (try simp only [List.map_toArray, List.map_cons, List.map_nil]); first | done | rfl | (simp only [List.length_drop, List.length_take]; rfl)) ?_; (with_reducible refine (impl_IsChain.calls k _ _ t365 true _ ?side1 ?side2 A18.out).mono ?_); (case side1 => repeat (first | exact (Kd.R_reads' HO367.out).2.2 | (with_reducible refine Kd.CA ?_ _) | (with_reducible refine Kd.CN ?_ _) | (with_reducible refine Kd.CD ?_))); (case side2 => exact (Kd.R_reads' HO367.out).2.1); rintro e w28 ⟨rfl, hb⟩; refine ⟨_, rfl, ?_⟩; have n0_ := zK (Kd.R_below (by (with_reducible repeat (first | apply Kd.RA | apply Kd.RN | apply Kd.RD)); exact HO358.out) hb); have n1_ := zK (Kd.R_below (by (with_reducible repeat (first | apply Kd.RA | apply Kd.RN | apply Kd.RD)); exact HO367.out) hb); have n2_ := zK (bB (g := gb364) (o := .cells #[.int .i64 t359, .int .i64 t360, .int .i64 t361, .int .i64 t362, .int .i64 t363] 95 (0, 0)) (by (with_reducible repeat (first | refine kN ?_ _ | refine kD ?_ | refine kA ?_ _)); exact BK364.out) hb); have n3_ := zK (bT (by repeat (first | (with_reducible first | exact HB.out | apply bA | apply bN | apply b1 | refine bS ?_ GE364.out) | exact HB.out)) hb); clear HO358; clear HO367; clear BK364; clear HB; have HO358 := n0_; have HO367 := n1_; have BK364 := n2_; have HB := n3_; clear n0_ n1_ n2_ n3_; (try clear hb); (try clear hb2); (try clear hk); (try clear hi); have hcz29_0 : w28.cell? ⟨gb364, 0, none⟩ = some (.int .i64 t359) := (bc BK364.out 0).trans rfl; have hcz29_1 : w28.cell? ⟨gb364, 1, none⟩ = some (.int .i64 t360) := (bc BK364.out 1).trans rfl; have hcz29_2 : w28.cell? ⟨gb364, 2, none⟩ = some (.int .i64 t361) := (bc BK364.out 2).trans rfl; have hcz29_3 : w28.cell? ⟨gb364, 3, none⟩ = some (.int .i64 t362) := (bc BK364.out 3).trans rfl; have hcz29_4 : w28.cell? ⟨gb364, 4, none⟩ = some (.int .i64 t363) := (bc BK364.out 4).trans rfl; have hfz29_0 := bf BK364.out 0; have hfz29_1 := bf BK364.out 1; have hfz29_2 := bf BK364.out 2; have hfz29_3 := bf BK364.out 3; have hfz29_4 := bf BK364.out 4; have p372 : 0 ≤ ((t356.length : Int) : Int) := oD (by first | (with_reducible assumption) | assumption); have q372 : (t356.length : Int) < (t365.length : Int) := oD (by first | (with_reducible assumption) | assumption); obtain ⟨ad372, e372, hx372_0, hx372_1, hx372_2, hx372_3, hx372_4⟩ := at_T95 (Kd.R_reads' HO367.out).2.2 (t356.length : Int) p372 q372; cases e372; (try simp only [Go.IntWalk.toNatUp] at hx372_0); (try simp only [Go.IntWalk.toNatUp] at hx372_1); (try simp only [Go.IntWalk.toNatUp] at hx372_2); (try simp only [Go.IntWalk.toNatUp] at hx372_3); (try simp only [Go.IntWalk.toNatUp] at hx372_4); replace p372 := eq_true p372; replace q372 := eq_true q372) | (go_at_call 66; (with_reducible refine (impl_HandSeal.calls k 0 t359 t360 t361 t362 t363 t373 _ A26.out).mono ?_); rintro e w30 ⟨rfl, hb⟩; have n0_ := zK (Kd.R_below (by (with_reducible repeat (first | apply Kd.RA | apply Kd.RN | apply Kd.RD)); exact HO358.out) hb); have n1_ := zK (Kd.R_below (by (with_reducible repeat (first | apply Kd.RA | apply Kd.RN | apply Kd.RD)); exact HO367.out) hb); have n2_ := zK (bB (g := gb364) (o := .cells #[.int .i64 t359, .int .i64 t360, .int .i64 t361, .int .i64 t362, .int .i64 t363] 95 (0, 0)) (by (with_reducible repeat (first | refine kN ?_ _ | refine kD ?_ | refine kA ?_ _)); exact BK364.out) hb); have n3_ := zK (bT (by repeat (first | (with_reducible first | exact HB.out | apply bA | apply bN | apply b1 | refine bS ?_ GE364.out) | exact HB.out)) hb); clear HO358; clear HO367; clear BK364; clear HB; have HO358 := n0_; have HO367 := n1_; have BK364 := n2_; have HB := n3_; clear n0_ n1_ n2_ n3_; (try clear hb); (try clear hb2); (try clear hk); (try clear hi)))
      go_meet
      case rel => exact ⟨_, (false), (by first | rfl | (simp; done) | (simp [*]; done)), H', ⟨by first | omega | exact Nat.le_refl _⟩, ⟨by (with_reducible repeat (first | apply Kd.RA | apply Kd.RN | apply Kd.RD)); exact Kd.R_mono HO367.out (fun _ hk => hk.2)⟩, ⟨by (with_reducible repeat (first | refine kN ?_ _ | refine kD ?_ | refine kA ?_ _)); exact BK364.out⟩, ⟨by repeat (first | (with_reducible first | exact HB.out | apply bA | apply bN | apply b1 | refine bS ?_ GE364.out) | exact HB.out)⟩⟩
    case rest =>
      clear HC14
      try clear c1
      try clear c2
      try clear p2
      try clear c3
      try clear p3
      try clear q3
      try clear hx3
      try clear c6
      try clear p6
      try clear c10
      try clear c12
      try clear c19
      try clear c20
      try clear c20b0
      try clear c20b1
      try clear c21
      try clear c21b0
      try clear c21b1
      try clear c22
      try clear c22b0
      try clear c22b1
      try clear c23
      try clear c23b0
      try clear c23b1
      try clear c24
      try clear c24b0
      try clear c24b1
      try clear c25
      try clear c25b0
      try clear c25b1
      try clear c27
      try clear c27b0
      try clear c27b1
      try clear c33
      try clear p37
      try clear q37
      try clear hx37
      try clear hcz15_0
      try clear hcz15_1
      try clear hcz15_2
      try clear hcz15_3
      try clear hcz15_4
      try clear hcz29_0
      try clear hcz29_1
      try clear hcz29_2
      try clear hcz29_3
      try clear hcz29_4
      try clear hcz32_0
      try clear hcz32_1
      try clear hcz32_2
      try clear hcz32_3
      try clear hcz32_4
      try clear hcz35_0
      try clear hcz35_1
      try clear hcz35_2
      try clear hcz35_3
      try clear hcz35_4
      try clear hcz37_0
      try clear hcz37_1
      try clear hcz37_2
      try clear hcz37_3
      try clear hcz37_4
      try clear hcz39_0
      try clear hcz39_1
      try clear hcz39_2
      try clear hcz39_3
      try clear hcz39_4
      try clear hcz9_0
      try clear hcz9_1
      try clear hcz9_2
      try clear hcz9_3
      try clear hcz9_4
      try clear hfz15_0
      try clear hfz15_1
      try clear hfz15_2
      try clear hfz15_3
      try clear hfz15_4
      try clear hfz29_0
      try clear hfz29_1
      try clear hfz29_2
      try clear hfz29_3
      try clear hfz29_4
      try clear hfz32_0
      try clear hfz32_1
      try clear hfz32_2
      try clear hfz32_3
      try clear hfz32_4
      try clear hfz35_0
      try clear hfz35_1
      try clear hfz35_2
      try clear hfz35_3
      try clear hfz35_4
      try clear hfz37_0
      try clear hfz37_1
      try clear hfz37_2
      try clear hfz37_3
      try clear hfz37_4
      try clear hfz39_0
      try clear hfz39_1
      try clear hfz39_2
      try clear hfz39_3
      try clear hfz39_4
      try clear hfz9_0
      try clear hfz9_1
      try clear hfz9_2
      try clear hfz9_3
      try clear hfz9_4
      try clear hx372_0
      try clear hx372_1
      try clear hx372_2
      try clear hx372_3
      try clear hx372_4
      try clear p372
      try clear q372
      obtain ⟨kq, x86_13, rfl, HA, HJ13, HO_5, BK364, HB⟩ := hcut
      cases kq with
      | zero => exact absurd HA.out (by simp [laws_FnCustody.j0])
      | succ kj13 =>
        have H := HA.out
        clear HA
        simp only [laws_FnCustody.j0] at H
        by_cases c42 : x86_13 = true
        · subst c42
          have H1 : (some false) = some r := by rw [if_pos rfl] at H; exact H
          clear H
          have H := H1
          clear H1
          obtain rfl := Option.some.inj H
          go_wp2
          go_ret
          exact ⟨by first | rfl | (simp [errW_none, errW_some] <;> rfl) | (simp [*, errW_none, errW_some] <;> rfl), by repeat (first | (with_reducible first | exact HB.out | apply bA | apply bN | apply b1 | refine bS ?_ GE364.out) | exact HB.out)⟩
        replace c42 := Bool.eq_false_iff.mpr c42
        subst c42
        have H1 : (if t360 ≥ 3 then ((impl_AddHand.f kj13 t365 t359 2 1 t362 0).bind fun bt374 => (if bt374.2 = true then (some false) else (laws_FnCustody.j1 kj13 l0))) else (laws_FnCustody.j1 kj13 l0)) = some r := by rw [if_neg (show ¬ (false = true) by decide)] at H; exact H
        clear H
        have H := H1
        clear H1
        by_cases c43 : t360 ≥ 3
        rotate_left
        · rw [if_neg c43] at H
          have c43b0 : decide (3 ≤ t360) = false := decide_eq_false c43
          clear c43
          have H' := zK H
          clear H
          have hcz50_0 : wc.cell? ⟨gb364, 0, none⟩ = some (.int .i64 t359) := (bc BK364.out 0).trans rfl
          have hcz50_1 : wc.cell? ⟨gb364, 1, none⟩ = some (.int .i64 t360) := (bc BK364.out 1).trans rfl
          have hcz50_2 : wc.cell? ⟨gb364, 2, none⟩ = some (.int .i64 t361) := (bc BK364.out 2).trans rfl
          have hcz50_3 : wc.cell? ⟨gb364, 3, none⟩ = some (.int .i64 t362) := (bc BK364.out 3).trans rfl
          have hcz50_4 : wc.cell? ⟨gb364, 4, none⟩ = some (.int .i64 t363) := (bc BK364.out 4).trans rfl
          have hfz50_0 := bf BK364.out 0
          have hfz50_1 := bf BK364.out 1
          have hfz50_2 := bf BK364.out 2
          have hfz50_3 := bf BK364.out 3
          have hfz50_4 := bf BK364.out 4
          go_wp2
          go_meet
          case rel => exact ⟨_, H', ⟨by have := HJ13.out; first | omega | exact Nat.le_refl _⟩, ⟨by (with_reducible repeat (first | refine kN ?_ _ | refine kD ?_ | refine kA ?_ _)); exact BK364.out⟩, ⟨by repeat (first | (with_reducible first | exact HB.out | apply bA | apply bN | apply b1 | refine bS ?_ GE364.out) | exact HB.out)⟩⟩
        rw [if_pos c43] at H
        have c43b0 : decide (3 ≤ t360) = true := decide_eq_true c43
        clear c43
        replace H := Option.bind_eq_some_iff.mp H
        obtain ⟨⟨t374, t377⟩, A440, H⟩ := H
        replace H : (if t377 = true then (some false) else (laws_FnCustody.j1 kj13 l0)) = some r := H
        have A44 := zK A440
        clear A440
        by_cases c45 : t377 = true
        · subst c45
          have H1 : (some false) = some r := by rw [if_pos rfl] at H; exact H
          clear H
          have H := H1
          clear H1
          obtain rfl := Option.some.inj H
          have hcz46_0 : wc.cell? ⟨gb364, 0, none⟩ = some (.int .i64 t359) := (bc BK364.out 0).trans rfl
          have hcz46_1 : wc.cell? ⟨gb364, 1, none⟩ = some (.int .i64 t360) := (bc BK364.out 1).trans rfl
          have hcz46_2 : wc.cell? ⟨gb364, 2, none⟩ = some (.int .i64 t361) := (bc BK364.out 2).trans rfl
          have hcz46_3 : wc.cell? ⟨gb364, 3, none⟩ = some (.int .i64 t362) := (bc BK364.out 3).trans rfl
          have hcz46_4 : wc.cell? ⟨gb364, 4, none⟩ = some (.int .i64 t363) := (bc BK364.out 4).trans rfl
          have hfz46_0 := bf BK364.out 0
          have hfz46_1 := bf BK364.out 1
          have hfz46_2 := bf BK364.out 2
          have hfz46_3 := bf BK364.out 3
          have hfz46_4 := bf BK364.out 4
          go_wp2_with (first | ((with_reducible refine gate_callee (f := 63) rfl ?_); refine goesL_ (some 97) rfl rfl Try.func63 (by kernel_rfl) rfl #[.slice Ao16 t365.length co16, .agg #[.int .i64 t359, .int .i64 2, .int .i64 1, .int .i64 t362, .int .i64 0]] rfl (by (try simp only [List.map_toArray, List.map_cons, List.map_nil]); first | done | rfl | (simp only [List.length_drop, List.length_take]; rfl)) ?_; (with_reducible refine (impl_AddHand.calls kj13 _ _ t365 t359 2 1 t362 0 t374 true _ ?side1 ?side2 A44.out).mono ?_); (case side1 => repeat (first | exact (Kd.R_reads' HO_5.out).2.2 | (with_reducible refine Kd.CA ?_ _) | (with_reducible refine Kd.CN ?_ _) | (with_reducible refine Kd.CD ?_))); (case side2 => exact (Kd.R_reads' HO_5.out).2.1); rintro e w47 ⟨v375, rfl, ho0, hb⟩; refine ⟨_, rfl, ?_⟩; have n0_ := zK (Kd.R_elder' (by (with_reducible repeat (first | apply Kd.RA | apply Kd.RN | apply Kd.RD)); exact HO_5.out) (Kd.R_base ho0) hb); have n1_ := zK (Kd.R_lower (Kd.R_newB (Kd.R_new' ho0 (Kd.R_lt (by (with_reducible repeat (first | apply Kd.RA | apply Kd.RN | apply Kd.RD)); exact HO_5.out))) (g := gb364) (o := .cells #[.int .i64 t359, .int .i64 t360, .int .i64 t361, .int .i64 t362, .int .i64 t363] 95 (0, 0)) (by (with_reducible repeat (first | refine kN ?_ _ | refine kD ?_ | refine kA ?_ _)); exact BK364.out)) (bZ (by repeat (first | (with_reducible first | exact HB.out | apply bA | apply bN | apply b1 | refine bS ?_ GE364.out) | exact HB.out)))); have n2_ := zK (bB (g := gb364) (o := .cells #[.int .i64 t359, .int .i64 t360, .int .i64 t361, .int .i64 t362, .int .i64 t363] 95 (0, 0)) (by (with_reducible repeat (first | refine kN ?_ _ | refine kD ?_ | refine kA ?_ _)); exact BK364.out) hb); have n3_ := zK (bT (by repeat (first | (with_reducible first | exact HB.out | apply bA | apply bN | apply b1 | refine bS ?_ GE364.out) | exact HB.out)) hb); clear HO_5; clear BK364; clear HB; have HO_5 := n0_; have HO376 := n1_; have BK364 := n2_; have HB := n3_; clear n0_ n1_ n2_ n3_; (try clear hb); (try clear hb2); (try clear hk); (try clear hi); (try clear ho0)))
          go_ret
          exact ⟨by first | rfl | (simp [errW_none, errW_some] <;> rfl) | (simp [*, errW_none, errW_some] <;> rfl), by repeat (first | (with_reducible first | exact HB.out | apply bA | apply bN | apply b1 | refine bS ?_ GE364.out) | exact HB.out)⟩
        replace c45 := Bool.eq_false_iff.mpr c45
        subst c45
        have H1 : (laws_FnCustody.j1 kj13 l0) = some r := by rw [if_neg (show ¬ (false = true) by decide)] at H; exact H
        clear H
        have H := H1
        clear H1
        have H' := zK H
        clear H
        have hcz48_0 : wc.cell? ⟨gb364, 0, none⟩ = some (.int .i64 t359) := (bc BK364.out 0).trans rfl
        have hcz48_1 : wc.cell? ⟨gb364, 1, none⟩ = some (.int .i64 t360) := (bc BK364.out 1).trans rfl
        have hcz48_2 : wc.cell? ⟨gb364, 2, none⟩ = some (.int .i64 t361) := (bc BK364.out 2).trans rfl
        have hcz48_3 : wc.cell? ⟨gb364, 3, none⟩ = some (.int .i64 t362) := (bc BK364.out 3).trans rfl
        have hcz48_4 : wc.cell? ⟨gb364, 4, none⟩ = some (.int .i64 t363) := (bc BK364.out 4).trans rfl
        have hfz48_0 := bf BK364.out 0
        have hfz48_1 := bf BK364.out 1
        have hfz48_2 := bf BK364.out 2
        have hfz48_3 := bf BK364.out 3
        have hfz48_4 := bf BK364.out 4
        go_wp2_with (first | ((with_reducible refine gate_callee (f := 63) rfl ?_); refine goesL_ (some 97) rfl rfl Try.func63 (by kernel_rfl) rfl #[.slice Ao16 t365.length co16, .agg #[.int .i64 t359, .int .i64 2, .int .i64 1, .int .i64 t362, .int .i64 0]] rfl (by (try simp only [List.map_toArray, List.map_cons, List.map_nil]); first | done | rfl | (simp only [List.length_drop, List.length_take]; rfl)) ?_; (with_reducible refine (impl_AddHand.calls kj13 _ _ t365 t359 2 1 t362 0 t374 false _ ?side1 ?side2 A44.out).mono ?_); (case side1 => repeat (first | exact (Kd.R_reads' HO_5.out).2.2 | (with_reducible refine Kd.CA ?_ _) | (with_reducible refine Kd.CN ?_ _) | (with_reducible refine Kd.CD ?_))); (case side2 => exact (Kd.R_reads' HO_5.out).2.1); rintro e w49 ⟨v375, rfl, ho0, hb⟩; refine ⟨_, rfl, ?_⟩; have n0_ := zK (Kd.R_elder' (by (with_reducible repeat (first | apply Kd.RA | apply Kd.RN | apply Kd.RD)); exact HO_5.out) (Kd.R_base ho0) hb); have n1_ := zK (Kd.R_lower (Kd.R_newB (Kd.R_new' ho0 (Kd.R_lt (by (with_reducible repeat (first | apply Kd.RA | apply Kd.RN | apply Kd.RD)); exact HO_5.out))) (g := gb364) (o := .cells #[.int .i64 t359, .int .i64 t360, .int .i64 t361, .int .i64 t362, .int .i64 t363] 95 (0, 0)) (by (with_reducible repeat (first | refine kN ?_ _ | refine kD ?_ | refine kA ?_ _)); exact BK364.out)) (bZ (by repeat (first | (with_reducible first | exact HB.out | apply bA | apply bN | apply b1 | refine bS ?_ GE364.out) | exact HB.out)))); have n2_ := zK (bB (g := gb364) (o := .cells #[.int .i64 t359, .int .i64 t360, .int .i64 t361, .int .i64 t362, .int .i64 t363] 95 (0, 0)) (by (with_reducible repeat (first | refine kN ?_ _ | refine kD ?_ | refine kA ?_ _)); exact BK364.out) hb); have n3_ := zK (bT (by repeat (first | (with_reducible first | exact HB.out | apply bA | apply bN | apply b1 | refine bS ?_ GE364.out) | exact HB.out)) hb); clear HO_5; clear BK364; clear HB; have HO_5 := n0_; have HO376 := n1_; have BK364 := n2_; have HB := n3_; clear n0_ n1_ n2_ n3_; (try clear hb); (try clear hb2); (try clear hk); (try clear hi); (try clear ho0)))
        go_meet
        case rel => exact ⟨_, H', ⟨by have := HJ13.out; first | omega | exact Nat.le_refl _⟩, ⟨by (with_reducible repeat (first | refine kN ?_ _ | refine kD ?_ | refine kA ?_ _)); exact BK364.out⟩, ⟨by repeat (first | (with_reducible first | exact HB.out | apply bA | apply bN | apply b1 | refine bS ?_ GE364.out) | exact HB.out)⟩⟩
  case rest =>
    clear HC6
    try clear c1
    try clear c2
    try clear p2
    try clear c3
    try clear p3
    try clear q3
    try clear hx3
    try clear c4
    try clear c5
    try clear c6
    try clear p6
    try clear c10
    try clear c12
    try clear c19
    try clear c20
    try clear c20b0
    try clear c20b1
    try clear c21
    try clear c21b0
    try clear c21b1
    try clear c22
    try clear c22b0
    try clear c22b1
    try clear c23
    try clear c23b0
    try clear c23b1
    try clear c24
    try clear c24b0
    try clear c24b1
    try clear c25
    try clear c25b0
    try clear c25b1
    try clear c27
    try clear c27b0
    try clear c27b1
    try clear c33
    try clear p37
    try clear q37
    try clear hx37
    try clear c42
    try clear c43
    try clear c43b0
    try clear c45
    try clear c51
    try clear c51b0
    try clear c51b1
    try clear c51b2
    try clear hcz15_0
    try clear hcz15_1
    try clear hcz15_2
    try clear hcz15_3
    try clear hcz15_4
    try clear hcz29_0
    try clear hcz29_1
    try clear hcz29_2
    try clear hcz29_3
    try clear hcz29_4
    try clear hcz32_0
    try clear hcz32_1
    try clear hcz32_2
    try clear hcz32_3
    try clear hcz32_4
    try clear hcz35_0
    try clear hcz35_1
    try clear hcz35_2
    try clear hcz35_3
    try clear hcz35_4
    try clear hcz37_0
    try clear hcz37_1
    try clear hcz37_2
    try clear hcz37_3
    try clear hcz37_4
    try clear hcz39_0
    try clear hcz39_1
    try clear hcz39_2
    try clear hcz39_3
    try clear hcz39_4
    try clear hcz46_0
    try clear hcz46_1
    try clear hcz46_2
    try clear hcz46_3
    try clear hcz46_4
    try clear hcz48_0
    try clear hcz48_1
    try clear hcz48_2
    try clear hcz48_3
    try clear hcz48_4
    try clear hcz50_0
    try clear hcz50_1
    try clear hcz50_2
    try clear hcz50_3
    try clear hcz50_4
    try clear hcz9_0
    try clear hcz9_1
    try clear hcz9_2
    try clear hcz9_3
    try clear hcz9_4
    try clear hfz15_0
    try clear hfz15_1
    try clear hfz15_2
    try clear hfz15_3
    try clear hfz15_4
    try clear hfz29_0
    try clear hfz29_1
    try clear hfz29_2
    try clear hfz29_3
    try clear hfz29_4
    try clear hfz32_0
    try clear hfz32_1
    try clear hfz32_2
    try clear hfz32_3
    try clear hfz32_4
    try clear hfz35_0
    try clear hfz35_1
    try clear hfz35_2
    try clear hfz35_3
    try clear hfz35_4
    try clear hfz37_0
    try clear hfz37_1
    try clear hfz37_2
    try clear hfz37_3
    try clear hfz37_4
    try clear hfz39_0
    try clear hfz39_1
    try clear hfz39_2
    try clear hfz39_3
    try clear hfz39_4
    try clear hfz46_0
    try clear hfz46_1
    try clear hfz46_2
    try clear hfz46_3
    try clear hfz46_4
    try clear hfz48_0
    try clear hfz48_1
    try clear hfz48_2
    try clear hfz48_3
    try clear hfz48_4
    try clear hfz50_0
    try clear hfz50_1
    try clear hfz50_2
    try clear hfz50_3
    try clear hfz50_4
    try clear hfz9_0
    try clear hfz9_1
    try clear hfz9_2
    try clear hfz9_3
    try clear hfz9_4
    try clear hx372_0
    try clear hx372_1
    try clear hx372_2
    try clear hx372_3
    try clear hx372_4
    try clear p2
    try clear p3
    try clear p37
    try clear p372
    try clear p6
    try clear q3
    try clear q37
    try clear q372
    obtain ⟨kq, HA, HJ5, BK364, HB⟩ := hcut
    cases kq with
    | zero => exact absurd HA.out (by simp [laws_FnCustody.j1])
    | succ kj5 =>
      have H := HA.out
      clear HA
      simp only [laws_FnCustody.j1] at H
      replace H := Option.bind_eq_some_iff.mp H
      obtain ⟨⟨t378, t379, t380⟩, A540, H⟩ := H
      replace H : ((impl_HolderAt.f kj5 t378 t379 t380).bind fun bt383 => (if bt383.1 = 0 then (laws_FnCustody.j2 kj5 l0 false) else ((impl_HandsOf.f kj5 t378 t379).bind fun t385 => (if (t385.length : Int) = 0 then (laws_FnCustody.j2 kj5 l0 true) else ((impl_IsChain.f kj5 t378).bind fun t388 => (laws_FnCustody.j2 kj5 l0 (!t388))))))) = some r := H
      have A54 := zK A540
      clear A540
      replace H := Option.bind_eq_some_iff.mp H
      obtain ⟨⟨t383, t384⟩, A550, H⟩ := H
      replace H : (if t383 = 0 then (laws_FnCustody.j2 kj5 l0 false) else ((impl_HandsOf.f kj5 t378 t379).bind fun t385 => (if (t385.length : Int) = 0 then (laws_FnCustody.j2 kj5 l0 true) else ((impl_IsChain.f kj5 t378).bind fun t388 => (laws_FnCustody.j2 kj5 l0 (!t388)))))) = some r := H
      have A55 := zK A550
      clear A550
      have HC56 := zK H
      clear H
      go_upto_region 17 with (first | ((with_reducible refine gate_callee (f := 67) rfl ?_); refine goesL_ (some 108) rfl rfl Try.func67 (by kernel_rfl) rfl #[.slice A0 l0.length c0] rfl (by (try simp only [List.map_toArray, List.map_cons, List.map_nil]); first | done | rfl | (simp only [List.length_drop, List.length_take]; rfl)) ?_; (with_reducible refine (spec_DrawHolderAt.calls kj5 _ _ l0 t378 t379 t380 _ ?side1 ?side2 A54.out).mono ?_); (case side1 => repeat (first | exact (Kd.C_below HR0.out HB.out) | (with_reducible refine Kd.CA ?_ _) | (with_reducible refine Kd.CN ?_ _) | (with_reducible refine Kd.CD ?_))); (case side2 => exact HC0.out); rintro e w57 ⟨v381, rfl, ho0, hb⟩; refine ⟨_, rfl, ?_⟩; have n0_ := zK (Kd.R_lower (Kd.R_newB ho0 (g := gb364) (o := .cells #[.int .i64 t359, .int .i64 t360, .int .i64 t361, .int .i64 t362, .int .i64 t363] 95 (0, 0)) (by (with_reducible repeat (first | refine kN ?_ _ | refine kD ?_ | refine kA ?_ _)); exact BK364.out)) (bZ (by repeat (first | (with_reducible first | exact HB.out | apply bA | apply bN | apply b1 | refine bS ?_ GE364.out) | exact HB.out)))); have n1_ := zK (bB (g := gb364) (o := .cells #[.int .i64 t359, .int .i64 t360, .int .i64 t361, .int .i64 t362, .int .i64 t363] 95 (0, 0)) (by (with_reducible repeat (first | refine kN ?_ _ | refine kD ?_ | refine kA ?_ _)); exact BK364.out) hb); have n2_ := zK (bT (by repeat (first | (with_reducible first | exact HB.out | apply bA | apply bN | apply b1 | refine bS ?_ GE364.out) | exact HB.out)) hb); clear BK364; clear HB; have HO382 := n0_; have BK364 := n1_; have HB := n2_; clear n0_ n1_ n2_; (try clear hb); (try clear hb2); (try clear hk); (try clear hi); (try clear ho0); obtain ⟨Ao58, co58, eo58⟩ := Kd.R_slice HO382.out; subst eo58) | ((with_reducible refine gate_callee (f := 64) rfl ?_); refine goesL_ (some 116) rfl rfl Try.func64 (by kernel_rfl) rfl #[.slice Ao58 t378.length co58, .int .i64 t379, .int .i64 t380] rfl (by (try simp only [List.map_toArray, List.map_cons, List.map_nil]); first | done | rfl | (simp only [List.length_drop, List.length_take]; rfl)) ?_; (with_reducible refine (impl_HolderAt.calls kj5 _ _ t378 t379 t380 t383 t384 _ ?side1 ?side2 A55.out).mono ?_); (case side1 => repeat (first | exact (Kd.R_reads' HO382.out).2.2 | (with_reducible refine Kd.CA ?_ _) | (with_reducible refine Kd.CN ?_ _) | (with_reducible refine Kd.CD ?_))); (case side2 => exact (Kd.R_reads' HO382.out).2.1); rintro e w59 ⟨rfl, hb⟩; refine ⟨_, rfl, ?_⟩; have n0_ := zK (Kd.R_below (by (with_reducible repeat (first | apply Kd.RA | apply Kd.RN | apply Kd.RD)); exact HO382.out) hb); have n1_ := zK (bB (g := gb364) (o := .cells #[.int .i64 t359, .int .i64 t360, .int .i64 t361, .int .i64 t362, .int .i64 t363] 95 (0, 0)) (by (with_reducible repeat (first | refine kN ?_ _ | refine kD ?_ | refine kA ?_ _)); exact BK364.out) hb); have n2_ := zK (bT (by repeat (first | (with_reducible first | exact HB.out | apply bA | apply bN | apply b1 | refine bS ?_ GE364.out) | exact HB.out)) hb); clear HO382; clear BK364; clear HB; have HO382 := n0_; have BK364 := n1_; have HB := n2_; clear n0_ n1_ n2_; (try clear hb); (try clear hb2); (try clear hk); (try clear hi)))
      (try simp only [Act.put, sA, sZ, sS])
      go_cut [132] (fun v132 wc => ∃ (kq : Nat) (x132_55 : Bool), v132 = .bool x132_55 ∧ Aside0 (laws_FnCustody.j2 kq l0 x132_55 = some r) ∧ Aside0 (kq ≤ kj5) ∧ Aside0 (wc.heap[gb364]? = some (.cells #[.int .i64 t359, .int .i64 t360, .int .i64 t361, .int .i64 t362, .int .i64 t363] 95 (0, 0))) ∧ Aside0 (Below w.heap.size w wc))
      case first =>
        have H := HC56.out
        clear HC56
        by_cases c60 : t383 = 0
        · rw [if_pos c60] at H
          have c60b0 : (t383 == 0) = true := beq_iff_eq.mpr c60
          have c60b1 : (t383 != 0) = false := bne_eq_false_iff_eq.mpr c60
          clear c60
          (first | rw [c60b0] | rw [c60b1] | (simp only [i64_w, i32_w]; rw [c60b0]) | skip)
          have H' := zK H
          clear H
          go_wp2
          go_meet
          case rel => exact ⟨_, (false), (by first | rfl | (simp; done) | (simp [*]; done)), H', ⟨by have := HJ5.out; first | omega | exact Nat.le_refl _⟩, ⟨by (with_reducible repeat (first | refine kN ?_ _ | refine kD ?_ | refine kA ?_ _)); exact BK364.out⟩, ⟨by repeat (first | (with_reducible first | exact HB.out | apply bA | apply bN | apply b1 | refine bS ?_ GE364.out) | exact HB.out)⟩⟩
        rw [if_neg c60] at H
        have c60b0 : (t383 == 0) = false := beq_eq_false_iff_ne.mpr c60
        have c60b1 : (t383 != 0) = true := bne_iff_ne.mpr c60
        (first | rw [c60b0] | rw [c60b1] | (simp only [i64_w, i32_w]; rw [c60b0]) | skip)
        replace H := Option.bind_eq_some_iff.mp H
        obtain ⟨t385, A610, H⟩ := H
        replace H : (if (t385.length : Int) = 0 then (laws_FnCustody.j2 kj5 l0 true) else ((impl_IsChain.f kj5 t378).bind fun t388 => (laws_FnCustody.j2 kj5 l0 (!t388)))) = some r := H
        have A61 := zK A610
        clear A610
        by_cases c62 : (t385.length : Int) = 0
        · rw [if_pos c62] at H
          have c62b0 : ((t385.length : Int) == 0) = true := beq_iff_eq.mpr c62
          have c62b1 : ((t385.length : Int) != 0) = false := bne_eq_false_iff_eq.mpr c62
          clear c62
          have H' := zK H
          clear H
          go_wp2_with (first | (go_at_call 68; (with_reducible refine (impl_HandsOf.calls kj5 _ _ t378 t379 t385 _ ?side1 ?side2 A61.out).mono ?_); (case side1 => repeat (first | exact (Kd.R_reads' HO382.out).2.2 | (with_reducible refine Kd.CA ?_ _) | (with_reducible refine Kd.CN ?_ _) | (with_reducible refine Kd.CD ?_))); (case side2 => exact (Kd.R_reads' HO382.out).2.1); rintro e w63 ⟨v386, rfl, ho0, hb⟩; have n0_ := zK (Kd.R_elder' (by (with_reducible repeat (first | apply Kd.RA | apply Kd.RN | apply Kd.RD)); exact HO382.out) (Kd.R_base ho0) hb); have n1_ := zK (Kd.R_lower (Kd.R_newB (Kd.R_new' ho0 (Kd.R_lt (by (with_reducible repeat (first | apply Kd.RA | apply Kd.RN | apply Kd.RD)); exact HO382.out))) (g := gb364) (o := .cells #[.int .i64 t359, .int .i64 t360, .int .i64 t361, .int .i64 t362, .int .i64 t363] 95 (0, 0)) (by (with_reducible repeat (first | refine kN ?_ _ | refine kD ?_ | refine kA ?_ _)); exact BK364.out)) (bZ (by repeat (first | (with_reducible first | exact HB.out | apply bA | apply bN | apply b1 | refine bS ?_ GE364.out) | exact HB.out)))); have n2_ := zK (bB (g := gb364) (o := .cells #[.int .i64 t359, .int .i64 t360, .int .i64 t361, .int .i64 t362, .int .i64 t363] 95 (0, 0)) (by (with_reducible repeat (first | refine kN ?_ _ | refine kD ?_ | refine kA ?_ _)); exact BK364.out) hb); have n3_ := zK (bT (by repeat (first | (with_reducible first | exact HB.out | apply bA | apply bN | apply b1 | refine bS ?_ GE364.out) | exact HB.out)) hb); clear HO382; clear BK364; clear HB; have HO382 := n0_; have HO387 := n1_; have BK364 := n2_; have HB := n3_; clear n0_ n1_ n2_ n3_; (try clear hb); (try clear hb2); (try clear hk); (try clear hi); (try clear ho0); obtain ⟨Ao64, co64, eo64⟩ := Kd.R_slice HO387.out; subst eo64))
          go_meet
          case rel => exact ⟨_, (true), (by first | rfl | (simp; done) | (simp [*]; done)), H', ⟨by have := HJ5.out; first | omega | exact Nat.le_refl _⟩, ⟨by (with_reducible repeat (first | refine kN ?_ _ | refine kD ?_ | refine kA ?_ _)); exact BK364.out⟩, ⟨by repeat (first | (with_reducible first | exact HB.out | apply bA | apply bN | apply b1 | refine bS ?_ GE364.out) | exact HB.out)⟩⟩
        rw [if_neg c62] at H
        have c62b0 : ((t385.length : Int) == 0) = false := beq_eq_false_iff_ne.mpr c62
        have c62b1 : ((t385.length : Int) != 0) = true := bne_iff_ne.mpr c62
        have c62b2 : ¬ (t385 = []) := fun h_ => c62 (by rw [h_]; rfl)
        replace H := Option.bind_eq_some_iff.mp H
        obtain ⟨t388, A650, H⟩ := H
        replace H : (laws_FnCustody.j2 kj5 l0 (!t388)) = some r := H
        have A65 := zK A650
        clear A650
        have H' := zK H
        clear H
        go_wp2_with (first | (go_at_call 68; (with_reducible refine (impl_HandsOf.calls kj5 _ _ t378 t379 t385 _ ?side1 ?side2 A61.out).mono ?_); (case side1 => repeat (first | exact (Kd.R_reads' HO382.out).2.2 | (with_reducible refine Kd.CA ?_ _) | (with_reducible refine Kd.CN ?_ _) | (with_reducible refine Kd.CD ?_))); (case side2 => exact (Kd.R_reads' HO382.out).2.1); rintro e w66 ⟨v386, rfl, ho0, hb⟩; have n0_ := zK (Kd.R_elder' (by (with_reducible repeat (first | apply Kd.RA | apply Kd.RN | apply Kd.RD)); exact HO382.out) (Kd.R_base ho0) hb); have n1_ := zK (Kd.R_lower (Kd.R_newB (Kd.R_new' ho0 (Kd.R_lt (by (with_reducible repeat (first | apply Kd.RA | apply Kd.RN | apply Kd.RD)); exact HO382.out))) (g := gb364) (o := .cells #[.int .i64 t359, .int .i64 t360, .int .i64 t361, .int .i64 t362, .int .i64 t363] 95 (0, 0)) (by (with_reducible repeat (first | refine kN ?_ _ | refine kD ?_ | refine kA ?_ _)); exact BK364.out)) (bZ (by repeat (first | (with_reducible first | exact HB.out | apply bA | apply bN | apply b1 | refine bS ?_ GE364.out) | exact HB.out)))); have n2_ := zK (bB (g := gb364) (o := .cells #[.int .i64 t359, .int .i64 t360, .int .i64 t361, .int .i64 t362, .int .i64 t363] 95 (0, 0)) (by (with_reducible repeat (first | refine kN ?_ _ | refine kD ?_ | refine kA ?_ _)); exact BK364.out) hb); have n3_ := zK (bT (by repeat (first | (with_reducible first | exact HB.out | apply bA | apply bN | apply b1 | refine bS ?_ GE364.out) | exact HB.out)) hb); clear HO382; clear BK364; clear HB; have HO382 := n0_; have HO387 := n1_; have BK364 := n2_; have HB := n3_; clear n0_ n1_ n2_ n3_; (try clear hb); (try clear hb2); (try clear hk); (try clear hi); (try clear ho0); obtain ⟨Ao67, co67, eo67⟩ := Kd.R_slice HO387.out; subst eo67) | (go_at_call 65; (with_reducible refine (impl_IsChain.calls kj5 _ _ t378 t388 _ ?side1 ?side2 A65.out).mono ?_); (case side1 => repeat (first | exact (Kd.R_reads' HO382.out).2.2 | (with_reducible refine Kd.CA ?_ _) | (with_reducible refine Kd.CN ?_ _) | (with_reducible refine Kd.CD ?_))); (case side2 => exact (Kd.R_reads' HO382.out).2.1); rintro e w68 ⟨rfl, hb⟩; have n0_ := zK (Kd.R_below (by (with_reducible repeat (first | apply Kd.RA | apply Kd.RN | apply Kd.RD)); exact HO382.out) hb); have n1_ := zK (Kd.R_below (by (with_reducible repeat (first | apply Kd.RA | apply Kd.RN | apply Kd.RD)); exact HO387.out) hb); have n2_ := zK (bB (g := gb364) (o := .cells #[.int .i64 t359, .int .i64 t360, .int .i64 t361, .int .i64 t362, .int .i64 t363] 95 (0, 0)) (by (with_reducible repeat (first | refine kN ?_ _ | refine kD ?_ | refine kA ?_ _)); exact BK364.out) hb); have n3_ := zK (bT (by repeat (first | (with_reducible first | exact HB.out | apply bA | apply bN | apply b1 | refine bS ?_ GE364.out) | exact HB.out)) hb); clear HO382; clear HO387; clear BK364; clear HB; have HO382 := n0_; have HO387 := n1_; have BK364 := n2_; have HB := n3_; clear n0_ n1_ n2_ n3_; (try clear hb); (try clear hb2); (try clear hk); (try clear hi)))
        go_meet
        case rel => exact ⟨_, (!t388), (by first | rfl | (simp; done) | (simp [*]; done)), H', ⟨by have := HJ5.out; first | omega | exact Nat.le_refl _⟩, ⟨by (with_reducible repeat (first | refine kN ?_ _ | refine kD ?_ | refine kA ?_ _)); exact BK364.out⟩, ⟨by repeat (first | (with_reducible first | exact HB.out | apply bA | apply bN | apply b1 | refine bS ?_ GE364.out) | exact HB.out)⟩⟩
      case rest =>
        clear HC56
        try clear c1
        try clear c2
        try clear p2
        try clear c3
        try clear p3
        try clear q3
        try clear hx3
        try clear c4
        try clear c5
        try clear c6
        try clear p6
        try clear c10
        try clear c12
        try clear c19
        try clear c20
        try clear c20b0
        try clear c20b1
        try clear c21
        try clear c21b0
        try clear c21b1
        try clear c22
        try clear c22b0
        try clear c22b1
        try clear c23
        try clear c23b0
        try clear c23b1
        try clear c24
        try clear c24b0
        try clear c24b1
        try clear c25
        try clear c25b0
        try clear c25b1
        try clear c27
        try clear c27b0
        try clear c27b1
        try clear c33
        try clear p37
        try clear q37
        try clear hx37
        try clear c42
        try clear c43
        try clear c43b0
        try clear c45
        try clear c51
        try clear c51b0
        try clear c51b1
        try clear c51b2
        try clear c60
        try clear c60b0
        try clear c60b1
        try clear c62
        try clear c62b0
        try clear c62b1
        try clear c62b2
        try clear c63
        try clear c64
        try clear p64
        try clear c65
        try clear c67
        try clear hcz15_0
        try clear hcz15_1
        try clear hcz15_2
        try clear hcz15_3
        try clear hcz15_4
        try clear hcz29_0
        try clear hcz29_1
        try clear hcz29_2
        try clear hcz29_3
        try clear hcz29_4
        try clear hcz32_0
        try clear hcz32_1
        try clear hcz32_2
        try clear hcz32_3
        try clear hcz32_4
        try clear hcz35_0
        try clear hcz35_1
        try clear hcz35_2
        try clear hcz35_3
        try clear hcz35_4
        try clear hcz37_0
        try clear hcz37_1
        try clear hcz37_2
        try clear hcz37_3
        try clear hcz37_4
        try clear hcz39_0
        try clear hcz39_1
        try clear hcz39_2
        try clear hcz39_3
        try clear hcz39_4
        try clear hcz46_0
        try clear hcz46_1
        try clear hcz46_2
        try clear hcz46_3
        try clear hcz46_4
        try clear hcz48_0
        try clear hcz48_1
        try clear hcz48_2
        try clear hcz48_3
        try clear hcz48_4
        try clear hcz50_0
        try clear hcz50_1
        try clear hcz50_2
        try clear hcz50_3
        try clear hcz50_4
        try clear hcz9_0
        try clear hcz9_1
        try clear hcz9_2
        try clear hcz9_3
        try clear hcz9_4
        try clear hfz15_0
        try clear hfz15_1
        try clear hfz15_2
        try clear hfz15_3
        try clear hfz15_4
        try clear hfz29_0
        try clear hfz29_1
        try clear hfz29_2
        try clear hfz29_3
        try clear hfz29_4
        try clear hfz32_0
        try clear hfz32_1
        try clear hfz32_2
        try clear hfz32_3
        try clear hfz32_4
        try clear hfz35_0
        try clear hfz35_1
        try clear hfz35_2
        try clear hfz35_3
        try clear hfz35_4
        try clear hfz37_0
        try clear hfz37_1
        try clear hfz37_2
        try clear hfz37_3
        try clear hfz37_4
        try clear hfz39_0
        try clear hfz39_1
        try clear hfz39_2
        try clear hfz39_3
        try clear hfz39_4
        try clear hfz46_0
        try clear hfz46_1
        try clear hfz46_2
        try clear hfz46_3
        try clear hfz46_4
        try clear hfz48_0
        try clear hfz48_1
        try clear hfz48_2
        try clear hfz48_3
        try clear hfz48_4
        try clear hfz50_0
        try clear hfz50_1
        try clear hfz50_2
        try clear hfz50_3
        try clear hfz50_4
        try clear hfz9_0
        try clear hfz9_1
        try clear hfz9_2
        try clear hfz9_3
        try clear hfz9_4
        try clear hx372_0
        try clear hx372_1
        try clear hx372_2
        try clear hx372_3
        try clear hx372_4
        try clear p2
        try clear p3
        try clear p37
        try clear p372
        try clear p6
        try clear q3
        try clear q37
        try clear q372
        obtain ⟨kq, x132_55, rfl, HA, HJ55, BK364, HB⟩ := hcut
        cases kq with
        | zero => exact absurd HA.out (by simp [laws_FnCustody.j2])
        | succ kj55 =>
          have H := HA.out
          clear HA
          simp only [laws_FnCustody.j2] at H
          by_cases c69 : x132_55 = true
          · subst c69
            have H1 : (some false) = some r := by rw [if_pos rfl] at H; exact H
            clear H
            have H := H1
            clear H1
            obtain rfl := Option.some.inj H
            go_wp2
            go_ret
            exact ⟨by first | rfl | (simp [errW_none, errW_some] <;> rfl) | (simp [*, errW_none, errW_some] <;> rfl), by repeat (first | (with_reducible first | exact HB.out | apply bA | apply bN | apply b1 | refine bS ?_ GE364.out) | exact HB.out)⟩
          replace c69 := Bool.eq_false_iff.mpr c69
          subst c69
          have H1 : ((spec_DrawInHouse.f kj55 l0).bind fun bt389 => ((impl_InHouse.f kj55 bt389.1 bt389.2).bind fun t393 => (laws_FnCustody.l0 kj55 bt389.1 bt389.2 t393 0))) = some r := by rw [if_neg (show ¬ (false = true) by decide)] at H; exact H
          clear H
          have H := H1
          clear H1
          replace H := Option.bind_eq_some_iff.mp H
          obtain ⟨⟨t389, t390⟩, A700, H⟩ := H
          replace H : ((impl_InHouse.f kj55 t389 t390).bind fun t393 => (laws_FnCustody.l0 kj55 t389 t390 t393 0)) = some r := H
          have A70 := zK A700
          clear A700
          replace H := Option.bind_eq_some_iff.mp H
          obtain ⟨t393, A710, H⟩ := H
          replace H : (laws_FnCustody.l0 kj55 t389 t390 t393 0) = some r := H
          have A71 := zK A710
          clear A710
          have H' := zK H
          clear H
          go_wp2_with (first | ((with_reducible refine gate_callee (f := 69) rfl ?_); refine goesL_ (some 135) rfl rfl Try.func69 (by kernel_rfl) rfl #[.slice A0 l0.length c0] rfl (by (try simp only [List.map_toArray, List.map_cons, List.map_nil]); first | done | rfl | (simp only [List.length_drop, List.length_take]; rfl)) ?_; (with_reducible refine (spec_DrawInHouse.calls kj55 _ _ l0 t389 t390 _ ?side1 ?side2 A70.out).mono ?_); (case side1 => repeat (first | exact (Kd.C_below HR0.out HB.out) | (with_reducible refine Kd.CA ?_ _) | (with_reducible refine Kd.CN ?_ _) | (with_reducible refine Kd.CD ?_))); (case side2 => exact HC0.out); rintro e w72 ⟨v391, rfl, ho0, hb⟩; refine ⟨_, rfl, ?_⟩; have n0_ := zK (Kd.R_lower (Kd.R_newB ho0 (g := gb364) (o := .cells #[.int .i64 t359, .int .i64 t360, .int .i64 t361, .int .i64 t362, .int .i64 t363] 95 (0, 0)) (by (with_reducible repeat (first | refine kN ?_ _ | refine kD ?_ | refine kA ?_ _)); exact BK364.out)) (bZ (by repeat (first | (with_reducible first | exact HB.out | apply bA | apply bN | apply b1 | refine bS ?_ GE364.out) | exact HB.out)))); have n1_ := zK (bB (g := gb364) (o := .cells #[.int .i64 t359, .int .i64 t360, .int .i64 t361, .int .i64 t362, .int .i64 t363] 95 (0, 0)) (by (with_reducible repeat (first | refine kN ?_ _ | refine kD ?_ | refine kA ?_ _)); exact BK364.out) hb); have n2_ := zK (bT (by repeat (first | (with_reducible first | exact HB.out | apply bA | apply bN | apply b1 | refine bS ?_ GE364.out) | exact HB.out)) hb); clear BK364; clear HB; have HO392 := n0_; have BK364 := n1_; have HB := n2_; clear n0_ n1_ n2_; (try clear hb); (try clear hb2); (try clear hk); (try clear hi); (try clear ho0); obtain ⟨Ao73, co73, eo73⟩ := Kd.R_slice HO392.out; subst eo73) | ((with_reducible refine gate_callee (f := 48) rfl ?_); refine goesL_ (some 140) rfl rfl Try.func48 (by kernel_rfl) rfl #[.slice Ao73 t389.length co73, .int .i64 t390] rfl (by (try simp only [List.map_toArray, List.map_cons, List.map_nil]); first | done | rfl | (simp only [List.length_drop, List.length_take]; rfl)) ?_; (with_reducible refine (impl_InHouse.calls kj55 _ _ t389 t390 t393 _ ?side1 ?side2 A71.out).mono ?_); (case side1 => repeat (first | exact (Kd.R_reads' HO392.out).2.2 | (with_reducible refine Kd.CA ?_ _) | (with_reducible refine Kd.CN ?_ _) | (with_reducible refine Kd.CD ?_))); (case side2 => exact (Kd.R_reads' HO392.out).2.1); rintro e w74 ⟨v394, rfl, ho0, hb⟩; refine ⟨_, rfl, ?_⟩; have n0_ := zK (Kd.R_below (by (with_reducible repeat (first | apply Kd.RA | apply Kd.RN | apply Kd.RD)); exact HO392.out) hb); have n1_ := zK (Kd.R_lower ho0 (bZ (by repeat (first | (with_reducible first | exact HB.out | apply bA | apply bN | apply b1 | refine bS ?_ GE364.out) | exact HB.out)))); have n2_ := zK (bB (g := gb364) (o := .cells #[.int .i64 t359, .int .i64 t360, .int .i64 t361, .int .i64 t362, .int .i64 t363] 95 (0, 0)) (by (with_reducible repeat (first | refine kN ?_ _ | refine kD ?_ | refine kA ?_ _)); exact BK364.out) hb); have n3_ := zK (bT (by repeat (first | (with_reducible first | exact HB.out | apply bA | apply bN | apply b1 | refine bS ?_ GE364.out) | exact HB.out)) hb); clear HO392; clear BK364; clear HB; have HO392 := n0_; have HO395 := n1_; have BK364 := n2_; have HB := n3_; clear n0_ n1_ n2_ n3_; (try clear hb); (try clear hb2); (try clear hk); (try clear hi); (try clear ho0)))
          go_loopg [19] kj55 (fun kq v19 w' => ∃ (x19_3 : Int), v19 = .int .i64 x19_3 ∧ Aside0 (laws_FnCustody.l0 kq t389 t390 t393 x19_3 = some r) ∧ Aside0 (kq ≤ kj55) ∧ Aside0 (Kd.R k95 95 w' w.heap.size (fun k_ => k_ ≠ gb364) (.slice Ao73 t389.length co73) t389) ∧ Aside0 (Kd.R (Kd.int .i64) 3 w' w.heap.size (fun _ => True) v394 t393) ∧ Aside0 (w'.heap[gb364]? = some (.cells #[.int .i64 t359, .int .i64 t360, .int .i64 t361, .int .i64 t362, .int .i64 t363] 95 (0, 0))) ∧ Aside0 (Below w.heap.size w w'))
          case atStart => exact ⟨(0), (by first | rfl | (simp; done) | (simp [*]; done)), H', ⟨Nat.le_refl _⟩, ⟨by (with_reducible repeat (first | apply Kd.RA | apply Kd.RN | apply Kd.RD)); exact Kd.R_mono HO392.out (fun _ hk => hk.2)⟩, ⟨by (with_reducible repeat (first | apply Kd.RA | apply Kd.RN | apply Kd.RD)); exact HO395.out⟩, ⟨by (with_reducible repeat (first | refine kN ?_ _ | refine kD ?_ | refine kA ?_ _)); exact BK364.out⟩, ⟨by repeat (first | (with_reducible first | exact HB.out | apply bA | apply bN | apply b1 | refine bS ?_ GE364.out) | exact HB.out)⟩⟩
          case round =>
            clear H'
            try clear c1
            try clear c2
            try clear p2
            try clear c3
            try clear p3
            try clear q3
            try clear hx3
            try clear c4
            try clear c5
            try clear c6
            try clear p6
            try clear c10
            try clear c12
            try clear c19
            try clear c20
            try clear c20b0
            try clear c20b1
            try clear c21
            try clear c21b0
            try clear c21b1
            try clear c22
            try clear c22b0
            try clear c22b1
            try clear c23
            try clear c23b0
            try clear c23b1
            try clear c24
            try clear c24b0
            try clear c24b1
            try clear c25
            try clear c25b0
            try clear c25b1
            try clear c27
            try clear c27b0
            try clear c27b1
            try clear c33
            try clear p37
            try clear q37
            try clear hx37
            try clear c42
            try clear c43
            try clear c43b0
            try clear c45
            try clear c48
            try clear c51
            try clear c51b0
            try clear c51b1
            try clear c51b2
            try clear c60
            try clear c60b0
            try clear c60b1
            try clear c62
            try clear c62b0
            try clear c62b1
            try clear c62b2
            try clear c63
            try clear c64
            try clear p64
            try clear c65
            try clear c67
            try clear c69
            try clear hcz15_0
            try clear hcz15_1
            try clear hcz15_2
            try clear hcz15_3
            try clear hcz15_4
            try clear hcz29_0
            try clear hcz29_1
            try clear hcz29_2
            try clear hcz29_3
            try clear hcz29_4
            try clear hcz32_0
            try clear hcz32_1
            try clear hcz32_2
            try clear hcz32_3
            try clear hcz32_4
            try clear hcz35_0
            try clear hcz35_1
            try clear hcz35_2
            try clear hcz35_3
            try clear hcz35_4
            try clear hcz37_0
            try clear hcz37_1
            try clear hcz37_2
            try clear hcz37_3
            try clear hcz37_4
            try clear hcz39_0
            try clear hcz39_1
            try clear hcz39_2
            try clear hcz39_3
            try clear hcz39_4
            try clear hcz46_0
            try clear hcz46_1
            try clear hcz46_2
            try clear hcz46_3
            try clear hcz46_4
            try clear hcz48_0
            try clear hcz48_1
            try clear hcz48_2
            try clear hcz48_3
            try clear hcz48_4
            try clear hcz50_0
            try clear hcz50_1
            try clear hcz50_2
            try clear hcz50_3
            try clear hcz50_4
            try clear hcz9_0
            try clear hcz9_1
            try clear hcz9_2
            try clear hcz9_3
            try clear hcz9_4
            try clear hfz15_0
            try clear hfz15_1
            try clear hfz15_2
            try clear hfz15_3
            try clear hfz15_4
            try clear hfz29_0
            try clear hfz29_1
            try clear hfz29_2
            try clear hfz29_3
            try clear hfz29_4
            try clear hfz32_0
            try clear hfz32_1
            try clear hfz32_2
            try clear hfz32_3
            try clear hfz32_4
            try clear hfz35_0
            try clear hfz35_1
            try clear hfz35_2
            try clear hfz35_3
            try clear hfz35_4
            try clear hfz37_0
            try clear hfz37_1
            try clear hfz37_2
            try clear hfz37_3
            try clear hfz37_4
            try clear hfz39_0
            try clear hfz39_1
            try clear hfz39_2
            try clear hfz39_3
            try clear hfz39_4
            try clear hfz46_0
            try clear hfz46_1
            try clear hfz46_2
            try clear hfz46_3
            try clear hfz46_4
            try clear hfz48_0
            try clear hfz48_1
            try clear hfz48_2
            try clear hfz48_3
            try clear hfz48_4
            try clear hfz50_0
            try clear hfz50_1
            try clear hfz50_2
            try clear hfz50_3
            try clear hfz50_4
            try clear hfz9_0
            try clear hfz9_1
            try clear hfz9_2
            try clear hfz9_3
            try clear hfz9_4
            try clear hx372_0
            try clear hx372_1
            try clear hx372_2
            try clear hx372_3
            try clear hx372_4
            try clear p2
            try clear p3
            try clear p37
            try clear p372
            try clear p6
            try clear p64
            try clear q3
            try clear q37
            try clear q372
            obtain ⟨x19_3, rfl, HA, HK3, HO_16, HO_18, BK364, HB⟩ := hrel
            cases gk with
            | zero => exact absurd HA.out (by simp [laws_FnCustody.l0])
            | succ k3 =>
              have H := HA.out
              clear HA
              simp only [laws_FnCustody.l0] at H
              by_cases c75 : x19_3 < (t393.length : Int)
              rotate_left
              · rw [if_neg c75] at H
                have c75b0 : decide (x19_3 < (t393.length : Int)) = false := decide_eq_false c75
                clear c75
                replace H := Option.bind_eq_some_iff.mp H
                obtain ⟨t399, A860, H⟩ := H
                replace H : (some t399) = some r := H
                have A86 := zK A860
                clear A860
                obtain rfl := Option.some.inj H
                obtain ⟨Ao87, co87, eo87⟩ := Kd.R_slice HO_18.out
                subst eo87
                go_wp2_with (first | ((with_reducible refine gate_callee (f := 70) rfl ?_); refine goesL_ (some 164) rfl rfl Try.func70 (by kernel_rfl) rfl #[.slice Ao87 t393.length co87] rfl (by (try simp only [List.map_toArray, List.map_cons, List.map_nil]); first | done | rfl | (simp only [List.length_drop, List.length_take]; rfl)) ?_; (with_reducible refine (laws_ascends.calls k3 _ _ t393 t399 _ ?side1 ?side2 A86.out).mono ?_); (case side1 => repeat (first | exact (Kd.R_reads' HO_18.out).2.2 | (with_reducible refine Kd.CA ?_ _) | (with_reducible refine Kd.CN ?_ _) | (with_reducible refine Kd.CD ?_))); (case side2 => exact (Kd.R_reads' HO_18.out).2.1); rintro e w' ⟨rfl, ⟨nd, rfl⟩⟩; refine ⟨_, rfl, ?_⟩))
                go_ret
                exact ⟨by first | rfl | (simp [errW_none, errW_some] <;> rfl) | (simp [*, errW_none, errW_some] <;> rfl), by repeat (first | (with_reducible first | exact HB.out | apply bA | apply bN | apply b1 | refine bS ?_ GE364.out) | exact HB.out)⟩

              rw [if_pos c75] at H
              have c75b0 : decide (x19_3 < (t393.length : Int)) = true := decide_eq_true c75
              clear c75
              by_cases c76 : 0 ≤ x19_3
              rotate_left
              · rw [if_neg c76] at H
                exact absurd H (by simp)
              rw [if_pos c76] at H
              have c76b0 : decide (0 ≤ x19_3) = true := decide_eq_true c76
              clear c76
              replace H := Option.bind_eq_some_iff.mp H
              obtain ⟨⟨t397, t398⟩, A770, H⟩ := H
              replace H : (if t397 = 2 then (if t398 = t390 then (laws_FnCustody.l0 k3 t389 t390 t393 (wrap64 (x19_3 + 1))) else (some false)) else (some false)) = some r := H
              have A77 := zK A770
              clear A770
              by_cases c78 : t397 = 2
              rotate_left
              · rw [if_neg c78] at H
                have c78b0 : (t397 == 2) = false := beq_eq_false_iff_ne.mpr c78
                have c78b1 : (t397 != 2) = true := bne_iff_ne.mpr c78
                obtain rfl := Option.some.inj H
                obtain ⟨Ao84, co84, eo84⟩ := Kd.R_slice HO_18.out
                subst eo84
                have p396 : 0 ≤ (x19_3 : Int) := oD (by first | (with_reducible assumption) | assumption)
                have q396 : x19_3 < (t393.length : Int) := oD (by first | (with_reducible assumption) | assumption)
                obtain ⟨ad396, e396, hx396_0⟩ := Kd.at_int (Kd.R_reads' HO_18.out).2.2 x19_3 p396 q396
                cases e396
                replace p396 := eq_true p396
                replace q396 := eq_true q396
                go_wp2_with (first | ((with_reducible refine gate_callee (f := 64) rfl ?_); refine goesL_ (some 153) rfl rfl Try.func64 (by kernel_rfl) rfl #[.slice Ao73 t389.length co73, .int .i64 (rd t393 x19_3), .int .i64 100000] rfl (by (try simp only [List.map_toArray, List.map_cons, List.map_nil]); first | done | rfl | (simp only [List.length_drop, List.length_take]; rfl)) ?_; (with_reducible refine (impl_HolderAt.calls k3 _ _ t389 (rd t393 x19_3) 100000 t397 t398 _ ?side1 ?side2 A77.out).mono ?_); (case side1 => repeat (first | exact (Kd.R_reads' HO_16.out).2.2 | (with_reducible refine Kd.CA ?_ _) | (with_reducible refine Kd.CN ?_ _) | (with_reducible refine Kd.CD ?_))); (case side2 => exact (Kd.R_reads' HO_16.out).2.1); rintro e w85 ⟨rfl, hb⟩; refine ⟨_, rfl, ?_⟩; have n0_ := zK (Kd.R_below (by (with_reducible repeat (first | apply Kd.RA | apply Kd.RN | apply Kd.RD)); exact HO_16.out) hb); have n1_ := zK (Kd.R_below (by (with_reducible repeat (first | apply Kd.RA | apply Kd.RN | apply Kd.RD)); exact HO_18.out) hb); have n2_ := zK (bB (g := gb364) (o := .cells #[.int .i64 t359, .int .i64 t360, .int .i64 t361, .int .i64 t362, .int .i64 t363] 95 (0, 0)) (by (with_reducible repeat (first | refine kN ?_ _ | refine kD ?_ | refine kA ?_ _)); exact BK364.out) hb); have n3_ := zK (bT (by repeat (first | (with_reducible first | exact HB.out | apply bA | apply bN | apply b1 | refine bS ?_ GE364.out) | exact HB.out)) hb); clear HO_16; clear HO_18; clear BK364; clear HB; have HO_16 := n0_; have HO_18 := n1_; have BK364 := n2_; have HB := n3_; clear n0_ n1_ n2_ n3_; (try clear hb); (try clear hb2); (try clear hk); (try clear hi)))
                go_ret
                exact ⟨by first | rfl | (simp [errW_none, errW_some] <;> rfl) | (simp [*, errW_none, errW_some] <;> rfl), by repeat (first | (with_reducible first | exact HB.out | apply bA | apply bN | apply b1 | refine bS ?_ GE364.out) | exact HB.out)⟩
              rw [if_pos c78] at H
              have c78b0 : (t397 == 2) = true := beq_iff_eq.mpr c78
              have c78b1 : (t397 != 2) = false := bne_eq_false_iff_eq.mpr c78
              clear c78
              by_cases c79 : t398 = t390
              rotate_left
              · rw [if_neg c79] at H
                have c79b0 : (t398 == t390) = false := beq_eq_false_iff_ne.mpr c79
                have c79b1 : (t398 != t390) = true := bne_iff_ne.mpr c79
                obtain rfl := Option.some.inj H
                obtain ⟨Ao82, co82, eo82⟩ := Kd.R_slice HO_18.out
                subst eo82
                have p396 : 0 ≤ (x19_3 : Int) := oD (by first | (with_reducible assumption) | assumption)
                have q396 : x19_3 < (t393.length : Int) := oD (by first | (with_reducible assumption) | assumption)
                obtain ⟨ad396, e396, hx396_0⟩ := Kd.at_int (Kd.R_reads' HO_18.out).2.2 x19_3 p396 q396
                cases e396
                replace p396 := eq_true p396
                replace q396 := eq_true q396
                go_wp2_with (first | ((with_reducible refine gate_callee (f := 64) rfl ?_); refine goesL_ (some 153) rfl rfl Try.func64 (by kernel_rfl) rfl #[.slice Ao73 t389.length co73, .int .i64 (rd t393 x19_3), .int .i64 100000] rfl (by (try simp only [List.map_toArray, List.map_cons, List.map_nil]); first | done | rfl | (simp only [List.length_drop, List.length_take]; rfl)) ?_; (with_reducible refine (impl_HolderAt.calls k3 _ _ t389 (rd t393 x19_3) 100000 t397 t398 _ ?side1 ?side2 A77.out).mono ?_); (case side1 => repeat (first | exact (Kd.R_reads' HO_16.out).2.2 | (with_reducible refine Kd.CA ?_ _) | (with_reducible refine Kd.CN ?_ _) | (with_reducible refine Kd.CD ?_))); (case side2 => exact (Kd.R_reads' HO_16.out).2.1); rintro e w83 ⟨rfl, hb⟩; refine ⟨_, rfl, ?_⟩; have n0_ := zK (Kd.R_below (by (with_reducible repeat (first | apply Kd.RA | apply Kd.RN | apply Kd.RD)); exact HO_16.out) hb); have n1_ := zK (Kd.R_below (by (with_reducible repeat (first | apply Kd.RA | apply Kd.RN | apply Kd.RD)); exact HO_18.out) hb); have n2_ := zK (bB (g := gb364) (o := .cells #[.int .i64 t359, .int .i64 t360, .int .i64 t361, .int .i64 t362, .int .i64 t363] 95 (0, 0)) (by (with_reducible repeat (first | refine kN ?_ _ | refine kD ?_ | refine kA ?_ _)); exact BK364.out) hb); have n3_ := zK (bT (by repeat (first | (with_reducible first | exact HB.out | apply bA | apply bN | apply b1 | refine bS ?_ GE364.out) | exact HB.out)) hb); clear HO_16; clear HO_18; clear BK364; clear HB; have HO_16 := n0_; have HO_18 := n1_; have BK364 := n2_; have HB := n3_; clear n0_ n1_ n2_ n3_; (try clear hb); (try clear hb2); (try clear hk); (try clear hi)))
                go_ret
                exact ⟨by first | rfl | (simp [errW_none, errW_some] <;> rfl) | (simp [*, errW_none, errW_some] <;> rfl), by repeat (first | (with_reducible first | exact HB.out | apply bA | apply bN | apply b1 | refine bS ?_ GE364.out) | exact HB.out)⟩
              rw [if_pos c79] at H
              have c79b0 : (t398 == t390) = true := beq_iff_eq.mpr c79
              have c79b1 : (t398 != t390) = false := bne_eq_false_iff_eq.mpr c79
              clear c79
              have H' := zK H
              clear H
              obtain ⟨Ao80, co80, eo80⟩ := Kd.R_slice HO_18.out
              subst eo80
              have p396 : 0 ≤ (x19_3 : Int) := oD (by first | (with_reducible assumption) | assumption)
              have q396 : x19_3 < (t393.length : Int) := oD (by first | (with_reducible assumption) | assumption)
              obtain ⟨ad396, e396, hx396_0⟩ := Kd.at_int (Kd.R_reads' HO_18.out).2.2 x19_3 p396 q396
              cases e396
              replace p396 := eq_true p396
              replace q396 := eq_true q396
              go_wp2_with (first | ((with_reducible refine gate_callee (f := 64) rfl ?_); refine goesL_ (some 153) rfl rfl Try.func64 (by kernel_rfl) rfl #[.slice Ao73 t389.length co73, .int .i64 (rd t393 x19_3), .int .i64 100000] rfl (by (try simp only [List.map_toArray, List.map_cons, List.map_nil]); first | done | rfl | (simp only [List.length_drop, List.length_take]; rfl)) ?_; (with_reducible refine (impl_HolderAt.calls k3 _ _ t389 (rd t393 x19_3) 100000 t397 t398 _ ?side1 ?side2 A77.out).mono ?_); (case side1 => repeat (first | exact (Kd.R_reads' HO_16.out).2.2 | (with_reducible refine Kd.CA ?_ _) | (with_reducible refine Kd.CN ?_ _) | (with_reducible refine Kd.CD ?_))); (case side2 => exact (Kd.R_reads' HO_16.out).2.1); rintro e w81 ⟨rfl, hb⟩; refine ⟨_, rfl, ?_⟩; have n0_ := zK (Kd.R_below (by (with_reducible repeat (first | apply Kd.RA | apply Kd.RN | apply Kd.RD)); exact HO_16.out) hb); have n1_ := zK (Kd.R_below (by (with_reducible repeat (first | apply Kd.RA | apply Kd.RN | apply Kd.RD)); exact HO_18.out) hb); have n2_ := zK (bB (g := gb364) (o := .cells #[.int .i64 t359, .int .i64 t360, .int .i64 t361, .int .i64 t362, .int .i64 t363] 95 (0, 0)) (by (with_reducible repeat (first | refine kN ?_ _ | refine kD ?_ | refine kA ?_ _)); exact BK364.out) hb); have n3_ := zK (bT (by repeat (first | (with_reducible first | exact HB.out | apply bA | apply bN | apply b1 | refine bS ?_ GE364.out) | exact HB.out)) hb); clear HO_16; clear HO_18; clear BK364; clear HB; have HO_16 := n0_; have HO_18 := n1_; have BK364 := n2_; have HB := n3_; clear n0_ n1_ n2_ n3_; (try clear hb); (try clear hb2); (try clear hk); (try clear hi)))
              go_roundg k3
              case measure => have := HJ5.out; have := HJ55.out; have := HK3.out; omega
              case rel => exact ⟨(wrap64 (x19_3 + 1)), (by first | rfl | (simp; done) | (simp [*]; done)), H', ⟨by have := HJ5.out; have := HJ55.out; have := HK3.out; omega⟩, ⟨by (with_reducible repeat (first | apply Kd.RA | apply Kd.RN | apply Kd.RD)); exact HO_16.out⟩, ⟨by (with_reducible repeat (first | apply Kd.RA | apply Kd.RN | apply Kd.RD)); exact HO_18.out⟩, ⟨by (with_reducible repeat (first | refine kN ?_ _ | refine kD ?_ | refine kA ?_ _)); exact BK364.out⟩, ⟨by repeat (first | (with_reducible first | exact HB.out | apply bA | apply bN | apply b1 | refine bS ?_ GE364.out) | exact HB.out)⟩⟩
/-- THE ONE PURE STATEMENT of laws_FnCustody: yours. -/
def laws_FnCustody.Pure : Prop := ∀ (l0 : List Int), l0.length ≤ maxLen → l0.length * 1 ≤ 140737488351232 → (∀ x ∈ l0, (Lit.int .u8 x).wf = true) → ∃ k, laws_FnCustody.f k l0 = some true
theorem laws_FnCustody.walk (P : laws_FnCustody.Pure) (a0 : Option Addr) (len0 cap0 : Nat) (z0 : List Int) (w : World) (w0 : (a0 = none ∧ len0 = 0 ∧ cap0 = 0 ∧ z0 = []) ∨ ∃ x, a0 = some x ∧ len0 ≤ cap0 ∧ cap0 ≤ maxLen ∧ z0.length = cap0 ∧ (∀ i, i < z0.length → w.cell? (x.add i) = some (.int .u8 (z0.getD i 0))) ∧ ∀ n ∈ z0, (Lit.int .u8 n).wf = true) (y0 : len0 * 1 ≤ 140737488351232) :
    Calls Try.prog 10 #[.slice a0 len0 cap0] w fun e w' => e = .returned (.bool true) ∧ Below w.heap.size w w' := by
  obtain ⟨l0, rfl, hr0, hm0, hw0, hc0⟩ := ReadsInt.ofRowC w0
  obtain ⟨k, h⟩ := P l0 hm0 y0 hw0
  refine (laws_FnCustody.calls k _ _ l0 true w (Kd.C_of_reads (d := (0 : Int)) (h1 := fun _ => rfl) hr0) hc0 h).mono ?_
  rintro e w' ⟨rfl, hd⟩
  exact ⟨rfl, hd⟩

end Go.Proofs.Ytpkdbkheggfkkaa.PFnCustody
