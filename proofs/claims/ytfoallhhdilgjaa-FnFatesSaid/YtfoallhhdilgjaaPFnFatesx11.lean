/- Walks of functions that FnFates reaches: written by a tool of the kit for this claim, then shortened by a program of ours. -/
import Derived.Test.YtfoallhhdilgjaaPFnFatesx0
import Derived.Test.YtfoallhhdilgjaaPFnFatesx1
import Derived.Test.YtfoallhhdilgjaaPFnFatesx7
import Derived.Test.YtfoallhhdilgjaaPFnFatesx8
import Derived.Test.YtfoallhhdilgjaaPFnFatesx9
import Derived.Test.YtfoallhhdilgjaaPFnFatesx10
/- narrow -/
namespace Go.Proofs.Ytfoallhhdilgjaa.PFnFates
open Go.RowKit Go.Proofs.YtfoallhhdilgjaaW.PrintWords Go.Proofs.YtfoallhhdilgjaaW.PrintLast Go.Proofs.YtfoallhhdilgjaaW.PrintMore
attribute [local go_sem] max2_int min2_int max_two min_two max_three min_three max_four min_four   -- for this text's walks alone
set_option linter.unusedVariables false
set_option linter.unusedSimpArgs false

/-! ### laws_FnFates: function 4 -/
mutual
def laws_FnFates.j0 : Nat → List Int → List (S38) → Int → Int → Bool → Int → Int → Int → Int → Int → Int → Int → Int → Option (Bool)
 | 0, _, _, _, _, _, _, _, _, _, _, _, _, _ => none
 | k + 1, x0, x4, x5, x6, x54, x563000, x563001, x563002, x563003, x563004, x563005, x563006, x563007 => if x54 = true then (some false) else (if x6 ≥ 2 then ((impl_IsDue.f k x563000 x563001 x563002 x563003 x563004 x563005 x563006 x563007 x5).bind fun t567 => (if t567 = true then (if x6 = 2 then (if x563007 = 0 then (laws_FnFates.j1 k x0 x4 x6 true x563000 x563001 x563002 x563003 x563004 x563005 x563006 x563007) else (if x6 = 3 then (laws_FnFates.j1 k x0 x4 x6 (decide (x563004 ≤ 5000)) x563000 x563001 x563002 x563003 x563004 x563005 x563006 x563007) else (laws_FnFates.j1 k x0 x4 x6 false x563000 x563001 x563002 x563003 x563004 x563005 x563006 x563007))) else (if x6 = 3 then (laws_FnFates.j1 k x0 x4 x6 (decide (x563004 ≤ 5000)) x563000 x563001 x563002 x563003 x563004 x563005 x563006 x563007) else (laws_FnFates.j1 k x0 x4 x6 false x563000 x563001 x563002 x563003 x563004 x563005 x563006 x563007))) else (laws_FnFates.j1 k x0 x4 x6 true x563000 x563001 x563002 x563003 x563004 x563005 x563006 x563007))) else (if x6 = 2 then (if x563007 = 0 then (laws_FnFates.j1 k x0 x4 x6 true x563000 x563001 x563002 x563003 x563004 x563005 x563006 x563007) else (if x6 = 3 then (laws_FnFates.j1 k x0 x4 x6 (decide (x563004 ≤ 5000)) x563000 x563001 x563002 x563003 x563004 x563005 x563006 x563007) else (laws_FnFates.j1 k x0 x4 x6 false x563000 x563001 x563002 x563003 x563004 x563005 x563006 x563007))) else (if x6 = 3 then (laws_FnFates.j1 k x0 x4 x6 (decide (x563004 ≤ 5000)) x563000 x563001 x563002 x563003 x563004 x563005 x563006 x563007) else (laws_FnFates.j1 k x0 x4 x6 false x563000 x563001 x563002 x563003 x563004 x563005 x563006 x563007))))
def laws_FnFates.j1 : Nat → List Int → List (S38) → Int → Bool → Int → Int → Int → Int → Int → Int → Int → Int → Option (Bool)
 | 0, _, _, _, _, _, _, _, _, _, _, _, _ => none
 | k + 1, x0, x4, x6, x81, x563000, x563001, x563002, x563003, x563004, x563005, x563006, x563007 => if x81 = true then (some false) else (laws_FnFates.l0 k x0 x4 x6 0 x563000 x563001 x563002 x563003 x563004 x563005 x563006 x563007)
def laws_FnFates.l0 : Nat → List Int → List (S38) → Int → Int → Int → Int → Int → Int → Int → Int → Int → Int → Option (Bool)
 | 0, _, _, _, _, _, _, _, _, _, _, _, _ => none
 | k + 1, x0, x4, x6, x8, x563000, x563001, x563002, x563003, x563004, x563005, x563006, x563007 => if x8 < (x4.length : Int) then (laws_FnFates.j3 k x0 x4 x6 x8 (decide (x6 ≥ 2)) x563000 x563001 x563002 x563003 x563004 x563005 x563006 x563007) else (laws_FnFates.j3 k x0 x4 x6 x8 false x563000 x563001 x563002 x563003 x563004 x563005 x563006 x563007)
def laws_FnFates.j3 : Nat → List Int → List (S38) → Int → Int → Bool → Int → Int → Int → Int → Int → Int → Int → Int → Option (Bool)
 | 0, _, _, _, _, _, _, _, _, _, _, _, _, _ => none
 | k + 1, x0, x4, x6, x8, x89, x563000, x563001, x563002, x563003, x563004, x563005, x563006, x563007 => if x89 = true then (if 0 ≤ x8 then (if x8 < (x4.length : Int) then (if ((rd_T38 x4 x8).f2) = x563000 then (if ((rd_T38 x4 x8).f4) = 0 then (some false) else (laws_FnFates.l0 k x0 x4 x6 (wrap64 (x8 + 1)) x563000 x563001 x563002 x563003 x563004 x563005 x563006 x563007)) else (laws_FnFates.l0 k x0 x4 x6 (wrap64 (x8 + 1)) x563000 x563001 x563002 x563003 x563004 x563005 x563006 x563007)) else (none)) else (none)) else ((spec_DrawFatesOf.f k x0).bind fun bt570 => ((impl_FatesOf.f k bt570.1 bt570.2.1 bt570.2.2).bind fun t577 => (laws_FnFates.l1 k bt570.1 t577 0 0)))
def laws_FnFates.l1 : Nat → List (S29) → List Int → Int → Int → Option (Bool)
 | 0, _, _, _, _ => none
 | k + 1, x9, x12, x13, x14 => if x14 ≤ 5 then ((impl_CountFate.f k x12 x14).bind fun t580 => (laws_FnFates.l1 k x9 x12 (wrap64 (x13 + t580)) (wrap64 (x14 + 1)))) else (if x13 = (x9.length : Int) then (some ((x12.length : Int) == (x9.length : Int))) else (some false))
end
def laws_FnFates.f (k : Nat) (l0 : List Int) : Option (Bool) := (laws_big.f l0).bind fun t549 => (if t549 = true then (some true) else ((spec_DrawFateOf.f k l0).bind fun bt550 => ((impl_FateOf.f k bt550.1 bt550.2.1 bt550.2.2.1 bt550.2.2.2.1 bt550.2.2.2.2.1 bt550.2.2.2.2.2.1 bt550.2.2.2.2.2.2.1 bt550.2.2.2.2.2.2.2.1 bt550.2.2.2.2.2.2.2.2.1 bt550.2.2.2.2.2.2.2.2.2).bind fun t563 => ((impl_FirstProved.f k bt550.2.2.2.2.2.2.2.2.1 bt550.1).bind fun t564 => ((impl_FateName.f t563).bind fun t565 => (if t565.toList = ([] : List UInt8) then (laws_FnFates.j0 k l0 bt550.2.2.2.2.2.2.2.2.1 bt550.2.2.2.2.2.2.2.2.2 t563 true bt550.1 bt550.2.1 bt550.2.2.1 bt550.2.2.2.1 bt550.2.2.2.2.1 bt550.2.2.2.2.2.1 bt550.2.2.2.2.2.2.1 bt550.2.2.2.2.2.2.2.1) else (if ((t563 == 1) != (t564 != 0)) = true then (laws_FnFates.j0 k l0 bt550.2.2.2.2.2.2.2.2.1 bt550.2.2.2.2.2.2.2.2.2 t563 true bt550.1 bt550.2.1 bt550.2.2.1 bt550.2.2.2.1 bt550.2.2.2.2.1 bt550.2.2.2.2.2.1 bt550.2.2.2.2.2.2.1 bt550.2.2.2.2.2.2.2.1) else ((impl_MustKeep.f k bt550.1 bt550.2.1 bt550.2.2.1 bt550.2.2.2.1 bt550.2.2.2.2.1 bt550.2.2.2.2.2.1 bt550.2.2.2.2.2.2.1 bt550.2.2.2.2.2.2.2.1 bt550.2.2.2.2.2.2.2.2.1 bt550.2.2.2.2.2.2.2.2.2).bind fun t566 => (if t563 = 0 then (laws_FnFates.j0 k l0 bt550.2.2.2.2.2.2.2.2.1 bt550.2.2.2.2.2.2.2.2.2 t563 (t566 != true) bt550.1 bt550.2.1 bt550.2.2.1 bt550.2.2.2.1 bt550.2.2.2.2.1 bt550.2.2.2.2.2.1 bt550.2.2.2.2.2.2.1 bt550.2.2.2.2.2.2.2.1) else (laws_FnFates.j0 k l0 bt550.2.2.2.2.2.2.2.2.1 bt550.2.2.2.2.2.2.2.2.2 t563 (t566 != (t563 == 1)) bt550.1 bt550.2.1 bt550.2.2.1 bt550.2.2.2.1 bt550.2.2.2.2.1 bt550.2.2.2.2.2.1 bt550.2.2.2.2.2.2.1 bt550.2.2.2.2.2.2.2.1))))))))))
set_option maxHeartbeats 8000000 in
set_option maxRecDepth 100000 in
theorem laws_FnFates.calls (k : Nat) (A0 : Option Addr) (c0 : Nat) (l0 : List Int) (r : Bool) (w : World) (hr0 : Kd.C (Kd.int .u8) w A0 l0.length l0) (hc0 : l0.length ≤ c0) (h : laws_FnFates.f k l0 = some r) :
  Calls Try.prog 4 #[.slice A0 l0.length c0] w fun e w' => e = .returned (.bool r) ∧ Below w.heap.size w w' := by
 have hu29 := Try.underlying29
 have HR0 := zK hr0
 have HC0 := zK hc0
 clear hr0 hc0
 have HB := zK (Below.refl w.heap.size w)
 have H : ((laws_big.f l0).bind fun t549 => (if t549 = true then (some true) else ((spec_DrawFateOf.f k l0).bind fun bt550 => ((impl_FateOf.f k bt550.1 bt550.2.1 bt550.2.2.1 bt550.2.2.2.1 bt550.2.2.2.2.1 bt550.2.2.2.2.2.1 bt550.2.2.2.2.2.2.1 bt550.2.2.2.2.2.2.2.1 bt550.2.2.2.2.2.2.2.2.1 bt550.2.2.2.2.2.2.2.2.2).bind fun t563 => ((impl_FirstProved.f k bt550.2.2.2.2.2.2.2.2.1 bt550.1).bind fun t564 => ((impl_FateName.f t563).bind fun t565 => (if t565.toList = ([] : List UInt8) then (laws_FnFates.j0 k l0 bt550.2.2.2.2.2.2.2.2.1 bt550.2.2.2.2.2.2.2.2.2 t563 true bt550.1 bt550.2.1 bt550.2.2.1 bt550.2.2.2.1 bt550.2.2.2.2.1 bt550.2.2.2.2.2.1 bt550.2.2.2.2.2.2.1 bt550.2.2.2.2.2.2.2.1) else (if ((t563 == 1) != (t564 != 0)) = true then (laws_FnFates.j0 k l0 bt550.2.2.2.2.2.2.2.2.1 bt550.2.2.2.2.2.2.2.2.2 t563 true bt550.1 bt550.2.1 bt550.2.2.1 bt550.2.2.2.1 bt550.2.2.2.2.1 bt550.2.2.2.2.2.1 bt550.2.2.2.2.2.2.1 bt550.2.2.2.2.2.2.2.1) else ((impl_MustKeep.f k bt550.1 bt550.2.1 bt550.2.2.1 bt550.2.2.2.1 bt550.2.2.2.2.1 bt550.2.2.2.2.2.1 bt550.2.2.2.2.2.2.1 bt550.2.2.2.2.2.2.2.1 bt550.2.2.2.2.2.2.2.2.1 bt550.2.2.2.2.2.2.2.2.2).bind fun t566 => (if t563 = 0 then (laws_FnFates.j0 k l0 bt550.2.2.2.2.2.2.2.2.1 bt550.2.2.2.2.2.2.2.2.2 t563 (t566 != true) bt550.1 bt550.2.1 bt550.2.2.1 bt550.2.2.2.1 bt550.2.2.2.2.1 bt550.2.2.2.2.2.1 bt550.2.2.2.2.2.2.1 bt550.2.2.2.2.2.2.2.1) else (laws_FnFates.j0 k l0 bt550.2.2.2.2.2.2.2.2.1 bt550.2.2.2.2.2.2.2.2.2 t563 (t566 != (t563 == 1)) bt550.1 bt550.2.1 bt550.2.2.1 bt550.2.2.2.1 bt550.2.2.2.2.1 bt550.2.2.2.2.2.1 bt550.2.2.2.2.2.2.1 bt550.2.2.2.2.2.2.2.1))))))))))) = some r := h
 clear h
 replace H := Option.bind_eq_some_iff.mp H
 obtain ⟨t549, A20, H⟩ := H
 replace H : (if t549 = true then (some true) else ((spec_DrawFateOf.f k l0).bind fun bt550 => ((impl_FateOf.f k bt550.1 bt550.2.1 bt550.2.2.1 bt550.2.2.2.1 bt550.2.2.2.2.1 bt550.2.2.2.2.2.1 bt550.2.2.2.2.2.2.1 bt550.2.2.2.2.2.2.2.1 bt550.2.2.2.2.2.2.2.2.1 bt550.2.2.2.2.2.2.2.2.2).bind fun t563 => ((impl_FirstProved.f k bt550.2.2.2.2.2.2.2.2.1 bt550.1).bind fun t564 => ((impl_FateName.f t563).bind fun t565 => (if t565.toList = ([] : List UInt8) then (laws_FnFates.j0 k l0 bt550.2.2.2.2.2.2.2.2.1 bt550.2.2.2.2.2.2.2.2.2 t563 true bt550.1 bt550.2.1 bt550.2.2.1 bt550.2.2.2.1 bt550.2.2.2.2.1 bt550.2.2.2.2.2.1 bt550.2.2.2.2.2.2.1 bt550.2.2.2.2.2.2.2.1) else (if ((t563 == 1) != (t564 != 0)) = true then (laws_FnFates.j0 k l0 bt550.2.2.2.2.2.2.2.2.1 bt550.2.2.2.2.2.2.2.2.2 t563 true bt550.1 bt550.2.1 bt550.2.2.1 bt550.2.2.2.1 bt550.2.2.2.2.1 bt550.2.2.2.2.2.1 bt550.2.2.2.2.2.2.1 bt550.2.2.2.2.2.2.2.1) else ((impl_MustKeep.f k bt550.1 bt550.2.1 bt550.2.2.1 bt550.2.2.2.1 bt550.2.2.2.2.1 bt550.2.2.2.2.2.1 bt550.2.2.2.2.2.2.1 bt550.2.2.2.2.2.2.2.1 bt550.2.2.2.2.2.2.2.2.1 bt550.2.2.2.2.2.2.2.2.2).bind fun t566 => (if t563 = 0 then (laws_FnFates.j0 k l0 bt550.2.2.2.2.2.2.2.2.1 bt550.2.2.2.2.2.2.2.2.2 t563 (t566 != true) bt550.1 bt550.2.1 bt550.2.2.1 bt550.2.2.2.1 bt550.2.2.2.2.1 bt550.2.2.2.2.2.1 bt550.2.2.2.2.2.2.1 bt550.2.2.2.2.2.2.2.1) else (laws_FnFates.j0 k l0 bt550.2.2.2.2.2.2.2.2.1 bt550.2.2.2.2.2.2.2.2.2 t563 (t566 != (t563 == 1)) bt550.1 bt550.2.1 bt550.2.2.1 bt550.2.2.2.1 bt550.2.2.2.2.1 bt550.2.2.2.2.2.1 bt550.2.2.2.2.2.2.1 bt550.2.2.2.2.2.2.2.1)))))))))) = some r := H
 have A2 := zK A20
 clear A20
 by_cases c3 : t549 = true
 ·subst c3
  have H1 : (some true) = some r := by rw [if_pos rfl] at H; exact H
  clear H
  have H := H1
  clear H1
  obtain rfl := Option.some.inj H
  go_enter Try.func4, Try.ntmps4
  go_wp2_with (first | (go_at_call 7; (with_reducible refine (laws_big.calls _ _ l0 true _ ?side1 ?side2 A2.out).mono ?_); (case side1 => exact Kd.qC HR0.out); (case side2 => exact HC0.out); rintro e w' ⟨rfl, ⟨nd, rfl⟩⟩; (try first | exact ⟨rfl, _, World.drewN_drewN _ _ _⟩ | exact ⟨rfl, _, Eq.trans (World.drewN_drewN _ _ _) (congrArg (World.drewN _) (Nat.add_assoc _ _ _))⟩)))
  repeat (go_quiet (first | (go_at_call 7; (with_reducible refine (laws_big.calls _ _ l0 true _ ?side1 ?side2 A2.out).mono ?_); (case side1 => exact Kd.qC HR0.out); (case side2 => exact HC0.out); rintro e w' ⟨rfl, ⟨nd, rfl⟩⟩; (try first | exact ⟨rfl, _, World.drewN_drewN _ _ _⟩ | exact ⟨rfl, _, Eq.trans (World.drewN_drewN _ _ _) (congrArg (World.drewN _) (Nat.add_assoc _ _ _))⟩))); try go_wp2_with (first | (go_at_call 7; (with_reducible refine (laws_big.calls _ _ l0 true _ ?side1 ?side2 A2.out).mono ?_); (case side1 => exact Kd.qC HR0.out); (case side2 => exact HC0.out); rintro e w' ⟨rfl, ⟨nd, rfl⟩⟩; (try first | exact ⟨rfl, _, World.drewN_drewN _ _ _⟩ | exact ⟨rfl, _, Eq.trans (World.drewN_drewN _ _ _) (congrArg (World.drewN _) (Nat.add_assoc _ _ _))⟩))))
  go_ret
  exact ⟨by first | rfl | (simp [errW_none, errW_some] <;> rfl) | (simp [*, errW_none, errW_some] <;> rfl), by exact qB HB.out⟩
 replace c3 := Bool.eq_false_iff.mpr c3
 subst c3
 have H1 : ((spec_DrawFateOf.f k l0).bind fun bt550 => ((impl_FateOf.f k bt550.1 bt550.2.1 bt550.2.2.1 bt550.2.2.2.1 bt550.2.2.2.2.1 bt550.2.2.2.2.2.1 bt550.2.2.2.2.2.2.1 bt550.2.2.2.2.2.2.2.1 bt550.2.2.2.2.2.2.2.2.1 bt550.2.2.2.2.2.2.2.2.2).bind fun t563 => ((impl_FirstProved.f k bt550.2.2.2.2.2.2.2.2.1 bt550.1).bind fun t564 => ((impl_FateName.f t563).bind fun t565 => (if t565.toList = ([] : List UInt8) then (laws_FnFates.j0 k l0 bt550.2.2.2.2.2.2.2.2.1 bt550.2.2.2.2.2.2.2.2.2 t563 true bt550.1 bt550.2.1 bt550.2.2.1 bt550.2.2.2.1 bt550.2.2.2.2.1 bt550.2.2.2.2.2.1 bt550.2.2.2.2.2.2.1 bt550.2.2.2.2.2.2.2.1) else (if ((t563 == 1) != (t564 != 0)) = true then (laws_FnFates.j0 k l0 bt550.2.2.2.2.2.2.2.2.1 bt550.2.2.2.2.2.2.2.2.2 t563 true bt550.1 bt550.2.1 bt550.2.2.1 bt550.2.2.2.1 bt550.2.2.2.2.1 bt550.2.2.2.2.2.1 bt550.2.2.2.2.2.2.1 bt550.2.2.2.2.2.2.2.1) else ((impl_MustKeep.f k bt550.1 bt550.2.1 bt550.2.2.1 bt550.2.2.2.1 bt550.2.2.2.2.1 bt550.2.2.2.2.2.1 bt550.2.2.2.2.2.2.1 bt550.2.2.2.2.2.2.2.1 bt550.2.2.2.2.2.2.2.2.1 bt550.2.2.2.2.2.2.2.2.2).bind fun t566 => (if t563 = 0 then (laws_FnFates.j0 k l0 bt550.2.2.2.2.2.2.2.2.1 bt550.2.2.2.2.2.2.2.2.2 t563 (t566 != true) bt550.1 bt550.2.1 bt550.2.2.1 bt550.2.2.2.1 bt550.2.2.2.2.1 bt550.2.2.2.2.2.1 bt550.2.2.2.2.2.2.1 bt550.2.2.2.2.2.2.2.1) else (laws_FnFates.j0 k l0 bt550.2.2.2.2.2.2.2.2.1 bt550.2.2.2.2.2.2.2.2.2 t563 (t566 != (t563 == 1)) bt550.1 bt550.2.1 bt550.2.2.1 bt550.2.2.2.1 bt550.2.2.2.2.1 bt550.2.2.2.2.2.1 bt550.2.2.2.2.2.2.1 bt550.2.2.2.2.2.2.2.1))))))))) = some r := by rw [if_neg (show ¬ (false = true) by decide)] at H; exact H
 clear H
 have H := H1
 clear H1
 replace H := Option.bind_eq_some_iff.mp H
 obtain ⟨⟨t550, t551, t552, t553, t554, t555, t556, t557, t558, t561⟩, A40, H⟩ := H
 replace H : ((impl_FateOf.f k t550 t551 t552 t553 t554 t555 t556 t557 t558 t561).bind fun t563 => ((impl_FirstProved.f k t558 t550).bind fun t564 => ((impl_FateName.f t563).bind fun t565 => (if t565.toList = ([] : List UInt8) then (laws_FnFates.j0 k l0 t558 t561 t563 true t550 t551 t552 t553 t554 t555 t556 t557) else (if ((t563 == 1) != (t564 != 0)) = true then (laws_FnFates.j0 k l0 t558 t561 t563 true t550 t551 t552 t553 t554 t555 t556 t557) else ((impl_MustKeep.f k t550 t551 t552 t553 t554 t555 t556 t557 t558 t561).bind fun t566 => (if t563 = 0 then (laws_FnFates.j0 k l0 t558 t561 t563 (t566 != true) t550 t551 t552 t553 t554 t555 t556 t557) else (laws_FnFates.j0 k l0 t558 t561 t563 (t566 != (t563 == 1)) t550 t551 t552 t553 t554 t555 t556 t557)))))))) = some r := H
 have A4 := zK A40
 clear A40
 replace H := Option.bind_eq_some_iff.mp H
 obtain ⟨t563, A50, H⟩ := H
 replace H : ((impl_FirstProved.f k t558 t550).bind fun t564 => ((impl_FateName.f t563).bind fun t565 => (if t565.toList = ([] : List UInt8) then (laws_FnFates.j0 k l0 t558 t561 t563 true t550 t551 t552 t553 t554 t555 t556 t557) else (if ((t563 == 1) != (t564 != 0)) = true then (laws_FnFates.j0 k l0 t558 t561 t563 true t550 t551 t552 t553 t554 t555 t556 t557) else ((impl_MustKeep.f k t550 t551 t552 t553 t554 t555 t556 t557 t558 t561).bind fun t566 => (if t563 = 0 then (laws_FnFates.j0 k l0 t558 t561 t563 (t566 != true) t550 t551 t552 t553 t554 t555 t556 t557) else (laws_FnFates.j0 k l0 t558 t561 t563 (t566 != (t563 == 1)) t550 t551 t552 t553 t554 t555 t556 t557))))))) = some r := H
 have A5 := zK A50
 clear A50
 replace H := Option.bind_eq_some_iff.mp H
 obtain ⟨t564, A60, H⟩ := H
 replace H : ((impl_FateName.f t563).bind fun t565 => (if t565.toList = ([] : List UInt8) then (laws_FnFates.j0 k l0 t558 t561 t563 true t550 t551 t552 t553 t554 t555 t556 t557) else (if ((t563 == 1) != (t564 != 0)) = true then (laws_FnFates.j0 k l0 t558 t561 t563 true t550 t551 t552 t553 t554 t555 t556 t557) else ((impl_MustKeep.f k t550 t551 t552 t553 t554 t555 t556 t557 t558 t561).bind fun t566 => (if t563 = 0 then (laws_FnFates.j0 k l0 t558 t561 t563 (t566 != true) t550 t551 t552 t553 t554 t555 t556 t557) else (laws_FnFates.j0 k l0 t558 t561 t563 (t566 != (t563 == 1)) t550 t551 t552 t553 t554 t555 t556 t557)))))) = some r := H
 have A6 := zK A60
 clear A60
 have HC7 := zK H
 clear H
 go_enter Try.func4, Try.ntmps4
 go_upto_region 6 with (first | (go_at_call 7; (with_reducible refine (laws_big.calls _ _ l0 false _ ?side1 ?side2 A2.out).mono ?_); (case side1 => exact Kd.qC HR0.out); (case side2 => exact HC0.out); rintro e w' ⟨rfl, ⟨nd, rfl⟩⟩; (try first | exact ⟨rfl, _, World.drewN_drewN _ _ _⟩ | exact ⟨rfl, _, Eq.trans (World.drewN_drewN _ _ _) (congrArg (World.drewN _) (Nat.add_assoc _ _ _))⟩)) | (go_at_call 8; (with_reducible refine (spec_DrawFateOf.calls k _ _ l0 t550 t551 t552 t553 t554 t555 t556 t557 t558 t561 _ ?side1 ?side2 A4.out).mono ?_); (case side1 => exact Kd.qC HR0.out); (case side2 => exact HC0.out); rintro e w8 ⟨v559, rfl, ho0, hb⟩; have n0_ := zK (Kd.R_lower ho0 (bZ (qB HB.out))); have n1_ := zK (bT (qB HB.out) hb); clear HB; have HO560 := n0_; have HB := n1_; clear n0_ n1_; (try clear hb); (try clear hb2); (try clear hk); (try clear hi); (try clear ho0)) | ((with_reducible refine gate_dst (N := 3) rfl ?_); (try (refine gate_guard (by rfl) ?_; dsimp only)); refine box_event ?hg (N := 3) ?hd (cs := #[.int .i64 0, .int .i64 0, .int .i64 0, .int .i64 0, .int .i64 0, .int .i64 0, .int .i64 0, .int .i64 0]) (t := 29) ?hr ?_; (case hd => rfl); (case hg => rfl); (case hr => first | (go_simp; done) | (go_simp; rfl)); intro gb562 hg w9 hbox hb; have n0_ := zK (Kd.R_below (Kd.qR HO560.out) hb); have n1_ := zK (bT (qB HB.out) hb); have n2_ := zK (hbox); have n3_ := zK ((by rw [hg]; exact (bZ (qB HB.out)) : w.heap.size ≤ gb562)); have n4_ := zK ((by rw [hg]; exact (bZ (qB HB.out)) : w.heap.size ≤ gb562)); clear HO560; clear HB; have HO560 := n0_; have HB := n1_; have BK562 := n2_; have GW562 := n3_; have GE562 := n4_; clear n0_ n1_ n2_ n3_ n4_; clear hb hbox hg; have hcz10_0 : w9.cell? ⟨gb562, 0, none⟩ = some (.int .i64 0) := (bc BK562.out 0).trans rfl; have hcz10_1 : w9.cell? ⟨gb562, 1, none⟩ = some (.int .i64 0) := (bc BK562.out 1).trans rfl; have hcz10_2 : w9.cell? ⟨gb562, 2, none⟩ = some (.int .i64 0) := (bc BK562.out 2).trans rfl; have hcz10_3 : w9.cell? ⟨gb562, 3, none⟩ = some (.int .i64 0) := (bc BK562.out 3).trans rfl; have hcz10_4 : w9.cell? ⟨gb562, 4, none⟩ = some (.int .i64 0) := (bc BK562.out 4).trans rfl; have hcz10_5 : w9.cell? ⟨gb562, 5, none⟩ = some (.int .i64 0) := (bc BK562.out 5).trans rfl; have hcz10_6 : w9.cell? ⟨gb562, 6, none⟩ = some (.int .i64 0) := (bc BK562.out 6).trans rfl; have hcz10_7 : w9.cell? ⟨gb562, 7, none⟩ = some (.int .i64 0) := (bc BK562.out 7).trans rfl; have hfz10_0 := bf BK562.out 0; have hfz10_1 := bf BK562.out 1; have hfz10_2 := bf BK562.out 2; have hfz10_3 := bf BK562.out 3; have hfz10_4 := bf BK562.out 4; have hfz10_5 := bf BK562.out 5; have hfz10_6 := bf BK562.out 6; have hfz10_7 := bf BK562.out 7; obtain ⟨Ao11, co11, eo11⟩ := Kd.R_slice HO560.out; subst eo11) | (go_at_call 9; (with_reducible refine (impl_FateOf.calls k t550 t551 t552 t553 t554 t555 t556 t557 _ _ t558 t561 t563 _ ?side1 ?side2 A5.out).mono ?_); (case side1 => refine (Kd.R_reads' (e := 38) (base := w.heap.size) (ok := fun k_ => True) (n := t558.length) (c := co11) ?_).2.2; exact m10); (case side2 => exact (Kd.R_reads' HO560.out).2.1); rintro e w12 ⟨rfl, hb⟩; have n0_ := zK (Kd.R_below m10 hb); have n1_ := zK (bB (g := gb562) (o := .cells #[.int .i64 t550, .int .i64 t551, .int .i64 t552, .int .i64 t553, .int .i64 t554, .int .i64 t555, .int .i64 t556, .int .i64 t557] 29 (0, 0)) m6 hb); have n2_ := zK (bT m4 hb); clear HO560; clear BK562; clear HB; have HO560 := n0_; have BK562 := n1_; have HB := n2_; clear n0_ n1_ n2_; (try clear hb); (try clear hb2); (try clear hk); (try clear hi); have hcz13_0 : w12.cell? ⟨gb562, 0, none⟩ = some (.int .i64 t550) := (bc BK562.out 0).trans rfl; have hcz13_1 : w12.cell? ⟨gb562, 1, none⟩ = some (.int .i64 t551) := (bc BK562.out 1).trans rfl; have hcz13_2 : w12.cell? ⟨gb562, 2, none⟩ = some (.int .i64 t552) := (bc BK562.out 2).trans rfl; have hcz13_3 : w12.cell? ⟨gb562, 3, none⟩ = some (.int .i64 t553) := (bc BK562.out 3).trans rfl; have hcz13_4 : w12.cell? ⟨gb562, 4, none⟩ = some (.int .i64 t554) := (bc BK562.out 4).trans rfl; have hcz13_5 : w12.cell? ⟨gb562, 5, none⟩ = some (.int .i64 t555) := (bc BK562.out 5).trans rfl; have hcz13_6 : w12.cell? ⟨gb562, 6, none⟩ = some (.int .i64 t556) := (bc BK562.out 6).trans rfl; have hcz13_7 : w12.cell? ⟨gb562, 7, none⟩ = some (.int .i64 t557) := (bc BK562.out 7).trans rfl; have hfz13_0 := bf BK562.out 0; have hfz13_1 := bf BK562.out 1; have hfz13_2 := bf BK562.out 2; have hfz13_3 := bf BK562.out 3; have hfz13_4 := bf BK562.out 4; have hfz13_5 := bf BK562.out 5; have hfz13_6 := bf BK562.out 6; have hfz13_7 := bf BK562.out 7) | (go_at_call 10; (with_reducible refine (impl_FirstProved.calls k _ _ t558 t550 t564 _ ?side1 ?side2 A6.out).mono ?_); (case side1 => repeat (first | exact (Kd.R_reads' HO560.out).2.2 | (with_reducible refine Kd.CA ?_ _) | (with_reducible refine Kd.CN ?_ _) | (with_reducible refine Kd.CD ?_))); (case side2 => exact (Kd.R_reads' HO560.out).2.1); rintro e w14 ⟨rfl, hb⟩; have n0_ := zK (Kd.R_below (Kd.qR HO560.out) hb); have n1_ := zK (bB (g := gb562) (o := .cells #[.int .i64 t550, .int .i64 t551, .int .i64 t552, .int .i64 t553, .int .i64 t554, .int .i64 t555, .int .i64 t556, .int .i64 t557] 29 (0, 0)) (qK BK562.out) hb); have n2_ := zK (bT m4 hb); clear HO560; clear BK562; clear HB; have HO560 := n0_; have BK562 := n1_; have HB := n2_; clear n0_ n1_ n2_; (try clear hb); (try clear hb2); (try clear hk); (try clear hi)))
 repeat (go_quiet (first | (go_at_call 7; (with_reducible refine (laws_big.calls _ _ l0 false _ ?side1 ?side2 A2.out).mono ?_); (case side1 => exact Kd.qC HR0.out); (case side2 => exact HC0.out); rintro e w' ⟨rfl, ⟨nd, rfl⟩⟩; (try first | exact ⟨rfl, _, World.drewN_drewN _ _ _⟩ | exact ⟨rfl, _, Eq.trans (World.drewN_drewN _ _ _) (congrArg (World.drewN _) (Nat.add_assoc _ _ _))⟩)) | (go_at_call 8; (with_reducible refine (spec_DrawFateOf.calls k _ _ l0 t550 t551 t552 t553 t554 t555 t556 t557 t558 t561 _ ?side1 ?side2 A4.out).mono ?_); (case side1 => exact Kd.qC HR0.out); (case side2 => exact HC0.out); rintro e w8 ⟨v559, rfl, ho0, hb⟩; have n0_ := zK (Kd.R_lower ho0 (bZ (qB HB.out))); have n1_ := zK (bT (qB HB.out) hb); clear HB; have HO560 := n0_; have HB := n1_; clear n0_ n1_; (try clear hb); (try clear hb2); (try clear hk); (try clear hi); (try clear ho0)) | ((with_reducible refine gate_dst (N := 3) rfl ?_); (try (refine gate_guard (by rfl) ?_; dsimp only)); refine box_event ?hg (N := 3) ?hd (cs := #[.int .i64 0, .int .i64 0, .int .i64 0, .int .i64 0, .int .i64 0, .int .i64 0, .int .i64 0, .int .i64 0]) (t := 29) ?hr ?_; (case hd => rfl); (case hg => rfl); (case hr => first | (go_simp; done) | (go_simp; rfl)); intro gb562 hg w9 hbox hb; have n0_ := zK (Kd.R_below (Kd.qR HO560.out) hb); have n1_ := zK (bT (qB HB.out) hb); have n2_ := zK (hbox); have n3_ := zK ((by rw [hg]; exact (bZ (qB HB.out)) : w.heap.size ≤ gb562)); have n4_ := zK ((by rw [hg]; exact (bZ (qB HB.out)) : w.heap.size ≤ gb562)); clear HO560; clear HB; have HO560 := n0_; have HB := n1_; have BK562 := n2_; have GW562 := n3_; have GE562 := n4_; clear n0_ n1_ n2_ n3_ n4_; clear hb hbox hg; have hcz10_0 : w9.cell? ⟨gb562, 0, none⟩ = some (.int .i64 0) := (bc BK562.out 0).trans rfl; have hcz10_1 : w9.cell? ⟨gb562, 1, none⟩ = some (.int .i64 0) := (bc BK562.out 1).trans rfl; have hcz10_2 : w9.cell? ⟨gb562, 2, none⟩ = some (.int .i64 0) := (bc BK562.out 2).trans rfl; have hcz10_3 : w9.cell? ⟨gb562, 3, none⟩ = some (.int .i64 0) := (bc BK562.out 3).trans rfl; have hcz10_4 : w9.cell? ⟨gb562, 4, none⟩ = some (.int .i64 0) := (bc BK562.out 4).trans rfl; have hcz10_5 : w9.cell? ⟨gb562, 5, none⟩ = some (.int .i64 0) := (bc BK562.out 5).trans rfl; have hcz10_6 : w9.cell? ⟨gb562, 6, none⟩ = some (.int .i64 0) := (bc BK562.out 6).trans rfl; have hcz10_7 : w9.cell? ⟨gb562, 7, none⟩ = some (.int .i64 0) := (bc BK562.out 7).trans rfl; have hfz10_0 := bf BK562.out 0; have hfz10_1 := bf BK562.out 1; have hfz10_2 := bf BK562.out 2; have hfz10_3 := bf BK562.out 3; have hfz10_4 := bf BK562.out 4; have hfz10_5 := bf BK562.out 5; have hfz10_6 := bf BK562.out 6; have hfz10_7 := bf BK562.out 7; obtain ⟨Ao11, co11, eo11⟩ := Kd.R_slice HO560.out; subst eo11) | (go_at_call 9; (with_reducible refine (impl_FateOf.calls k t550 t551 t552 t553 t554 t555 t556 t557 _ _ t558 t561 t563 _ ?side1 ?side2 A5.out).mono ?_); (case side1 => refine (Kd.R_reads' (e := 38) (base := w.heap.size) (ok := fun k_ => True) (n := t558.length) (c := co11) ?_).2.2; exact m10); (case side2 => exact (Kd.R_reads' HO560.out).2.1); rintro e w12 ⟨rfl, hb⟩; have n0_ := zK (Kd.R_below m10 hb); have n1_ := zK (bB (g := gb562) (o := .cells #[.int .i64 t550, .int .i64 t551, .int .i64 t552, .int .i64 t553, .int .i64 t554, .int .i64 t555, .int .i64 t556, .int .i64 t557] 29 (0, 0)) m6 hb); have n2_ := zK (bT m4 hb); clear HO560; clear BK562; clear HB; have HO560 := n0_; have BK562 := n1_; have HB := n2_; clear n0_ n1_ n2_; (try clear hb); (try clear hb2); (try clear hk); (try clear hi); have hcz13_0 : w12.cell? ⟨gb562, 0, none⟩ = some (.int .i64 t550) := (bc BK562.out 0).trans rfl; have hcz13_1 : w12.cell? ⟨gb562, 1, none⟩ = some (.int .i64 t551) := (bc BK562.out 1).trans rfl; have hcz13_2 : w12.cell? ⟨gb562, 2, none⟩ = some (.int .i64 t552) := (bc BK562.out 2).trans rfl; have hcz13_3 : w12.cell? ⟨gb562, 3, none⟩ = some (.int .i64 t553) := (bc BK562.out 3).trans rfl; have hcz13_4 : w12.cell? ⟨gb562, 4, none⟩ = some (.int .i64 t554) := (bc BK562.out 4).trans rfl; have hcz13_5 : w12.cell? ⟨gb562, 5, none⟩ = some (.int .i64 t555) := (bc BK562.out 5).trans rfl; have hcz13_6 : w12.cell? ⟨gb562, 6, none⟩ = some (.int .i64 t556) := (bc BK562.out 6).trans rfl; have hcz13_7 : w12.cell? ⟨gb562, 7, none⟩ = some (.int .i64 t557) := (bc BK562.out 7).trans rfl; have hfz13_0 := bf BK562.out 0; have hfz13_1 := bf BK562.out 1; have hfz13_2 := bf BK562.out 2; have hfz13_3 := bf BK562.out 3; have hfz13_4 := bf BK562.out 4; have hfz13_5 := bf BK562.out 5; have hfz13_6 := bf BK562.out 6; have hfz13_7 := bf BK562.out 7) | (go_at_call 10; (with_reducible refine (impl_FirstProved.calls k _ _ t558 t550 t564 _ ?side1 ?side2 A6.out).mono ?_); (case side1 => repeat (first | exact (Kd.R_reads' HO560.out).2.2 | (with_reducible refine Kd.CA ?_ _) | (with_reducible refine Kd.CN ?_ _) | (with_reducible refine Kd.CD ?_))); (case side2 => exact (Kd.R_reads' HO560.out).2.1); rintro e w14 ⟨rfl, hb⟩; have n0_ := zK (Kd.R_below (Kd.qR HO560.out) hb); have n1_ := zK (bB (g := gb562) (o := .cells #[.int .i64 t550, .int .i64 t551, .int .i64 t552, .int .i64 t553, .int .i64 t554, .int .i64 t555, .int .i64 t556, .int .i64 t557] 29 (0, 0)) (qK BK562.out) hb); have n2_ := zK (bT m4 hb); clear HO560; clear BK562; clear HB; have HO560 := n0_; have BK562 := n1_; have HB := n2_; clear n0_ n1_ n2_; (try clear hb); (try clear hb2); (try clear hk); (try clear hi))); go_upto_region 6 with (first | (go_at_call 7; (with_reducible refine (laws_big.calls _ _ l0 false _ ?side1 ?side2 A2.out).mono ?_); (case side1 => exact Kd.qC HR0.out); (case side2 => exact HC0.out); rintro e w' ⟨rfl, ⟨nd, rfl⟩⟩; (try first | exact ⟨rfl, _, World.drewN_drewN _ _ _⟩ | exact ⟨rfl, _, Eq.trans (World.drewN_drewN _ _ _) (congrArg (World.drewN _) (Nat.add_assoc _ _ _))⟩)) | (go_at_call 8; (with_reducible refine (spec_DrawFateOf.calls k _ _ l0 t550 t551 t552 t553 t554 t555 t556 t557 t558 t561 _ ?side1 ?side2 A4.out).mono ?_); (case side1 => exact Kd.qC HR0.out); (case side2 => exact HC0.out); rintro e w8 ⟨v559, rfl, ho0, hb⟩; have n0_ := zK (Kd.R_lower ho0 (bZ (qB HB.out))); have n1_ := zK (bT (qB HB.out) hb); clear HB; have HO560 := n0_; have HB := n1_; clear n0_ n1_; (try clear hb); (try clear hb2); (try clear hk); (try clear hi); (try clear ho0)) | ((with_reducible refine gate_dst (N := 3) rfl ?_); (try (refine gate_guard (by rfl) ?_; dsimp only)); refine box_event ?hg (N := 3) ?hd (cs := #[.int .i64 0, .int .i64 0, .int .i64 0, .int .i64 0, .int .i64 0, .int .i64 0, .int .i64 0, .int .i64 0]) (t := 29) ?hr ?_; (case hd => rfl); (case hg => rfl); (case hr => first | (go_simp; done) | (go_simp; rfl)); intro gb562 hg w9 hbox hb; have n0_ := zK (Kd.R_below (Kd.qR HO560.out) hb); have n1_ := zK (bT (qB HB.out) hb); have n2_ := zK (hbox); have n3_ := zK ((by rw [hg]; exact (bZ (qB HB.out)) : w.heap.size ≤ gb562)); have n4_ := zK ((by rw [hg]; exact (bZ (qB HB.out)) : w.heap.size ≤ gb562)); clear HO560; clear HB; have HO560 := n0_; have HB := n1_; have BK562 := n2_; have GW562 := n3_; have GE562 := n4_; clear n0_ n1_ n2_ n3_ n4_; clear hb hbox hg; have hcz10_0 : w9.cell? ⟨gb562, 0, none⟩ = some (.int .i64 0) := (bc BK562.out 0).trans rfl; have hcz10_1 : w9.cell? ⟨gb562, 1, none⟩ = some (.int .i64 0) := (bc BK562.out 1).trans rfl; have hcz10_2 : w9.cell? ⟨gb562, 2, none⟩ = some (.int .i64 0) := (bc BK562.out 2).trans rfl; have hcz10_3 : w9.cell? ⟨gb562, 3, none⟩ = some (.int .i64 0) := (bc BK562.out 3).trans rfl; have hcz10_4 : w9.cell? ⟨gb562, 4, none⟩ = some (.int .i64 0) := (bc BK562.out 4).trans rfl; have hcz10_5 : w9.cell? ⟨gb562, 5, none⟩ = some (.int .i64 0) := (bc BK562.out 5).trans rfl; have hcz10_6 : w9.cell? ⟨gb562, 6, none⟩ = some (.int .i64 0) := (bc BK562.out 6).trans rfl; have hcz10_7 : w9.cell? ⟨gb562, 7, none⟩ = some (.int .i64 0) := (bc BK562.out 7).trans rfl; have hfz10_0 := bf BK562.out 0; have hfz10_1 := bf BK562.out 1; have hfz10_2 := bf BK562.out 2; have hfz10_3 := bf BK562.out 3; have hfz10_4 := bf BK562.out 4; have hfz10_5 := bf BK562.out 5; have hfz10_6 := bf BK562.out 6; have hfz10_7 := bf BK562.out 7; obtain ⟨Ao11, co11, eo11⟩ := Kd.R_slice HO560.out; subst eo11) | (go_at_call 9; (with_reducible refine (impl_FateOf.calls k t550 t551 t552 t553 t554 t555 t556 t557 _ _ t558 t561 t563 _ ?side1 ?side2 A5.out).mono ?_); (case side1 => refine (Kd.R_reads' (e := 38) (base := w.heap.size) (ok := fun k_ => True) (n := t558.length) (c := co11) ?_).2.2; exact m10); (case side2 => exact (Kd.R_reads' HO560.out).2.1); rintro e w12 ⟨rfl, hb⟩; have n0_ := zK (Kd.R_below m10 hb); have n1_ := zK (bB (g := gb562) (o := .cells #[.int .i64 t550, .int .i64 t551, .int .i64 t552, .int .i64 t553, .int .i64 t554, .int .i64 t555, .int .i64 t556, .int .i64 t557] 29 (0, 0)) m6 hb); have n2_ := zK (bT m4 hb); clear HO560; clear BK562; clear HB; have HO560 := n0_; have BK562 := n1_; have HB := n2_; clear n0_ n1_ n2_; (try clear hb); (try clear hb2); (try clear hk); (try clear hi); have hcz13_0 : w12.cell? ⟨gb562, 0, none⟩ = some (.int .i64 t550) := (bc BK562.out 0).trans rfl; have hcz13_1 : w12.cell? ⟨gb562, 1, none⟩ = some (.int .i64 t551) := (bc BK562.out 1).trans rfl; have hcz13_2 : w12.cell? ⟨gb562, 2, none⟩ = some (.int .i64 t552) := (bc BK562.out 2).trans rfl; have hcz13_3 : w12.cell? ⟨gb562, 3, none⟩ = some (.int .i64 t553) := (bc BK562.out 3).trans rfl; have hcz13_4 : w12.cell? ⟨gb562, 4, none⟩ = some (.int .i64 t554) := (bc BK562.out 4).trans rfl; have hcz13_5 : w12.cell? ⟨gb562, 5, none⟩ = some (.int .i64 t555) := (bc BK562.out 5).trans rfl; have hcz13_6 : w12.cell? ⟨gb562, 6, none⟩ = some (.int .i64 t556) := (bc BK562.out 6).trans rfl; have hcz13_7 : w12.cell? ⟨gb562, 7, none⟩ = some (.int .i64 t557) := (bc BK562.out 7).trans rfl; have hfz13_0 := bf BK562.out 0; have hfz13_1 := bf BK562.out 1; have hfz13_2 := bf BK562.out 2; have hfz13_3 := bf BK562.out 3; have hfz13_4 := bf BK562.out 4; have hfz13_5 := bf BK562.out 5; have hfz13_6 := bf BK562.out 6; have hfz13_7 := bf BK562.out 7) | (go_at_call 10; (with_reducible refine (impl_FirstProved.calls k _ _ t558 t550 t564 _ ?side1 ?side2 A6.out).mono ?_); (case side1 => repeat (first | exact (Kd.R_reads' HO560.out).2.2 | (with_reducible refine Kd.CA ?_ _) | (with_reducible refine Kd.CN ?_ _) | (with_reducible refine Kd.CD ?_))); (case side2 => exact (Kd.R_reads' HO560.out).2.1); rintro e w14 ⟨rfl, hb⟩; have n0_ := zK (Kd.R_below (Kd.qR HO560.out) hb); have n1_ := zK (bB (g := gb562) (o := .cells #[.int .i64 t550, .int .i64 t551, .int .i64 t552, .int .i64 t553, .int .i64 t554, .int .i64 t555, .int .i64 t556, .int .i64 t557] 29 (0, 0)) (qK BK562.out) hb); have n2_ := zK (bT m4 hb); clear HO560; clear BK562; clear HB; have HO560 := n0_; have BK562 := n1_; have HB := n2_; clear n0_ n1_ n2_; (try clear hb); (try clear hb2); (try clear hk); (try clear hi))))
 (try simp only [Act.put, sA, sZ, sS])
 go_cut [54] (fun v54 wc => ∃ (kq : Nat) (x54_6 : Bool), v54 = .bool x54_6 ∧ Aside0 (laws_FnFates.j0 kq l0 t558 t561 t563 x54_6 t550 t551 t552 t553 t554 t555 t556 t557 = some r) ∧ Aside0 (kq ≤ k) ∧ Aside0 (Kd.R k38 38 wc w.heap.size (fun _ => True) (.slice Ao11 t558.length co11) t558) ∧ Aside0 (wc.heap[gb562]? = some (.cells #[.int .i64 t550, .int .i64 t551, .int .i64 t552, .int .i64 t553, .int .i64 t554, .int .i64 t555, .int .i64 t556, .int .i64 t557] 29 (0, 0))) ∧ Aside0 (Below w.heap.size w wc))
 case first =>
  have H := HC7.out
  clear HC7
  replace H := Option.bind_eq_some_iff.mp H
  obtain ⟨t565, A150, H⟩ := H
  replace H : (if t565.toList = ([] : List UInt8) then (laws_FnFates.j0 k l0 t558 t561 t563 true t550 t551 t552 t553 t554 t555 t556 t557) else (if ((t563 == 1) != (t564 != 0)) = true then (laws_FnFates.j0 k l0 t558 t561 t563 true t550 t551 t552 t553 t554 t555 t556 t557) else ((impl_MustKeep.f k t550 t551 t552 t553 t554 t555 t556 t557 t558 t561).bind fun t566 => (if t563 = 0 then (laws_FnFates.j0 k l0 t558 t561 t563 (t566 != true) t550 t551 t552 t553 t554 t555 t556 t557) else (laws_FnFates.j0 k l0 t558 t561 t563 (t566 != (t563 == 1)) t550 t551 t552 t553 t554 t555 t556 t557))))) = some r := H
  have A15 := zK A150
  clear A150
  by_cases c16 : t565.toList = ([] : List UInt8)
  ·rw [if_pos c16] at H
   have c16b0 : (t565.toList == ([] : List UInt8)) = true := beq_iff_eq.mpr c16
   have c16b1 : (t565.toList != ([] : List UInt8)) = false := bne_eq_false_iff_eq.mpr c16
   clear c16
   (first | rw [c16b0] | rw [c16b1] | (simp only [i64_w, i32_w]; rw [c16b0]) | skip)
   have H' := zK H
   clear H
   go_wp2_with (first | (go_at_call 6; (with_reducible refine (impl_FateName.calls t563 t565 _ A15.out).mono ?_); rintro e w17 ⟨rfl, hb⟩; have n0_ := zK (Kd.R_below (Kd.qR HO560.out) hb); have n1_ := zK (bB (g := gb562) (o := .cells #[.int .i64 t550, .int .i64 t551, .int .i64 t552, .int .i64 t553, .int .i64 t554, .int .i64 t555, .int .i64 t556, .int .i64 t557] 29 (0, 0)) (qK BK562.out) hb); have n2_ := zK (bT m4 hb); clear HO560; clear BK562; clear HB; have HO560 := n0_; have BK562 := n1_; have HB := n2_; clear n0_ n1_ n2_; (try clear hb); (try clear hb2); (try clear hk); (try clear hi)))
   repeat (go_quiet (first | (go_at_call 6; (with_reducible refine (impl_FateName.calls t563 t565 _ A15.out).mono ?_); rintro e w17 ⟨rfl, hb⟩; have n0_ := zK (Kd.R_below (Kd.qR HO560.out) hb); have n1_ := zK (bB (g := gb562) (o := .cells #[.int .i64 t550, .int .i64 t551, .int .i64 t552, .int .i64 t553, .int .i64 t554, .int .i64 t555, .int .i64 t556, .int .i64 t557] 29 (0, 0)) (qK BK562.out) hb); have n2_ := zK (bT m4 hb); clear HO560; clear BK562; clear HB; have HO560 := n0_; have BK562 := n1_; have HB := n2_; clear n0_ n1_ n2_; (try clear hb); (try clear hb2); (try clear hk); (try clear hi))); try go_wp2_with (first | (go_at_call 6; (with_reducible refine (impl_FateName.calls t563 t565 _ A15.out).mono ?_); rintro e w17 ⟨rfl, hb⟩; have n0_ := zK (Kd.R_below (Kd.qR HO560.out) hb); have n1_ := zK (bB (g := gb562) (o := .cells #[.int .i64 t550, .int .i64 t551, .int .i64 t552, .int .i64 t553, .int .i64 t554, .int .i64 t555, .int .i64 t556, .int .i64 t557] 29 (0, 0)) (qK BK562.out) hb); have n2_ := zK (bT m4 hb); clear HO560; clear BK562; clear HB; have HO560 := n0_; have BK562 := n1_; have HB := n2_; clear n0_ n1_ n2_; (try clear hb); (try clear hb2); (try clear hk); (try clear hi))))
   go_meet
   case rel => exact ⟨_, (true), m9, H', ⟨by first | omega | exact Nat.le_refl _⟩, ⟨by exact Kd.qR HO560.out⟩, ⟨by exact qK BK562.out⟩, ⟨by repeat (first | (with_reducible first | exact HB.out | apply bA | apply bN | apply below_drew1 | refine bS ?_ GE562.out) | exact HB.out)⟩⟩
  rw [if_neg c16] at H
  have c16b0 : (t565.toList == ([] : List UInt8)) = false := beq_eq_false_iff_ne.mpr c16
  have c16b1 : (t565.toList != ([] : List UInt8)) = true := bne_iff_ne.mpr c16
  (first | rw [c16b0] | rw [c16b1] | (simp only [i64_w, i32_w]; rw [c16b0]) | skip)
  by_cases c18 : ((t563 == 1) != (t564 != 0)) = true
  ·rw [if_pos c18] at H
   have c18b0 : ((t563 == 1) != (t564 != 0)) = true := c18
   (try (have c18b1 : decide ((t563 == 1) = (t564 != 0)) = false := by simpa using c18))
   (try (have c18b2 : ((t563 == 1) == (t564 != 0)) = false := by simpa using c18))
   (try (have c18b3 : ¬ ((t563 == 1) = (t564 != 0)) := by simpa using c18))
   clear c18
   have H' := zK H
   clear H
   go_wp2_with (first | (go_at_call 6; (with_reducible refine (impl_FateName.calls t563 t565 _ A15.out).mono ?_); rintro e w19 ⟨rfl, hb⟩; have n0_ := zK (Kd.R_below (Kd.qR HO560.out) hb); have n1_ := zK (bB (g := gb562) (o := .cells #[.int .i64 t550, .int .i64 t551, .int .i64 t552, .int .i64 t553, .int .i64 t554, .int .i64 t555, .int .i64 t556, .int .i64 t557] 29 (0, 0)) (qK BK562.out) hb); have n2_ := zK (bT m4 hb); clear HO560; clear BK562; clear HB; have HO560 := n0_; have BK562 := n1_; have HB := n2_; clear n0_ n1_ n2_; (try clear hb); (try clear hb2); (try clear hk); (try clear hi)))
   repeat (go_quiet (first | (go_at_call 6; (with_reducible refine (impl_FateName.calls t563 t565 _ A15.out).mono ?_); rintro e w19 ⟨rfl, hb⟩; have n0_ := zK (Kd.R_below (Kd.qR HO560.out) hb); have n1_ := zK (bB (g := gb562) (o := .cells #[.int .i64 t550, .int .i64 t551, .int .i64 t552, .int .i64 t553, .int .i64 t554, .int .i64 t555, .int .i64 t556, .int .i64 t557] 29 (0, 0)) (qK BK562.out) hb); have n2_ := zK (bT m4 hb); clear HO560; clear BK562; clear HB; have HO560 := n0_; have BK562 := n1_; have HB := n2_; clear n0_ n1_ n2_; (try clear hb); (try clear hb2); (try clear hk); (try clear hi))); try go_wp2_with (first | (go_at_call 6; (with_reducible refine (impl_FateName.calls t563 t565 _ A15.out).mono ?_); rintro e w19 ⟨rfl, hb⟩; have n0_ := zK (Kd.R_below (Kd.qR HO560.out) hb); have n1_ := zK (bB (g := gb562) (o := .cells #[.int .i64 t550, .int .i64 t551, .int .i64 t552, .int .i64 t553, .int .i64 t554, .int .i64 t555, .int .i64 t556, .int .i64 t557] 29 (0, 0)) (qK BK562.out) hb); have n2_ := zK (bT m4 hb); clear HO560; clear BK562; clear HB; have HO560 := n0_; have BK562 := n1_; have HB := n2_; clear n0_ n1_ n2_; (try clear hb); (try clear hb2); (try clear hk); (try clear hi))))
   go_meet
   case rel => exact ⟨_, (true), m9, H', ⟨by first | omega | exact Nat.le_refl _⟩, ⟨by exact Kd.qR HO560.out⟩, ⟨by exact qK BK562.out⟩, ⟨by repeat (first | (with_reducible first | exact HB.out | apply bA | apply bN | apply below_drew1 | refine bS ?_ GE562.out) | exact HB.out)⟩⟩
  rw [if_neg c18] at H
  have c18b0 : ((t563 == 1) != (t564 != 0)) = false := by simpa using c18
  (try (have c18b1 : decide ((t563 == 1) = (t564 != 0)) = true := by simpa using c18))
  (try (have c18b2 : ((t563 == 1) == (t564 != 0)) = true := by simpa using c18))
  clear c18
  replace H := Option.bind_eq_some_iff.mp H
  obtain ⟨t566, A200, H⟩ := H
  replace H : (if t563 = 0 then (laws_FnFates.j0 k l0 t558 t561 t563 (t566 != true) t550 t551 t552 t553 t554 t555 t556 t557) else (laws_FnFates.j0 k l0 t558 t561 t563 (t566 != (t563 == 1)) t550 t551 t552 t553 t554 t555 t556 t557)) = some r := H
  have A20 := zK A200
  clear A200
  by_cases c21 : t563 = 0
  rotate_left
  ·rw [if_neg c21] at H
   have c21b0 : (t563 == 0) = false := beq_eq_false_iff_ne.mpr c21
   have c21b1 : (t563 != 0) = true := bne_iff_ne.mpr c21
   have H' := zK H
   clear H
   go_wp2_with (first | (go_at_call 6; (with_reducible refine (impl_FateName.calls t563 t565 _ A15.out).mono ?_); rintro e w25 ⟨rfl, hb⟩; have n0_ := zK (Kd.R_below (Kd.qR HO560.out) hb); have n1_ := zK (bB (g := gb562) (o := .cells #[.int .i64 t550, .int .i64 t551, .int .i64 t552, .int .i64 t553, .int .i64 t554, .int .i64 t555, .int .i64 t556, .int .i64 t557] 29 (0, 0)) (qK BK562.out) hb); have n2_ := zK (bT m4 hb); clear HO560; clear BK562; clear HB; have HO560 := n0_; have BK562 := n1_; have HB := n2_; clear n0_ n1_ n2_; (try clear hb); (try clear hb2); (try clear hk); (try clear hi); have hcz26_0 : w25.cell? ⟨gb562, 0, none⟩ = some (.int .i64 t550) := (bc BK562.out 0).trans rfl; have hcz26_1 : w25.cell? ⟨gb562, 1, none⟩ = some (.int .i64 t551) := (bc BK562.out 1).trans rfl; have hcz26_2 : w25.cell? ⟨gb562, 2, none⟩ = some (.int .i64 t552) := (bc BK562.out 2).trans rfl; have hcz26_3 : w25.cell? ⟨gb562, 3, none⟩ = some (.int .i64 t553) := (bc BK562.out 3).trans rfl; have hcz26_4 : w25.cell? ⟨gb562, 4, none⟩ = some (.int .i64 t554) := (bc BK562.out 4).trans rfl; have hcz26_5 : w25.cell? ⟨gb562, 5, none⟩ = some (.int .i64 t555) := (bc BK562.out 5).trans rfl; have hcz26_6 : w25.cell? ⟨gb562, 6, none⟩ = some (.int .i64 t556) := (bc BK562.out 6).trans rfl; have hcz26_7 : w25.cell? ⟨gb562, 7, none⟩ = some (.int .i64 t557) := (bc BK562.out 7).trans rfl; have hfz26_0 := bf BK562.out 0; have hfz26_1 := bf BK562.out 1; have hfz26_2 := bf BK562.out 2; have hfz26_3 := bf BK562.out 3; have hfz26_4 := bf BK562.out 4; have hfz26_5 := bf BK562.out 5; have hfz26_6 := bf BK562.out 6; have hfz26_7 := bf BK562.out 7) | (go_at_call 11; (with_reducible refine (impl_MustKeep.calls k t550 t551 t552 t553 t554 t555 t556 t557 _ _ t558 t561 t566 _ ?side1 ?side2 A20.out).mono ?_); (case side1 => repeat (first | exact (Kd.R_reads' HO560.out).2.2 | (with_reducible refine Kd.CA ?_ _) | (with_reducible refine Kd.CN ?_ _) | (with_reducible refine Kd.CD ?_))); (case side2 => exact (Kd.R_reads' HO560.out).2.1); rintro e w27 ⟨rfl, hb⟩; have n0_ := zK (Kd.R_below (Kd.qR HO560.out) hb); have n1_ := zK (bB (g := gb562) (o := .cells #[.int .i64 t550, .int .i64 t551, .int .i64 t552, .int .i64 t553, .int .i64 t554, .int .i64 t555, .int .i64 t556, .int .i64 t557] 29 (0, 0)) (qK BK562.out) hb); have n2_ := zK (bT m4 hb); clear HO560; clear BK562; clear HB; have HO560 := n0_; have BK562 := n1_; have HB := n2_; clear n0_ n1_ n2_; (try clear hb); (try clear hb2); (try clear hk); (try clear hi)))
   repeat (go_quiet (first | (go_at_call 6; (with_reducible refine (impl_FateName.calls t563 t565 _ A15.out).mono ?_); rintro e w25 ⟨rfl, hb⟩; have n0_ := zK (Kd.R_below (Kd.qR HO560.out) hb); have n1_ := zK (bB (g := gb562) (o := .cells #[.int .i64 t550, .int .i64 t551, .int .i64 t552, .int .i64 t553, .int .i64 t554, .int .i64 t555, .int .i64 t556, .int .i64 t557] 29 (0, 0)) (qK BK562.out) hb); have n2_ := zK (bT m4 hb); clear HO560; clear BK562; clear HB; have HO560 := n0_; have BK562 := n1_; have HB := n2_; clear n0_ n1_ n2_; (try clear hb); (try clear hb2); (try clear hk); (try clear hi); have hcz26_0 : w25.cell? ⟨gb562, 0, none⟩ = some (.int .i64 t550) := (bc BK562.out 0).trans rfl; have hcz26_1 : w25.cell? ⟨gb562, 1, none⟩ = some (.int .i64 t551) := (bc BK562.out 1).trans rfl; have hcz26_2 : w25.cell? ⟨gb562, 2, none⟩ = some (.int .i64 t552) := (bc BK562.out 2).trans rfl; have hcz26_3 : w25.cell? ⟨gb562, 3, none⟩ = some (.int .i64 t553) := (bc BK562.out 3).trans rfl; have hcz26_4 : w25.cell? ⟨gb562, 4, none⟩ = some (.int .i64 t554) := (bc BK562.out 4).trans rfl; have hcz26_5 : w25.cell? ⟨gb562, 5, none⟩ = some (.int .i64 t555) := (bc BK562.out 5).trans rfl; have hcz26_6 : w25.cell? ⟨gb562, 6, none⟩ = some (.int .i64 t556) := (bc BK562.out 6).trans rfl; have hcz26_7 : w25.cell? ⟨gb562, 7, none⟩ = some (.int .i64 t557) := (bc BK562.out 7).trans rfl; have hfz26_0 := bf BK562.out 0; have hfz26_1 := bf BK562.out 1; have hfz26_2 := bf BK562.out 2; have hfz26_3 := bf BK562.out 3; have hfz26_4 := bf BK562.out 4; have hfz26_5 := bf BK562.out 5; have hfz26_6 := bf BK562.out 6; have hfz26_7 := bf BK562.out 7) | (go_at_call 11; (with_reducible refine (impl_MustKeep.calls k t550 t551 t552 t553 t554 t555 t556 t557 _ _ t558 t561 t566 _ ?side1 ?side2 A20.out).mono ?_); (case side1 => repeat (first | exact (Kd.R_reads' HO560.out).2.2 | (with_reducible refine Kd.CA ?_ _) | (with_reducible refine Kd.CN ?_ _) | (with_reducible refine Kd.CD ?_))); (case side2 => exact (Kd.R_reads' HO560.out).2.1); rintro e w27 ⟨rfl, hb⟩; have n0_ := zK (Kd.R_below (Kd.qR HO560.out) hb); have n1_ := zK (bB (g := gb562) (o := .cells #[.int .i64 t550, .int .i64 t551, .int .i64 t552, .int .i64 t553, .int .i64 t554, .int .i64 t555, .int .i64 t556, .int .i64 t557] 29 (0, 0)) (qK BK562.out) hb); have n2_ := zK (bT m4 hb); clear HO560; clear BK562; clear HB; have HO560 := n0_; have BK562 := n1_; have HB := n2_; clear n0_ n1_ n2_; (try clear hb); (try clear hb2); (try clear hk); (try clear hi))); try go_wp2_with (first | (go_at_call 6; (with_reducible refine (impl_FateName.calls t563 t565 _ A15.out).mono ?_); rintro e w25 ⟨rfl, hb⟩; have n0_ := zK (Kd.R_below (Kd.qR HO560.out) hb); have n1_ := zK (bB (g := gb562) (o := .cells #[.int .i64 t550, .int .i64 t551, .int .i64 t552, .int .i64 t553, .int .i64 t554, .int .i64 t555, .int .i64 t556, .int .i64 t557] 29 (0, 0)) (qK BK562.out) hb); have n2_ := zK (bT m4 hb); clear HO560; clear BK562; clear HB; have HO560 := n0_; have BK562 := n1_; have HB := n2_; clear n0_ n1_ n2_; (try clear hb); (try clear hb2); (try clear hk); (try clear hi); have hcz26_0 : w25.cell? ⟨gb562, 0, none⟩ = some (.int .i64 t550) := (bc BK562.out 0).trans rfl; have hcz26_1 : w25.cell? ⟨gb562, 1, none⟩ = some (.int .i64 t551) := (bc BK562.out 1).trans rfl; have hcz26_2 : w25.cell? ⟨gb562, 2, none⟩ = some (.int .i64 t552) := (bc BK562.out 2).trans rfl; have hcz26_3 : w25.cell? ⟨gb562, 3, none⟩ = some (.int .i64 t553) := (bc BK562.out 3).trans rfl; have hcz26_4 : w25.cell? ⟨gb562, 4, none⟩ = some (.int .i64 t554) := (bc BK562.out 4).trans rfl; have hcz26_5 : w25.cell? ⟨gb562, 5, none⟩ = some (.int .i64 t555) := (bc BK562.out 5).trans rfl; have hcz26_6 : w25.cell? ⟨gb562, 6, none⟩ = some (.int .i64 t556) := (bc BK562.out 6).trans rfl; have hcz26_7 : w25.cell? ⟨gb562, 7, none⟩ = some (.int .i64 t557) := (bc BK562.out 7).trans rfl; have hfz26_0 := bf BK562.out 0; have hfz26_1 := bf BK562.out 1; have hfz26_2 := bf BK562.out 2; have hfz26_3 := bf BK562.out 3; have hfz26_4 := bf BK562.out 4; have hfz26_5 := bf BK562.out 5; have hfz26_6 := bf BK562.out 6; have hfz26_7 := bf BK562.out 7) | (go_at_call 11; (with_reducible refine (impl_MustKeep.calls k t550 t551 t552 t553 t554 t555 t556 t557 _ _ t558 t561 t566 _ ?side1 ?side2 A20.out).mono ?_); (case side1 => repeat (first | exact (Kd.R_reads' HO560.out).2.2 | (with_reducible refine Kd.CA ?_ _) | (with_reducible refine Kd.CN ?_ _) | (with_reducible refine Kd.CD ?_))); (case side2 => exact (Kd.R_reads' HO560.out).2.1); rintro e w27 ⟨rfl, hb⟩; have n0_ := zK (Kd.R_below (Kd.qR HO560.out) hb); have n1_ := zK (bB (g := gb562) (o := .cells #[.int .i64 t550, .int .i64 t551, .int .i64 t552, .int .i64 t553, .int .i64 t554, .int .i64 t555, .int .i64 t556, .int .i64 t557] 29 (0, 0)) (qK BK562.out) hb); have n2_ := zK (bT m4 hb); clear HO560; clear BK562; clear HB; have HO560 := n0_; have BK562 := n1_; have HB := n2_; clear n0_ n1_ n2_; (try clear hb); (try clear hb2); (try clear hk); (try clear hi))))
   go_meet
   case rel => exact ⟨_, ((t566 != (t563 == 1))), m9, H', ⟨by first | omega | exact Nat.le_refl _⟩, ⟨by exact Kd.qR HO560.out⟩, ⟨by exact qK BK562.out⟩, ⟨by repeat (first | (with_reducible first | exact HB.out | apply bA | apply bN | apply below_drew1 | refine bS ?_ GE562.out) | exact HB.out)⟩⟩
  rw [if_pos c21] at H
  have c21b0 : (t563 == 0) = true := beq_iff_eq.mpr c21
  have c21b1 : (t563 != 0) = false := bne_eq_false_iff_eq.mpr c21
  clear c21
  have H' := zK H
  clear H
  go_wp2_with (first | (go_at_call 6; (with_reducible refine (impl_FateName.calls t563 t565 _ A15.out).mono ?_); rintro e w22 ⟨rfl, hb⟩; have n0_ := zK (Kd.R_below (Kd.qR HO560.out) hb); have n1_ := zK (bB (g := gb562) (o := .cells #[.int .i64 t550, .int .i64 t551, .int .i64 t552, .int .i64 t553, .int .i64 t554, .int .i64 t555, .int .i64 t556, .int .i64 t557] 29 (0, 0)) (qK BK562.out) hb); have n2_ := zK (bT m4 hb); clear HO560; clear BK562; clear HB; have HO560 := n0_; have BK562 := n1_; have HB := n2_; clear n0_ n1_ n2_; (try clear hb); (try clear hb2); (try clear hk); (try clear hi); have hcz23_0 : w22.cell? ⟨gb562, 0, none⟩ = some (.int .i64 t550) := (bc BK562.out 0).trans rfl; have hcz23_1 : w22.cell? ⟨gb562, 1, none⟩ = some (.int .i64 t551) := (bc BK562.out 1).trans rfl; have hcz23_2 : w22.cell? ⟨gb562, 2, none⟩ = some (.int .i64 t552) := (bc BK562.out 2).trans rfl; have hcz23_3 : w22.cell? ⟨gb562, 3, none⟩ = some (.int .i64 t553) := (bc BK562.out 3).trans rfl; have hcz23_4 : w22.cell? ⟨gb562, 4, none⟩ = some (.int .i64 t554) := (bc BK562.out 4).trans rfl; have hcz23_5 : w22.cell? ⟨gb562, 5, none⟩ = some (.int .i64 t555) := (bc BK562.out 5).trans rfl; have hcz23_6 : w22.cell? ⟨gb562, 6, none⟩ = some (.int .i64 t556) := (bc BK562.out 6).trans rfl; have hcz23_7 : w22.cell? ⟨gb562, 7, none⟩ = some (.int .i64 t557) := (bc BK562.out 7).trans rfl; have hfz23_0 := bf BK562.out 0; have hfz23_1 := bf BK562.out 1; have hfz23_2 := bf BK562.out 2; have hfz23_3 := bf BK562.out 3; have hfz23_4 := bf BK562.out 4; have hfz23_5 := bf BK562.out 5; have hfz23_6 := bf BK562.out 6; have hfz23_7 := bf BK562.out 7) | (go_at_call 11; (with_reducible refine (impl_MustKeep.calls k t550 t551 t552 t553 t554 t555 t556 t557 _ _ t558 t561 t566 _ ?side1 ?side2 A20.out).mono ?_); (case side1 => repeat (first | exact (Kd.R_reads' HO560.out).2.2 | (with_reducible refine Kd.CA ?_ _) | (with_reducible refine Kd.CN ?_ _) | (with_reducible refine Kd.CD ?_))); (case side2 => exact (Kd.R_reads' HO560.out).2.1); rintro e w24 ⟨rfl, hb⟩; have n0_ := zK (Kd.R_below (Kd.qR HO560.out) hb); have n1_ := zK (bB (g := gb562) (o := .cells #[.int .i64 t550, .int .i64 t551, .int .i64 t552, .int .i64 t553, .int .i64 t554, .int .i64 t555, .int .i64 t556, .int .i64 t557] 29 (0, 0)) (qK BK562.out) hb); have n2_ := zK (bT m4 hb); clear HO560; clear BK562; clear HB; have HO560 := n0_; have BK562 := n1_; have HB := n2_; clear n0_ n1_ n2_; (try clear hb); (try clear hb2); (try clear hk); (try clear hi)))
  repeat (go_quiet (first | (go_at_call 6; (with_reducible refine (impl_FateName.calls t563 t565 _ A15.out).mono ?_); rintro e w22 ⟨rfl, hb⟩; have n0_ := zK (Kd.R_below (Kd.qR HO560.out) hb); have n1_ := zK (bB (g := gb562) (o := .cells #[.int .i64 t550, .int .i64 t551, .int .i64 t552, .int .i64 t553, .int .i64 t554, .int .i64 t555, .int .i64 t556, .int .i64 t557] 29 (0, 0)) (qK BK562.out) hb); have n2_ := zK (bT m4 hb); clear HO560; clear BK562; clear HB; have HO560 := n0_; have BK562 := n1_; have HB := n2_; clear n0_ n1_ n2_; (try clear hb); (try clear hb2); (try clear hk); (try clear hi); have hcz23_0 : w22.cell? ⟨gb562, 0, none⟩ = some (.int .i64 t550) := (bc BK562.out 0).trans rfl; have hcz23_1 : w22.cell? ⟨gb562, 1, none⟩ = some (.int .i64 t551) := (bc BK562.out 1).trans rfl; have hcz23_2 : w22.cell? ⟨gb562, 2, none⟩ = some (.int .i64 t552) := (bc BK562.out 2).trans rfl; have hcz23_3 : w22.cell? ⟨gb562, 3, none⟩ = some (.int .i64 t553) := (bc BK562.out 3).trans rfl; have hcz23_4 : w22.cell? ⟨gb562, 4, none⟩ = some (.int .i64 t554) := (bc BK562.out 4).trans rfl; have hcz23_5 : w22.cell? ⟨gb562, 5, none⟩ = some (.int .i64 t555) := (bc BK562.out 5).trans rfl; have hcz23_6 : w22.cell? ⟨gb562, 6, none⟩ = some (.int .i64 t556) := (bc BK562.out 6).trans rfl; have hcz23_7 : w22.cell? ⟨gb562, 7, none⟩ = some (.int .i64 t557) := (bc BK562.out 7).trans rfl; have hfz23_0 := bf BK562.out 0; have hfz23_1 := bf BK562.out 1; have hfz23_2 := bf BK562.out 2; have hfz23_3 := bf BK562.out 3; have hfz23_4 := bf BK562.out 4; have hfz23_5 := bf BK562.out 5; have hfz23_6 := bf BK562.out 6; have hfz23_7 := bf BK562.out 7) | (go_at_call 11; (with_reducible refine (impl_MustKeep.calls k t550 t551 t552 t553 t554 t555 t556 t557 _ _ t558 t561 t566 _ ?side1 ?side2 A20.out).mono ?_); (case side1 => repeat (first | exact (Kd.R_reads' HO560.out).2.2 | (with_reducible refine Kd.CA ?_ _) | (with_reducible refine Kd.CN ?_ _) | (with_reducible refine Kd.CD ?_))); (case side2 => exact (Kd.R_reads' HO560.out).2.1); rintro e w24 ⟨rfl, hb⟩; have n0_ := zK (Kd.R_below (Kd.qR HO560.out) hb); have n1_ := zK (bB (g := gb562) (o := .cells #[.int .i64 t550, .int .i64 t551, .int .i64 t552, .int .i64 t553, .int .i64 t554, .int .i64 t555, .int .i64 t556, .int .i64 t557] 29 (0, 0)) (qK BK562.out) hb); have n2_ := zK (bT m4 hb); clear HO560; clear BK562; clear HB; have HO560 := n0_; have BK562 := n1_; have HB := n2_; clear n0_ n1_ n2_; (try clear hb); (try clear hb2); (try clear hk); (try clear hi))); try go_wp2_with (first | (go_at_call 6; (with_reducible refine (impl_FateName.calls t563 t565 _ A15.out).mono ?_); rintro e w22 ⟨rfl, hb⟩; have n0_ := zK (Kd.R_below (Kd.qR HO560.out) hb); have n1_ := zK (bB (g := gb562) (o := .cells #[.int .i64 t550, .int .i64 t551, .int .i64 t552, .int .i64 t553, .int .i64 t554, .int .i64 t555, .int .i64 t556, .int .i64 t557] 29 (0, 0)) (qK BK562.out) hb); have n2_ := zK (bT m4 hb); clear HO560; clear BK562; clear HB; have HO560 := n0_; have BK562 := n1_; have HB := n2_; clear n0_ n1_ n2_; (try clear hb); (try clear hb2); (try clear hk); (try clear hi); have hcz23_0 : w22.cell? ⟨gb562, 0, none⟩ = some (.int .i64 t550) := (bc BK562.out 0).trans rfl; have hcz23_1 : w22.cell? ⟨gb562, 1, none⟩ = some (.int .i64 t551) := (bc BK562.out 1).trans rfl; have hcz23_2 : w22.cell? ⟨gb562, 2, none⟩ = some (.int .i64 t552) := (bc BK562.out 2).trans rfl; have hcz23_3 : w22.cell? ⟨gb562, 3, none⟩ = some (.int .i64 t553) := (bc BK562.out 3).trans rfl; have hcz23_4 : w22.cell? ⟨gb562, 4, none⟩ = some (.int .i64 t554) := (bc BK562.out 4).trans rfl; have hcz23_5 : w22.cell? ⟨gb562, 5, none⟩ = some (.int .i64 t555) := (bc BK562.out 5).trans rfl; have hcz23_6 : w22.cell? ⟨gb562, 6, none⟩ = some (.int .i64 t556) := (bc BK562.out 6).trans rfl; have hcz23_7 : w22.cell? ⟨gb562, 7, none⟩ = some (.int .i64 t557) := (bc BK562.out 7).trans rfl; have hfz23_0 := bf BK562.out 0; have hfz23_1 := bf BK562.out 1; have hfz23_2 := bf BK562.out 2; have hfz23_3 := bf BK562.out 3; have hfz23_4 := bf BK562.out 4; have hfz23_5 := bf BK562.out 5; have hfz23_6 := bf BK562.out 6; have hfz23_7 := bf BK562.out 7) | (go_at_call 11; (with_reducible refine (impl_MustKeep.calls k t550 t551 t552 t553 t554 t555 t556 t557 _ _ t558 t561 t566 _ ?side1 ?side2 A20.out).mono ?_); (case side1 => repeat (first | exact (Kd.R_reads' HO560.out).2.2 | (with_reducible refine Kd.CA ?_ _) | (with_reducible refine Kd.CN ?_ _) | (with_reducible refine Kd.CD ?_))); (case side2 => exact (Kd.R_reads' HO560.out).2.1); rintro e w24 ⟨rfl, hb⟩; have n0_ := zK (Kd.R_below (Kd.qR HO560.out) hb); have n1_ := zK (bB (g := gb562) (o := .cells #[.int .i64 t550, .int .i64 t551, .int .i64 t552, .int .i64 t553, .int .i64 t554, .int .i64 t555, .int .i64 t556, .int .i64 t557] 29 (0, 0)) (qK BK562.out) hb); have n2_ := zK (bT m4 hb); clear HO560; clear BK562; clear HB; have HO560 := n0_; have BK562 := n1_; have HB := n2_; clear n0_ n1_ n2_; (try clear hb); (try clear hb2); (try clear hk); (try clear hi))))
  go_meet
  case rel => exact ⟨_, ((t566 != true)), m9, H', ⟨by first | omega | exact Nat.le_refl _⟩, ⟨by exact Kd.qR HO560.out⟩, ⟨by exact qK BK562.out⟩, ⟨by repeat (first | (with_reducible first | exact HB.out | apply bA | apply bN | apply below_drew1 | refine bS ?_ GE562.out) | exact HB.out)⟩⟩
 case rest =>
  clear HC7
  try clear c1
  try clear c2
  try clear p2
  try clear c3
  try clear c4
  try clear c16
  try clear c16b0
  try clear c16b1
  try clear c18
  try clear c18b0
  try clear c18b1
  try clear c18b2
  try clear c21
  try clear c21b0
  try clear c21b1
  try clear hcz10_0
  try clear hcz10_1
  try clear hcz10_2
  try clear hcz10_3
  try clear hcz10_4
  try clear hcz10_5
  try clear hcz10_6
  try clear hcz10_7
  try clear hcz13_0
  try clear hcz13_1
  try clear hcz13_2
  try clear hcz13_3
  try clear hcz13_4
  try clear hcz13_5
  try clear hcz13_6
  try clear hcz13_7
  try clear hcz23_0
  try clear hcz23_1
  try clear hcz23_2
  try clear hcz23_3
  try clear hcz23_4
  try clear hcz23_5
  try clear hcz23_6
  try clear hcz23_7
  try clear hcz26_0
  try clear hcz26_1
  try clear hcz26_2
  try clear hcz26_3
  try clear hcz26_4
  try clear hcz26_5
  try clear hcz26_6
  try clear hcz26_7
  try clear hfz10_0
  try clear hfz10_1
  try clear hfz10_2
  try clear hfz10_3
  try clear hfz10_4
  try clear hfz10_5
  try clear hfz10_6
  try clear hfz10_7
  try clear hfz13_0
  try clear hfz13_1
  try clear hfz13_2
  try clear hfz13_3
  try clear hfz13_4
  try clear hfz13_5
  try clear hfz13_6
  try clear hfz13_7
  try clear hfz23_0
  try clear hfz23_1
  try clear hfz23_2
  try clear hfz23_3
  try clear hfz23_4
  try clear hfz23_5
  try clear hfz23_6
  try clear hfz23_7
  try clear hfz26_0
  try clear hfz26_1
  try clear hfz26_2
  try clear hfz26_3
  try clear hfz26_4
  try clear hfz26_5
  try clear hfz26_6
  try clear hfz26_7
  obtain ⟨kq, x54_6, rfl, HA, HJ6, HO_4, BK562, HB⟩ := hcut
  cases kq with
  | zero => exact absurd HA.out (by simp [laws_FnFates.j0])
  | succ kj6 =>
   have H := HA.out
   clear HA
   simp only [laws_FnFates.j0] at H
   by_cases c28 : x54_6 = true
   ·subst c28
    have H1 : (some false) = some r := by rw [if_pos rfl] at H; exact H
    clear H
    have H := H1
    clear H1
    obtain rfl := Option.some.inj H
    go_wp2
    repeat (go_quiet (fail); try go_wp2)
    go_ret
    exact ⟨by first | rfl | (simp [errW_none, errW_some] <;> rfl) | (simp [*, errW_none, errW_some] <;> rfl), by repeat (first | (with_reducible first | exact HB.out | apply bA | apply bN | apply below_drew1 | refine bS ?_ GE562.out) | exact HB.out)⟩
   replace c28 := Bool.eq_false_iff.mpr c28
   subst c28
   have H1 : (if t563 ≥ 2 then ((impl_IsDue.f kj6 t550 t551 t552 t553 t554 t555 t556 t557 t561).bind fun t567 => (if t567 = true then (if t563 = 2 then (if t557 = 0 then (laws_FnFates.j1 kj6 l0 t558 t563 true t550 t551 t552 t553 t554 t555 t556 t557) else (if t563 = 3 then (laws_FnFates.j1 kj6 l0 t558 t563 (decide (t554 ≤ 5000)) t550 t551 t552 t553 t554 t555 t556 t557) else (laws_FnFates.j1 kj6 l0 t558 t563 false t550 t551 t552 t553 t554 t555 t556 t557))) else (if t563 = 3 then (laws_FnFates.j1 kj6 l0 t558 t563 (decide (t554 ≤ 5000)) t550 t551 t552 t553 t554 t555 t556 t557) else (laws_FnFates.j1 kj6 l0 t558 t563 false t550 t551 t552 t553 t554 t555 t556 t557))) else (laws_FnFates.j1 kj6 l0 t558 t563 true t550 t551 t552 t553 t554 t555 t556 t557))) else (if t563 = 2 then (if t557 = 0 then (laws_FnFates.j1 kj6 l0 t558 t563 true t550 t551 t552 t553 t554 t555 t556 t557) else (if t563 = 3 then (laws_FnFates.j1 kj6 l0 t558 t563 (decide (t554 ≤ 5000)) t550 t551 t552 t553 t554 t555 t556 t557) else (laws_FnFates.j1 kj6 l0 t558 t563 false t550 t551 t552 t553 t554 t555 t556 t557))) else (if t563 = 3 then (laws_FnFates.j1 kj6 l0 t558 t563 (decide (t554 ≤ 5000)) t550 t551 t552 t553 t554 t555 t556 t557) else (laws_FnFates.j1 kj6 l0 t558 t563 false t550 t551 t552 t553 t554 t555 t556 t557)))) = some r := by rw [if_neg (show ¬ (false = true) by decide)] at H; exact H
   clear H
   have H := H1
   clear H1
   have HC29 := zK H
   clear H
   go_upto_region 8 with (fail)
   repeat (go_quiet (fail); go_upto_region 8 with (fail))
   go_cut [81] (fun v81 wc => ∃ (kq : Nat) (x81_28 : Bool), v81 = .bool x81_28 ∧ Aside0 (laws_FnFates.j1 kq l0 t558 t563 x81_28 t550 t551 t552 t553 t554 t555 t556 t557 = some r) ∧ Aside0 (kq ≤ kj6) ∧ Aside0 (Kd.R k38 38 wc w.heap.size (fun _ => True) (.slice Ao11 t558.length co11) t558) ∧ Aside0 (wc.heap[gb562]? = some (.cells #[.int .i64 t550, .int .i64 t551, .int .i64 t552, .int .i64 t553, .int .i64 t554, .int .i64 t555, .int .i64 t556, .int .i64 t557] 29 (0, 0))) ∧ Aside0 (Below w.heap.size w wc))
   case first =>
    have H := HC29.out
    clear HC29
    by_cases c30 : t563 ≥ 2
    rotate_left
    ·rw [if_neg c30] at H
     have c30b0 : decide (2 ≤ t563) = false := decide_eq_false c30
     clear c30
     (first | rw [c30b0] | rw [c30b1] | (simp only [i64_w, i32_w]; rw [c30b0]) | skip)
     by_cases c53 : t563 = 2
     rotate_left
     ·rw [if_neg c53] at H
      have c53b0 : (t563 == 2) = false := beq_eq_false_iff_ne.mpr c53
      have c53b1 : (t563 != 2) = true := bne_iff_ne.mpr c53
      by_cases c59 : t563 = 3
      rotate_left
      ·rw [if_neg c59] at H
       have c59b0 : (t563 == 3) = false := beq_eq_false_iff_ne.mpr c59
       have c59b1 : (t563 != 3) = true := bne_iff_ne.mpr c59
       have H' := zK H
       clear H
       go_wp2
       repeat (go_quiet (fail); try go_wp2)
       go_meet
       case rel => exact ⟨_, (false), m9, H', ⟨by have := HJ6.out; first | omega | exact Nat.le_refl _⟩, ⟨by exact Kd.qR HO_4.out⟩, ⟨by exact qK BK562.out⟩, ⟨by repeat (first | (with_reducible first | exact HB.out | apply bA | apply bN | apply below_drew1 | refine bS ?_ GE562.out) | exact HB.out)⟩⟩
      rw [if_pos c59] at H
      have c59b0 : (t563 == 3) = true := beq_iff_eq.mpr c59
      have c59b1 : (t563 != 3) = false := bne_eq_false_iff_eq.mpr c59
      clear c59
      have H' := zK H
      clear H
      have hcz60_0 : wc.cell? ⟨gb562, 0, none⟩ = some (.int .i64 t550) := (bc BK562.out 0).trans rfl
      have hcz60_1 : wc.cell? ⟨gb562, 1, none⟩ = some (.int .i64 t551) := (bc BK562.out 1).trans rfl
      have hcz60_2 : wc.cell? ⟨gb562, 2, none⟩ = some (.int .i64 t552) := (bc BK562.out 2).trans rfl
      have hcz60_3 : wc.cell? ⟨gb562, 3, none⟩ = some (.int .i64 t553) := (bc BK562.out 3).trans rfl
      have hcz60_4 : wc.cell? ⟨gb562, 4, none⟩ = some (.int .i64 t554) := (bc BK562.out 4).trans rfl
      have hcz60_5 : wc.cell? ⟨gb562, 5, none⟩ = some (.int .i64 t555) := (bc BK562.out 5).trans rfl
      have hcz60_6 : wc.cell? ⟨gb562, 6, none⟩ = some (.int .i64 t556) := (bc BK562.out 6).trans rfl
      have hcz60_7 : wc.cell? ⟨gb562, 7, none⟩ = some (.int .i64 t557) := (bc BK562.out 7).trans rfl
      have hfz60_0 := bf BK562.out 0
      have hfz60_1 := bf BK562.out 1
      have hfz60_2 := bf BK562.out 2
      have hfz60_3 := bf BK562.out 3
      have hfz60_4 := bf BK562.out 4
      have hfz60_5 := bf BK562.out 5
      have hfz60_6 := bf BK562.out 6
      have hfz60_7 := bf BK562.out 7
      go_wp2
      repeat (go_quiet (fail); try go_wp2)
      go_meet
      case rel => exact ⟨_, (decide (t554 ≤ 5000)), m9, H', ⟨by have := HJ6.out; first | omega | exact Nat.le_refl _⟩, ⟨by exact Kd.qR HO_4.out⟩, ⟨by exact qK BK562.out⟩, ⟨by repeat (first | (with_reducible first | exact HB.out | apply bA | apply bN | apply below_drew1 | refine bS ?_ GE562.out) | exact HB.out)⟩⟩
     rw [if_pos c53] at H
     have c53b0 : (t563 == 2) = true := beq_iff_eq.mpr c53
     have c53b1 : (t563 != 2) = false := bne_eq_false_iff_eq.mpr c53
     clear c53
     by_cases c54 : t557 = 0
     ·rw [if_pos c54] at H
      have c54b0 : (t557 == 0) = true := beq_iff_eq.mpr c54
      have c54b1 : (t557 != 0) = false := bne_eq_false_iff_eq.mpr c54
      clear c54
      have H' := zK H
      clear H
      have hcz55_0 : wc.cell? ⟨gb562, 0, none⟩ = some (.int .i64 t550) := (bc BK562.out 0).trans rfl
      have hcz55_1 : wc.cell? ⟨gb562, 1, none⟩ = some (.int .i64 t551) := (bc BK562.out 1).trans rfl
      have hcz55_2 : wc.cell? ⟨gb562, 2, none⟩ = some (.int .i64 t552) := (bc BK562.out 2).trans rfl
      have hcz55_3 : wc.cell? ⟨gb562, 3, none⟩ = some (.int .i64 t553) := (bc BK562.out 3).trans rfl
      have hcz55_4 : wc.cell? ⟨gb562, 4, none⟩ = some (.int .i64 t554) := (bc BK562.out 4).trans rfl
      have hcz55_5 : wc.cell? ⟨gb562, 5, none⟩ = some (.int .i64 t555) := (bc BK562.out 5).trans rfl
      have hcz55_6 : wc.cell? ⟨gb562, 6, none⟩ = some (.int .i64 t556) := (bc BK562.out 6).trans rfl
      have hcz55_7 : wc.cell? ⟨gb562, 7, none⟩ = some (.int .i64 t557) := (bc BK562.out 7).trans rfl
      have hfz55_0 := bf BK562.out 0
      have hfz55_1 := bf BK562.out 1
      have hfz55_2 := bf BK562.out 2
      have hfz55_3 := bf BK562.out 3
      have hfz55_4 := bf BK562.out 4
      have hfz55_5 := bf BK562.out 5
      have hfz55_6 := bf BK562.out 6
      have hfz55_7 := bf BK562.out 7
      go_wp2
      repeat (go_quiet (fail); try go_wp2)
      go_meet
      case rel => exact ⟨_, (true), m9, H', ⟨by have := HJ6.out; first | omega | exact Nat.le_refl _⟩, ⟨by exact Kd.qR HO_4.out⟩, ⟨by exact qK BK562.out⟩, ⟨by repeat (first | (with_reducible first | exact HB.out | apply bA | apply bN | apply below_drew1 | refine bS ?_ GE562.out) | exact HB.out)⟩⟩
     rw [if_neg c54] at H
     have c54b0 : (t557 == 0) = false := beq_eq_false_iff_ne.mpr c54
     have c54b1 : (t557 != 0) = true := bne_iff_ne.mpr c54
     by_cases c56 : t563 = 3
     rotate_left
     ·rw [if_neg c56] at H
      have c56b0 : (t563 == 3) = false := beq_eq_false_iff_ne.mpr c56
      have c56b1 : (t563 != 3) = true := bne_iff_ne.mpr c56
      have H' := zK H
      clear H
      have hcz58_0 : wc.cell? ⟨gb562, 0, none⟩ = some (.int .i64 t550) := (bc BK562.out 0).trans rfl
      have hcz58_1 : wc.cell? ⟨gb562, 1, none⟩ = some (.int .i64 t551) := (bc BK562.out 1).trans rfl
      have hcz58_2 : wc.cell? ⟨gb562, 2, none⟩ = some (.int .i64 t552) := (bc BK562.out 2).trans rfl
      have hcz58_3 : wc.cell? ⟨gb562, 3, none⟩ = some (.int .i64 t553) := (bc BK562.out 3).trans rfl
      have hcz58_4 : wc.cell? ⟨gb562, 4, none⟩ = some (.int .i64 t554) := (bc BK562.out 4).trans rfl
      have hcz58_5 : wc.cell? ⟨gb562, 5, none⟩ = some (.int .i64 t555) := (bc BK562.out 5).trans rfl
      have hcz58_6 : wc.cell? ⟨gb562, 6, none⟩ = some (.int .i64 t556) := (bc BK562.out 6).trans rfl
      have hcz58_7 : wc.cell? ⟨gb562, 7, none⟩ = some (.int .i64 t557) := (bc BK562.out 7).trans rfl
      have hfz58_0 := bf BK562.out 0
      have hfz58_1 := bf BK562.out 1
      have hfz58_2 := bf BK562.out 2
      have hfz58_3 := bf BK562.out 3
      have hfz58_4 := bf BK562.out 4
      have hfz58_5 := bf BK562.out 5
      have hfz58_6 := bf BK562.out 6
      have hfz58_7 := bf BK562.out 7
      go_wp2
      repeat (go_quiet (fail); try go_wp2)
      go_meet
      case rel => exact ⟨_, (false), m9, H', ⟨by have := HJ6.out; first | omega | exact Nat.le_refl _⟩, ⟨by exact Kd.qR HO_4.out⟩, ⟨by exact qK BK562.out⟩, ⟨by repeat (first | (with_reducible first | exact HB.out | apply bA | apply bN | apply below_drew1 | refine bS ?_ GE562.out) | exact HB.out)⟩⟩
     rw [if_pos c56] at H
     have c56b0 : (t563 == 3) = true := beq_iff_eq.mpr c56
     have c56b1 : (t563 != 3) = false := bne_eq_false_iff_eq.mpr c56
     clear c56
     have H' := zK H
     clear H
     have hcz57_0 : wc.cell? ⟨gb562, 0, none⟩ = some (.int .i64 t550) := (bc BK562.out 0).trans rfl
     have hcz57_1 : wc.cell? ⟨gb562, 1, none⟩ = some (.int .i64 t551) := (bc BK562.out 1).trans rfl
     have hcz57_2 : wc.cell? ⟨gb562, 2, none⟩ = some (.int .i64 t552) := (bc BK562.out 2).trans rfl
     have hcz57_3 : wc.cell? ⟨gb562, 3, none⟩ = some (.int .i64 t553) := (bc BK562.out 3).trans rfl
     have hcz57_4 : wc.cell? ⟨gb562, 4, none⟩ = some (.int .i64 t554) := (bc BK562.out 4).trans rfl
     have hcz57_5 : wc.cell? ⟨gb562, 5, none⟩ = some (.int .i64 t555) := (bc BK562.out 5).trans rfl
     have hcz57_6 : wc.cell? ⟨gb562, 6, none⟩ = some (.int .i64 t556) := (bc BK562.out 6).trans rfl
     have hcz57_7 : wc.cell? ⟨gb562, 7, none⟩ = some (.int .i64 t557) := (bc BK562.out 7).trans rfl
     have hfz57_0 := bf BK562.out 0
     have hfz57_1 := bf BK562.out 1
     have hfz57_2 := bf BK562.out 2
     have hfz57_3 := bf BK562.out 3
     have hfz57_4 := bf BK562.out 4
     have hfz57_5 := bf BK562.out 5
     have hfz57_6 := bf BK562.out 6
     have hfz57_7 := bf BK562.out 7
     go_wp2
     repeat (go_quiet (fail); try go_wp2)
     go_meet
     case rel => exact ⟨_, (decide (t554 ≤ 5000)), m9, H', ⟨by have := HJ6.out; first | omega | exact Nat.le_refl _⟩, ⟨by exact Kd.qR HO_4.out⟩, ⟨by exact qK BK562.out⟩, ⟨by repeat (first | (with_reducible first | exact HB.out | apply bA | apply bN | apply below_drew1 | refine bS ?_ GE562.out) | exact HB.out)⟩⟩
    rw [if_pos c30] at H
    have c30b0 : decide (2 ≤ t563) = true := decide_eq_true c30
    clear c30
    (first | rw [c30b0] | rw [c30b1] | (simp only [i64_w, i32_w]; rw [c30b0]) | skip)
    replace H := Option.bind_eq_some_iff.mp H
    obtain ⟨t567, A310, H⟩ := H
    replace H : (if t567 = true then (if t563 = 2 then (if t557 = 0 then (laws_FnFates.j1 kj6 l0 t558 t563 true t550 t551 t552 t553 t554 t555 t556 t557) else (if t563 = 3 then (laws_FnFates.j1 kj6 l0 t558 t563 (decide (t554 ≤ 5000)) t550 t551 t552 t553 t554 t555 t556 t557) else (laws_FnFates.j1 kj6 l0 t558 t563 false t550 t551 t552 t553 t554 t555 t556 t557))) else (if t563 = 3 then (laws_FnFates.j1 kj6 l0 t558 t563 (decide (t554 ≤ 5000)) t550 t551 t552 t553 t554 t555 t556 t557) else (laws_FnFates.j1 kj6 l0 t558 t563 false t550 t551 t552 t553 t554 t555 t556 t557))) else (laws_FnFates.j1 kj6 l0 t558 t563 true t550 t551 t552 t553 t554 t555 t556 t557)) = some r := H
    have A31 := zK A310
    clear A310
    by_cases c32 : t567 = true
    rotate_left
    ·replace c32 := Bool.eq_false_iff.mpr c32
     subst c32
     have H1 : (laws_FnFates.j1 kj6 l0 t558 t563 true t550 t551 t552 t553 t554 t555 t556 t557) = some r := by rw [if_neg (show ¬ (false = true) by decide)] at H; exact H
     clear H
     have H := H1
     clear H1
     have H' := zK H
     clear H
     have hcz51_0 : wc.cell? ⟨gb562, 0, none⟩ = some (.int .i64 t550) := (bc BK562.out 0).trans rfl
     have hcz51_1 : wc.cell? ⟨gb562, 1, none⟩ = some (.int .i64 t551) := (bc BK562.out 1).trans rfl
     have hcz51_2 : wc.cell? ⟨gb562, 2, none⟩ = some (.int .i64 t552) := (bc BK562.out 2).trans rfl
     have hcz51_3 : wc.cell? ⟨gb562, 3, none⟩ = some (.int .i64 t553) := (bc BK562.out 3).trans rfl
     have hcz51_4 : wc.cell? ⟨gb562, 4, none⟩ = some (.int .i64 t554) := (bc BK562.out 4).trans rfl
     have hcz51_5 : wc.cell? ⟨gb562, 5, none⟩ = some (.int .i64 t555) := (bc BK562.out 5).trans rfl
     have hcz51_6 : wc.cell? ⟨gb562, 6, none⟩ = some (.int .i64 t556) := (bc BK562.out 6).trans rfl
     have hcz51_7 : wc.cell? ⟨gb562, 7, none⟩ = some (.int .i64 t557) := (bc BK562.out 7).trans rfl
     have hfz51_0 := bf BK562.out 0
     have hfz51_1 := bf BK562.out 1
     have hfz51_2 := bf BK562.out 2
     have hfz51_3 := bf BK562.out 3
     have hfz51_4 := bf BK562.out 4
     have hfz51_5 := bf BK562.out 5
     have hfz51_6 := bf BK562.out 6
     have hfz51_7 := bf BK562.out 7
     go_wp2_with (first | (go_at_call 12; (with_reducible refine (impl_IsDue.calls kj6 t550 t551 t552 t553 t554 t555 t556 t557 t561 false _ A31.out).mono ?_); rintro e w52 ⟨rfl, hb⟩; have n0_ := zK (Kd.R_below (Kd.qR HO_4.out) hb); have n1_ := zK (bB (g := gb562) (o := .cells #[.int .i64 t550, .int .i64 t551, .int .i64 t552, .int .i64 t553, .int .i64 t554, .int .i64 t555, .int .i64 t556, .int .i64 t557] 29 (0, 0)) (qK BK562.out) hb); have n2_ := zK (bT m4 hb); clear HO_4; clear BK562; clear HB; have HO_4 := n0_; have BK562 := n1_; have HB := n2_; clear n0_ n1_ n2_; (try clear hb); (try clear hb2); (try clear hk); (try clear hi)))
     repeat (go_quiet (first | (go_at_call 12; (with_reducible refine (impl_IsDue.calls kj6 t550 t551 t552 t553 t554 t555 t556 t557 t561 false _ A31.out).mono ?_); rintro e w52 ⟨rfl, hb⟩; have n0_ := zK (Kd.R_below (Kd.qR HO_4.out) hb); have n1_ := zK (bB (g := gb562) (o := .cells #[.int .i64 t550, .int .i64 t551, .int .i64 t552, .int .i64 t553, .int .i64 t554, .int .i64 t555, .int .i64 t556, .int .i64 t557] 29 (0, 0)) (qK BK562.out) hb); have n2_ := zK (bT m4 hb); clear HO_4; clear BK562; clear HB; have HO_4 := n0_; have BK562 := n1_; have HB := n2_; clear n0_ n1_ n2_; (try clear hb); (try clear hb2); (try clear hk); (try clear hi))); try go_wp2_with (first | (go_at_call 12; (with_reducible refine (impl_IsDue.calls kj6 t550 t551 t552 t553 t554 t555 t556 t557 t561 false _ A31.out).mono ?_); rintro e w52 ⟨rfl, hb⟩; have n0_ := zK (Kd.R_below (Kd.qR HO_4.out) hb); have n1_ := zK (bB (g := gb562) (o := .cells #[.int .i64 t550, .int .i64 t551, .int .i64 t552, .int .i64 t553, .int .i64 t554, .int .i64 t555, .int .i64 t556, .int .i64 t557] 29 (0, 0)) (qK BK562.out) hb); have n2_ := zK (bT m4 hb); clear HO_4; clear BK562; clear HB; have HO_4 := n0_; have BK562 := n1_; have HB := n2_; clear n0_ n1_ n2_; (try clear hb); (try clear hb2); (try clear hk); (try clear hi))))
     go_meet
     case rel => exact ⟨_, (true), m9, H', ⟨by have := HJ6.out; first | omega | exact Nat.le_refl _⟩, ⟨by exact Kd.qR HO_4.out⟩, ⟨by exact qK BK562.out⟩, ⟨by repeat (first | (with_reducible first | exact HB.out | apply bA | apply bN | apply below_drew1 | refine bS ?_ GE562.out) | exact HB.out)⟩⟩
    subst c32
    have H1 : (if t563 = 2 then (if t557 = 0 then (laws_FnFates.j1 kj6 l0 t558 t563 true t550 t551 t552 t553 t554 t555 t556 t557) else (if t563 = 3 then (laws_FnFates.j1 kj6 l0 t558 t563 (decide (t554 ≤ 5000)) t550 t551 t552 t553 t554 t555 t556 t557) else (laws_FnFates.j1 kj6 l0 t558 t563 false t550 t551 t552 t553 t554 t555 t556 t557))) else (if t563 = 3 then (laws_FnFates.j1 kj6 l0 t558 t563 (decide (t554 ≤ 5000)) t550 t551 t552 t553 t554 t555 t556 t557) else (laws_FnFates.j1 kj6 l0 t558 t563 false t550 t551 t552 t553 t554 t555 t556 t557))) = some r := by rw [if_pos rfl] at H; exact H
    clear H
    have H := H1
    clear H1
    by_cases c33 : t563 = 2
    rotate_left
    ·rw [if_neg c33] at H
     have c33b0 : (t563 == 2) = false := beq_eq_false_iff_ne.mpr c33
     have c33b1 : (t563 != 2) = true := bne_iff_ne.mpr c33
     by_cases c45 : t563 = 3
     rotate_left
     ·rw [if_neg c45] at H
      have c45b0 : (t563 == 3) = false := beq_eq_false_iff_ne.mpr c45
      have c45b1 : (t563 != 3) = true := bne_iff_ne.mpr c45
      have H' := zK H
      clear H
      have hcz49_0 : wc.cell? ⟨gb562, 0, none⟩ = some (.int .i64 t550) := (bc BK562.out 0).trans rfl
      have hcz49_1 : wc.cell? ⟨gb562, 1, none⟩ = some (.int .i64 t551) := (bc BK562.out 1).trans rfl
      have hcz49_2 : wc.cell? ⟨gb562, 2, none⟩ = some (.int .i64 t552) := (bc BK562.out 2).trans rfl
      have hcz49_3 : wc.cell? ⟨gb562, 3, none⟩ = some (.int .i64 t553) := (bc BK562.out 3).trans rfl
      have hcz49_4 : wc.cell? ⟨gb562, 4, none⟩ = some (.int .i64 t554) := (bc BK562.out 4).trans rfl
      have hcz49_5 : wc.cell? ⟨gb562, 5, none⟩ = some (.int .i64 t555) := (bc BK562.out 5).trans rfl
      have hcz49_6 : wc.cell? ⟨gb562, 6, none⟩ = some (.int .i64 t556) := (bc BK562.out 6).trans rfl
      have hcz49_7 : wc.cell? ⟨gb562, 7, none⟩ = some (.int .i64 t557) := (bc BK562.out 7).trans rfl
      have hfz49_0 := bf BK562.out 0
      have hfz49_1 := bf BK562.out 1
      have hfz49_2 := bf BK562.out 2
      have hfz49_3 := bf BK562.out 3
      have hfz49_4 := bf BK562.out 4
      have hfz49_5 := bf BK562.out 5
      have hfz49_6 := bf BK562.out 6
      have hfz49_7 := bf BK562.out 7
      go_wp2_with (first | (go_at_call 12; (with_reducible refine (impl_IsDue.calls kj6 t550 t551 t552 t553 t554 t555 t556 t557 t561 true _ A31.out).mono ?_); rintro e w50 ⟨rfl, hb⟩; have n0_ := zK (Kd.R_below (Kd.qR HO_4.out) hb); have n1_ := zK (bB (g := gb562) (o := .cells #[.int .i64 t550, .int .i64 t551, .int .i64 t552, .int .i64 t553, .int .i64 t554, .int .i64 t555, .int .i64 t556, .int .i64 t557] 29 (0, 0)) (qK BK562.out) hb); have n2_ := zK (bT m4 hb); clear HO_4; clear BK562; clear HB; have HO_4 := n0_; have BK562 := n1_; have HB := n2_; clear n0_ n1_ n2_; (try clear hb); (try clear hb2); (try clear hk); (try clear hi)))
      repeat (go_quiet (first | (go_at_call 12; (with_reducible refine (impl_IsDue.calls kj6 t550 t551 t552 t553 t554 t555 t556 t557 t561 true _ A31.out).mono ?_); rintro e w50 ⟨rfl, hb⟩; have n0_ := zK (Kd.R_below (Kd.qR HO_4.out) hb); have n1_ := zK (bB (g := gb562) (o := .cells #[.int .i64 t550, .int .i64 t551, .int .i64 t552, .int .i64 t553, .int .i64 t554, .int .i64 t555, .int .i64 t556, .int .i64 t557] 29 (0, 0)) (qK BK562.out) hb); have n2_ := zK (bT m4 hb); clear HO_4; clear BK562; clear HB; have HO_4 := n0_; have BK562 := n1_; have HB := n2_; clear n0_ n1_ n2_; (try clear hb); (try clear hb2); (try clear hk); (try clear hi))); try go_wp2_with (first | (go_at_call 12; (with_reducible refine (impl_IsDue.calls kj6 t550 t551 t552 t553 t554 t555 t556 t557 t561 true _ A31.out).mono ?_); rintro e w50 ⟨rfl, hb⟩; have n0_ := zK (Kd.R_below (Kd.qR HO_4.out) hb); have n1_ := zK (bB (g := gb562) (o := .cells #[.int .i64 t550, .int .i64 t551, .int .i64 t552, .int .i64 t553, .int .i64 t554, .int .i64 t555, .int .i64 t556, .int .i64 t557] 29 (0, 0)) (qK BK562.out) hb); have n2_ := zK (bT m4 hb); clear HO_4; clear BK562; clear HB; have HO_4 := n0_; have BK562 := n1_; have HB := n2_; clear n0_ n1_ n2_; (try clear hb); (try clear hb2); (try clear hk); (try clear hi))))
      go_meet
      case rel => exact ⟨_, (false), m9, H', ⟨by have := HJ6.out; first | omega | exact Nat.le_refl _⟩, ⟨by exact Kd.qR HO_4.out⟩, ⟨by exact qK BK562.out⟩, ⟨by repeat (first | (with_reducible first | exact HB.out | apply bA | apply bN | apply below_drew1 | refine bS ?_ GE562.out) | exact HB.out)⟩⟩
     rw [if_pos c45] at H
     have c45b0 : (t563 == 3) = true := beq_iff_eq.mpr c45
     have c45b1 : (t563 != 3) = false := bne_eq_false_iff_eq.mpr c45
     clear c45
     have H' := zK H
     clear H
     have hcz46_0 : wc.cell? ⟨gb562, 0, none⟩ = some (.int .i64 t550) := (bc BK562.out 0).trans rfl
     have hcz46_1 : wc.cell? ⟨gb562, 1, none⟩ = some (.int .i64 t551) := (bc BK562.out 1).trans rfl
     have hcz46_2 : wc.cell? ⟨gb562, 2, none⟩ = some (.int .i64 t552) := (bc BK562.out 2).trans rfl
     have hcz46_3 : wc.cell? ⟨gb562, 3, none⟩ = some (.int .i64 t553) := (bc BK562.out 3).trans rfl
     have hcz46_4 : wc.cell? ⟨gb562, 4, none⟩ = some (.int .i64 t554) := (bc BK562.out 4).trans rfl
     have hcz46_5 : wc.cell? ⟨gb562, 5, none⟩ = some (.int .i64 t555) := (bc BK562.out 5).trans rfl
     have hcz46_6 : wc.cell? ⟨gb562, 6, none⟩ = some (.int .i64 t556) := (bc BK562.out 6).trans rfl
     have hcz46_7 : wc.cell? ⟨gb562, 7, none⟩ = some (.int .i64 t557) := (bc BK562.out 7).trans rfl
     have hfz46_0 := bf BK562.out 0
     have hfz46_1 := bf BK562.out 1
     have hfz46_2 := bf BK562.out 2
     have hfz46_3 := bf BK562.out 3
     have hfz46_4 := bf BK562.out 4
     have hfz46_5 := bf BK562.out 5
     have hfz46_6 := bf BK562.out 6
     have hfz46_7 := bf BK562.out 7
     go_wp2_with (first | (go_at_call 12; (with_reducible refine (impl_IsDue.calls kj6 t550 t551 t552 t553 t554 t555 t556 t557 t561 true _ A31.out).mono ?_); rintro e w47 ⟨rfl, hb⟩; have n0_ := zK (Kd.R_below (Kd.qR HO_4.out) hb); have n1_ := zK (bB (g := gb562) (o := .cells #[.int .i64 t550, .int .i64 t551, .int .i64 t552, .int .i64 t553, .int .i64 t554, .int .i64 t555, .int .i64 t556, .int .i64 t557] 29 (0, 0)) (qK BK562.out) hb); have n2_ := zK (bT m4 hb); clear HO_4; clear BK562; clear HB; have HO_4 := n0_; have BK562 := n1_; have HB := n2_; clear n0_ n1_ n2_; (try clear hb); (try clear hb2); (try clear hk); (try clear hi); have hcz48_0 : w47.cell? ⟨gb562, 0, none⟩ = some (.int .i64 t550) := (bc BK562.out 0).trans rfl; have hcz48_1 : w47.cell? ⟨gb562, 1, none⟩ = some (.int .i64 t551) := (bc BK562.out 1).trans rfl; have hcz48_2 : w47.cell? ⟨gb562, 2, none⟩ = some (.int .i64 t552) := (bc BK562.out 2).trans rfl; have hcz48_3 : w47.cell? ⟨gb562, 3, none⟩ = some (.int .i64 t553) := (bc BK562.out 3).trans rfl; have hcz48_4 : w47.cell? ⟨gb562, 4, none⟩ = some (.int .i64 t554) := (bc BK562.out 4).trans rfl; have hcz48_5 : w47.cell? ⟨gb562, 5, none⟩ = some (.int .i64 t555) := (bc BK562.out 5).trans rfl; have hcz48_6 : w47.cell? ⟨gb562, 6, none⟩ = some (.int .i64 t556) := (bc BK562.out 6).trans rfl; have hcz48_7 : w47.cell? ⟨gb562, 7, none⟩ = some (.int .i64 t557) := (bc BK562.out 7).trans rfl; have hfz48_0 := bf BK562.out 0; have hfz48_1 := bf BK562.out 1; have hfz48_2 := bf BK562.out 2; have hfz48_3 := bf BK562.out 3; have hfz48_4 := bf BK562.out 4; have hfz48_5 := bf BK562.out 5; have hfz48_6 := bf BK562.out 6; have hfz48_7 := bf BK562.out 7))
     repeat (go_quiet (first | (go_at_call 12; (with_reducible refine (impl_IsDue.calls kj6 t550 t551 t552 t553 t554 t555 t556 t557 t561 true _ A31.out).mono ?_); rintro e w47 ⟨rfl, hb⟩; have n0_ := zK (Kd.R_below (Kd.qR HO_4.out) hb); have n1_ := zK (bB (g := gb562) (o := .cells #[.int .i64 t550, .int .i64 t551, .int .i64 t552, .int .i64 t553, .int .i64 t554, .int .i64 t555, .int .i64 t556, .int .i64 t557] 29 (0, 0)) (qK BK562.out) hb); have n2_ := zK (bT m4 hb); clear HO_4; clear BK562; clear HB; have HO_4 := n0_; have BK562 := n1_; have HB := n2_; clear n0_ n1_ n2_; (try clear hb); (try clear hb2); (try clear hk); (try clear hi); have hcz48_0 : w47.cell? ⟨gb562, 0, none⟩ = some (.int .i64 t550) := (bc BK562.out 0).trans rfl; have hcz48_1 : w47.cell? ⟨gb562, 1, none⟩ = some (.int .i64 t551) := (bc BK562.out 1).trans rfl; have hcz48_2 : w47.cell? ⟨gb562, 2, none⟩ = some (.int .i64 t552) := (bc BK562.out 2).trans rfl; have hcz48_3 : w47.cell? ⟨gb562, 3, none⟩ = some (.int .i64 t553) := (bc BK562.out 3).trans rfl; have hcz48_4 : w47.cell? ⟨gb562, 4, none⟩ = some (.int .i64 t554) := (bc BK562.out 4).trans rfl; have hcz48_5 : w47.cell? ⟨gb562, 5, none⟩ = some (.int .i64 t555) := (bc BK562.out 5).trans rfl; have hcz48_6 : w47.cell? ⟨gb562, 6, none⟩ = some (.int .i64 t556) := (bc BK562.out 6).trans rfl; have hcz48_7 : w47.cell? ⟨gb562, 7, none⟩ = some (.int .i64 t557) := (bc BK562.out 7).trans rfl; have hfz48_0 := bf BK562.out 0; have hfz48_1 := bf BK562.out 1; have hfz48_2 := bf BK562.out 2; have hfz48_3 := bf BK562.out 3; have hfz48_4 := bf BK562.out 4; have hfz48_5 := bf BK562.out 5; have hfz48_6 := bf BK562.out 6; have hfz48_7 := bf BK562.out 7)); try go_wp2_with (first | (go_at_call 12; (with_reducible refine (impl_IsDue.calls kj6 t550 t551 t552 t553 t554 t555 t556 t557 t561 true _ A31.out).mono ?_); rintro e w47 ⟨rfl, hb⟩; have n0_ := zK (Kd.R_below (Kd.qR HO_4.out) hb); have n1_ := zK (bB (g := gb562) (o := .cells #[.int .i64 t550, .int .i64 t551, .int .i64 t552, .int .i64 t553, .int .i64 t554, .int .i64 t555, .int .i64 t556, .int .i64 t557] 29 (0, 0)) (qK BK562.out) hb); have n2_ := zK (bT m4 hb); clear HO_4; clear BK562; clear HB; have HO_4 := n0_; have BK562 := n1_; have HB := n2_; clear n0_ n1_ n2_; (try clear hb); (try clear hb2); (try clear hk); (try clear hi); have hcz48_0 : w47.cell? ⟨gb562, 0, none⟩ = some (.int .i64 t550) := (bc BK562.out 0).trans rfl; have hcz48_1 : w47.cell? ⟨gb562, 1, none⟩ = some (.int .i64 t551) := (bc BK562.out 1).trans rfl; have hcz48_2 : w47.cell? ⟨gb562, 2, none⟩ = some (.int .i64 t552) := (bc BK562.out 2).trans rfl; have hcz48_3 : w47.cell? ⟨gb562, 3, none⟩ = some (.int .i64 t553) := (bc BK562.out 3).trans rfl; have hcz48_4 : w47.cell? ⟨gb562, 4, none⟩ = some (.int .i64 t554) := (bc BK562.out 4).trans rfl; have hcz48_5 : w47.cell? ⟨gb562, 5, none⟩ = some (.int .i64 t555) := (bc BK562.out 5).trans rfl; have hcz48_6 : w47.cell? ⟨gb562, 6, none⟩ = some (.int .i64 t556) := (bc BK562.out 6).trans rfl; have hcz48_7 : w47.cell? ⟨gb562, 7, none⟩ = some (.int .i64 t557) := (bc BK562.out 7).trans rfl; have hfz48_0 := bf BK562.out 0; have hfz48_1 := bf BK562.out 1; have hfz48_2 := bf BK562.out 2; have hfz48_3 := bf BK562.out 3; have hfz48_4 := bf BK562.out 4; have hfz48_5 := bf BK562.out 5; have hfz48_6 := bf BK562.out 6; have hfz48_7 := bf BK562.out 7)))
     go_meet
     case rel => exact ⟨_, (decide (t554 ≤ 5000)), m9, H', ⟨by have := HJ6.out; first | omega | exact Nat.le_refl _⟩, ⟨by exact Kd.qR HO_4.out⟩, ⟨by exact qK BK562.out⟩, ⟨by repeat (first | (with_reducible first | exact HB.out | apply bA | apply bN | apply below_drew1 | refine bS ?_ GE562.out) | exact HB.out)⟩⟩
    rw [if_pos c33] at H
    have c33b0 : (t563 == 2) = true := beq_iff_eq.mpr c33
    have c33b1 : (t563 != 2) = false := bne_eq_false_iff_eq.mpr c33
    clear c33
    by_cases c34 : t557 = 0
    ·rw [if_pos c34] at H
     have c34b0 : (t557 == 0) = true := beq_iff_eq.mpr c34
     have c34b1 : (t557 != 0) = false := bne_eq_false_iff_eq.mpr c34
     clear c34
     have H' := zK H
     clear H
     have hcz35_0 : wc.cell? ⟨gb562, 0, none⟩ = some (.int .i64 t550) := (bc BK562.out 0).trans rfl
     have hcz35_1 : wc.cell? ⟨gb562, 1, none⟩ = some (.int .i64 t551) := (bc BK562.out 1).trans rfl
     have hcz35_2 : wc.cell? ⟨gb562, 2, none⟩ = some (.int .i64 t552) := (bc BK562.out 2).trans rfl
     have hcz35_3 : wc.cell? ⟨gb562, 3, none⟩ = some (.int .i64 t553) := (bc BK562.out 3).trans rfl
     have hcz35_4 : wc.cell? ⟨gb562, 4, none⟩ = some (.int .i64 t554) := (bc BK562.out 4).trans rfl
     have hcz35_5 : wc.cell? ⟨gb562, 5, none⟩ = some (.int .i64 t555) := (bc BK562.out 5).trans rfl
     have hcz35_6 : wc.cell? ⟨gb562, 6, none⟩ = some (.int .i64 t556) := (bc BK562.out 6).trans rfl
     have hcz35_7 : wc.cell? ⟨gb562, 7, none⟩ = some (.int .i64 t557) := (bc BK562.out 7).trans rfl
     have hfz35_0 := bf BK562.out 0
     have hfz35_1 := bf BK562.out 1
     have hfz35_2 := bf BK562.out 2
     have hfz35_3 := bf BK562.out 3
     have hfz35_4 := bf BK562.out 4
     have hfz35_5 := bf BK562.out 5
     have hfz35_6 := bf BK562.out 6
     have hfz35_7 := bf BK562.out 7
     go_wp2_with (first | (go_at_call 12; (with_reducible refine (impl_IsDue.calls kj6 t550 t551 t552 t553 t554 t555 t556 t557 t561 true _ A31.out).mono ?_); rintro e w36 ⟨rfl, hb⟩; have n0_ := zK (Kd.R_below (Kd.qR HO_4.out) hb); have n1_ := zK (bB (g := gb562) (o := .cells #[.int .i64 t550, .int .i64 t551, .int .i64 t552, .int .i64 t553, .int .i64 t554, .int .i64 t555, .int .i64 t556, .int .i64 t557] 29 (0, 0)) (qK BK562.out) hb); have n2_ := zK (bT m4 hb); clear HO_4; clear BK562; clear HB; have HO_4 := n0_; have BK562 := n1_; have HB := n2_; clear n0_ n1_ n2_; (try clear hb); (try clear hb2); (try clear hk); (try clear hi); have hcz37_0 : w36.cell? ⟨gb562, 0, none⟩ = some (.int .i64 t550) := (bc BK562.out 0).trans rfl; have hcz37_1 : w36.cell? ⟨gb562, 1, none⟩ = some (.int .i64 t551) := (bc BK562.out 1).trans rfl; have hcz37_2 : w36.cell? ⟨gb562, 2, none⟩ = some (.int .i64 t552) := (bc BK562.out 2).trans rfl; have hcz37_3 : w36.cell? ⟨gb562, 3, none⟩ = some (.int .i64 t553) := (bc BK562.out 3).trans rfl; have hcz37_4 : w36.cell? ⟨gb562, 4, none⟩ = some (.int .i64 t554) := (bc BK562.out 4).trans rfl; have hcz37_5 : w36.cell? ⟨gb562, 5, none⟩ = some (.int .i64 t555) := (bc BK562.out 5).trans rfl; have hcz37_6 : w36.cell? ⟨gb562, 6, none⟩ = some (.int .i64 t556) := (bc BK562.out 6).trans rfl; have hcz37_7 : w36.cell? ⟨gb562, 7, none⟩ = some (.int .i64 t557) := (bc BK562.out 7).trans rfl; have hfz37_0 := bf BK562.out 0; have hfz37_1 := bf BK562.out 1; have hfz37_2 := bf BK562.out 2; have hfz37_3 := bf BK562.out 3; have hfz37_4 := bf BK562.out 4; have hfz37_5 := bf BK562.out 5; have hfz37_6 := bf BK562.out 6; have hfz37_7 := bf BK562.out 7))
     repeat (go_quiet (first | (go_at_call 12; (with_reducible refine (impl_IsDue.calls kj6 t550 t551 t552 t553 t554 t555 t556 t557 t561 true _ A31.out).mono ?_); rintro e w36 ⟨rfl, hb⟩; have n0_ := zK (Kd.R_below (Kd.qR HO_4.out) hb); have n1_ := zK (bB (g := gb562) (o := .cells #[.int .i64 t550, .int .i64 t551, .int .i64 t552, .int .i64 t553, .int .i64 t554, .int .i64 t555, .int .i64 t556, .int .i64 t557] 29 (0, 0)) (qK BK562.out) hb); have n2_ := zK (bT m4 hb); clear HO_4; clear BK562; clear HB; have HO_4 := n0_; have BK562 := n1_; have HB := n2_; clear n0_ n1_ n2_; (try clear hb); (try clear hb2); (try clear hk); (try clear hi); have hcz37_0 : w36.cell? ⟨gb562, 0, none⟩ = some (.int .i64 t550) := (bc BK562.out 0).trans rfl; have hcz37_1 : w36.cell? ⟨gb562, 1, none⟩ = some (.int .i64 t551) := (bc BK562.out 1).trans rfl; have hcz37_2 : w36.cell? ⟨gb562, 2, none⟩ = some (.int .i64 t552) := (bc BK562.out 2).trans rfl; have hcz37_3 : w36.cell? ⟨gb562, 3, none⟩ = some (.int .i64 t553) := (bc BK562.out 3).trans rfl; have hcz37_4 : w36.cell? ⟨gb562, 4, none⟩ = some (.int .i64 t554) := (bc BK562.out 4).trans rfl; have hcz37_5 : w36.cell? ⟨gb562, 5, none⟩ = some (.int .i64 t555) := (bc BK562.out 5).trans rfl; have hcz37_6 : w36.cell? ⟨gb562, 6, none⟩ = some (.int .i64 t556) := (bc BK562.out 6).trans rfl; have hcz37_7 : w36.cell? ⟨gb562, 7, none⟩ = some (.int .i64 t557) := (bc BK562.out 7).trans rfl; have hfz37_0 := bf BK562.out 0; have hfz37_1 := bf BK562.out 1; have hfz37_2 := bf BK562.out 2; have hfz37_3 := bf BK562.out 3; have hfz37_4 := bf BK562.out 4; have hfz37_5 := bf BK562.out 5; have hfz37_6 := bf BK562.out 6; have hfz37_7 := bf BK562.out 7)); try go_wp2_with (first | (go_at_call 12; (with_reducible refine (impl_IsDue.calls kj6 t550 t551 t552 t553 t554 t555 t556 t557 t561 true _ A31.out).mono ?_); rintro e w36 ⟨rfl, hb⟩; have n0_ := zK (Kd.R_below (Kd.qR HO_4.out) hb); have n1_ := zK (bB (g := gb562) (o := .cells #[.int .i64 t550, .int .i64 t551, .int .i64 t552, .int .i64 t553, .int .i64 t554, .int .i64 t555, .int .i64 t556, .int .i64 t557] 29 (0, 0)) (qK BK562.out) hb); have n2_ := zK (bT m4 hb); clear HO_4; clear BK562; clear HB; have HO_4 := n0_; have BK562 := n1_; have HB := n2_; clear n0_ n1_ n2_; (try clear hb); (try clear hb2); (try clear hk); (try clear hi); have hcz37_0 : w36.cell? ⟨gb562, 0, none⟩ = some (.int .i64 t550) := (bc BK562.out 0).trans rfl; have hcz37_1 : w36.cell? ⟨gb562, 1, none⟩ = some (.int .i64 t551) := (bc BK562.out 1).trans rfl; have hcz37_2 : w36.cell? ⟨gb562, 2, none⟩ = some (.int .i64 t552) := (bc BK562.out 2).trans rfl; have hcz37_3 : w36.cell? ⟨gb562, 3, none⟩ = some (.int .i64 t553) := (bc BK562.out 3).trans rfl; have hcz37_4 : w36.cell? ⟨gb562, 4, none⟩ = some (.int .i64 t554) := (bc BK562.out 4).trans rfl; have hcz37_5 : w36.cell? ⟨gb562, 5, none⟩ = some (.int .i64 t555) := (bc BK562.out 5).trans rfl; have hcz37_6 : w36.cell? ⟨gb562, 6, none⟩ = some (.int .i64 t556) := (bc BK562.out 6).trans rfl; have hcz37_7 : w36.cell? ⟨gb562, 7, none⟩ = some (.int .i64 t557) := (bc BK562.out 7).trans rfl; have hfz37_0 := bf BK562.out 0; have hfz37_1 := bf BK562.out 1; have hfz37_2 := bf BK562.out 2; have hfz37_3 := bf BK562.out 3; have hfz37_4 := bf BK562.out 4; have hfz37_5 := bf BK562.out 5; have hfz37_6 := bf BK562.out 6; have hfz37_7 := bf BK562.out 7)))
     go_meet
     case rel => exact ⟨_, (true), m9, H', ⟨by have := HJ6.out; first | omega | exact Nat.le_refl _⟩, ⟨by exact Kd.qR HO_4.out⟩, ⟨by exact qK BK562.out⟩, ⟨by repeat (first | (with_reducible first | exact HB.out | apply bA | apply bN | apply below_drew1 | refine bS ?_ GE562.out) | exact HB.out)⟩⟩
    rw [if_neg c34] at H
    have c34b0 : (t557 == 0) = false := beq_eq_false_iff_ne.mpr c34
    have c34b1 : (t557 != 0) = true := bne_iff_ne.mpr c34
    by_cases c38 : t563 = 3
    rotate_left
    ·rw [if_neg c38] at H
     have c38b0 : (t563 == 3) = false := beq_eq_false_iff_ne.mpr c38
     have c38b1 : (t563 != 3) = true := bne_iff_ne.mpr c38
     have H' := zK H
     clear H
     have hcz42_0 : wc.cell? ⟨gb562, 0, none⟩ = some (.int .i64 t550) := (bc BK562.out 0).trans rfl
     have hcz42_1 : wc.cell? ⟨gb562, 1, none⟩ = some (.int .i64 t551) := (bc BK562.out 1).trans rfl
     have hcz42_2 : wc.cell? ⟨gb562, 2, none⟩ = some (.int .i64 t552) := (bc BK562.out 2).trans rfl
     have hcz42_3 : wc.cell? ⟨gb562, 3, none⟩ = some (.int .i64 t553) := (bc BK562.out 3).trans rfl
     have hcz42_4 : wc.cell? ⟨gb562, 4, none⟩ = some (.int .i64 t554) := (bc BK562.out 4).trans rfl
     have hcz42_5 : wc.cell? ⟨gb562, 5, none⟩ = some (.int .i64 t555) := (bc BK562.out 5).trans rfl
     have hcz42_6 : wc.cell? ⟨gb562, 6, none⟩ = some (.int .i64 t556) := (bc BK562.out 6).trans rfl
     have hcz42_7 : wc.cell? ⟨gb562, 7, none⟩ = some (.int .i64 t557) := (bc BK562.out 7).trans rfl
     have hfz42_0 := bf BK562.out 0
     have hfz42_1 := bf BK562.out 1
     have hfz42_2 := bf BK562.out 2
     have hfz42_3 := bf BK562.out 3
     have hfz42_4 := bf BK562.out 4
     have hfz42_5 := bf BK562.out 5
     have hfz42_6 := bf BK562.out 6
     have hfz42_7 := bf BK562.out 7
     go_wp2_with (first | (go_at_call 12; (with_reducible refine (impl_IsDue.calls kj6 t550 t551 t552 t553 t554 t555 t556 t557 t561 true _ A31.out).mono ?_); rintro e w43 ⟨rfl, hb⟩; have n0_ := zK (Kd.R_below (Kd.qR HO_4.out) hb); have n1_ := zK (bB (g := gb562) (o := .cells #[.int .i64 t550, .int .i64 t551, .int .i64 t552, .int .i64 t553, .int .i64 t554, .int .i64 t555, .int .i64 t556, .int .i64 t557] 29 (0, 0)) (qK BK562.out) hb); have n2_ := zK (bT m4 hb); clear HO_4; clear BK562; clear HB; have HO_4 := n0_; have BK562 := n1_; have HB := n2_; clear n0_ n1_ n2_; (try clear hb); (try clear hb2); (try clear hk); (try clear hi); have hcz44_0 : w43.cell? ⟨gb562, 0, none⟩ = some (.int .i64 t550) := (bc BK562.out 0).trans rfl; have hcz44_1 : w43.cell? ⟨gb562, 1, none⟩ = some (.int .i64 t551) := (bc BK562.out 1).trans rfl; have hcz44_2 : w43.cell? ⟨gb562, 2, none⟩ = some (.int .i64 t552) := (bc BK562.out 2).trans rfl; have hcz44_3 : w43.cell? ⟨gb562, 3, none⟩ = some (.int .i64 t553) := (bc BK562.out 3).trans rfl; have hcz44_4 : w43.cell? ⟨gb562, 4, none⟩ = some (.int .i64 t554) := (bc BK562.out 4).trans rfl; have hcz44_5 : w43.cell? ⟨gb562, 5, none⟩ = some (.int .i64 t555) := (bc BK562.out 5).trans rfl; have hcz44_6 : w43.cell? ⟨gb562, 6, none⟩ = some (.int .i64 t556) := (bc BK562.out 6).trans rfl; have hcz44_7 : w43.cell? ⟨gb562, 7, none⟩ = some (.int .i64 t557) := (bc BK562.out 7).trans rfl; have hfz44_0 := bf BK562.out 0; have hfz44_1 := bf BK562.out 1; have hfz44_2 := bf BK562.out 2; have hfz44_3 := bf BK562.out 3; have hfz44_4 := bf BK562.out 4; have hfz44_5 := bf BK562.out 5; have hfz44_6 := bf BK562.out 6; have hfz44_7 := bf BK562.out 7))
     repeat (go_quiet (first | (go_at_call 12; (with_reducible refine (impl_IsDue.calls kj6 t550 t551 t552 t553 t554 t555 t556 t557 t561 true _ A31.out).mono ?_); rintro e w43 ⟨rfl, hb⟩; have n0_ := zK (Kd.R_below (Kd.qR HO_4.out) hb); have n1_ := zK (bB (g := gb562) (o := .cells #[.int .i64 t550, .int .i64 t551, .int .i64 t552, .int .i64 t553, .int .i64 t554, .int .i64 t555, .int .i64 t556, .int .i64 t557] 29 (0, 0)) (qK BK562.out) hb); have n2_ := zK (bT m4 hb); clear HO_4; clear BK562; clear HB; have HO_4 := n0_; have BK562 := n1_; have HB := n2_; clear n0_ n1_ n2_; (try clear hb); (try clear hb2); (try clear hk); (try clear hi); have hcz44_0 : w43.cell? ⟨gb562, 0, none⟩ = some (.int .i64 t550) := (bc BK562.out 0).trans rfl; have hcz44_1 : w43.cell? ⟨gb562, 1, none⟩ = some (.int .i64 t551) := (bc BK562.out 1).trans rfl; have hcz44_2 : w43.cell? ⟨gb562, 2, none⟩ = some (.int .i64 t552) := (bc BK562.out 2).trans rfl; have hcz44_3 : w43.cell? ⟨gb562, 3, none⟩ = some (.int .i64 t553) := (bc BK562.out 3).trans rfl; have hcz44_4 : w43.cell? ⟨gb562, 4, none⟩ = some (.int .i64 t554) := (bc BK562.out 4).trans rfl; have hcz44_5 : w43.cell? ⟨gb562, 5, none⟩ = some (.int .i64 t555) := (bc BK562.out 5).trans rfl; have hcz44_6 : w43.cell? ⟨gb562, 6, none⟩ = some (.int .i64 t556) := (bc BK562.out 6).trans rfl; have hcz44_7 : w43.cell? ⟨gb562, 7, none⟩ = some (.int .i64 t557) := (bc BK562.out 7).trans rfl; have hfz44_0 := bf BK562.out 0; have hfz44_1 := bf BK562.out 1; have hfz44_2 := bf BK562.out 2; have hfz44_3 := bf BK562.out 3; have hfz44_4 := bf BK562.out 4; have hfz44_5 := bf BK562.out 5; have hfz44_6 := bf BK562.out 6; have hfz44_7 := bf BK562.out 7)); try go_wp2_with (first | (go_at_call 12; (with_reducible refine (impl_IsDue.calls kj6 t550 t551 t552 t553 t554 t555 t556 t557 t561 true _ A31.out).mono ?_); rintro e w43 ⟨rfl, hb⟩; have n0_ := zK (Kd.R_below (Kd.qR HO_4.out) hb); have n1_ := zK (bB (g := gb562) (o := .cells #[.int .i64 t550, .int .i64 t551, .int .i64 t552, .int .i64 t553, .int .i64 t554, .int .i64 t555, .int .i64 t556, .int .i64 t557] 29 (0, 0)) (qK BK562.out) hb); have n2_ := zK (bT m4 hb); clear HO_4; clear BK562; clear HB; have HO_4 := n0_; have BK562 := n1_; have HB := n2_; clear n0_ n1_ n2_; (try clear hb); (try clear hb2); (try clear hk); (try clear hi); have hcz44_0 : w43.cell? ⟨gb562, 0, none⟩ = some (.int .i64 t550) := (bc BK562.out 0).trans rfl; have hcz44_1 : w43.cell? ⟨gb562, 1, none⟩ = some (.int .i64 t551) := (bc BK562.out 1).trans rfl; have hcz44_2 : w43.cell? ⟨gb562, 2, none⟩ = some (.int .i64 t552) := (bc BK562.out 2).trans rfl; have hcz44_3 : w43.cell? ⟨gb562, 3, none⟩ = some (.int .i64 t553) := (bc BK562.out 3).trans rfl; have hcz44_4 : w43.cell? ⟨gb562, 4, none⟩ = some (.int .i64 t554) := (bc BK562.out 4).trans rfl; have hcz44_5 : w43.cell? ⟨gb562, 5, none⟩ = some (.int .i64 t555) := (bc BK562.out 5).trans rfl; have hcz44_6 : w43.cell? ⟨gb562, 6, none⟩ = some (.int .i64 t556) := (bc BK562.out 6).trans rfl; have hcz44_7 : w43.cell? ⟨gb562, 7, none⟩ = some (.int .i64 t557) := (bc BK562.out 7).trans rfl; have hfz44_0 := bf BK562.out 0; have hfz44_1 := bf BK562.out 1; have hfz44_2 := bf BK562.out 2; have hfz44_3 := bf BK562.out 3; have hfz44_4 := bf BK562.out 4; have hfz44_5 := bf BK562.out 5; have hfz44_6 := bf BK562.out 6; have hfz44_7 := bf BK562.out 7)))
     go_meet
     case rel => exact ⟨_, (false), m9, H', ⟨by have := HJ6.out; first | omega | exact Nat.le_refl _⟩, ⟨by exact Kd.qR HO_4.out⟩, ⟨by exact qK BK562.out⟩, ⟨by repeat (first | (with_reducible first | exact HB.out | apply bA | apply bN | apply below_drew1 | refine bS ?_ GE562.out) | exact HB.out)⟩⟩
    rw [if_pos c38] at H
    have c38b0 : (t563 == 3) = true := beq_iff_eq.mpr c38
    have c38b1 : (t563 != 3) = false := bne_eq_false_iff_eq.mpr c38
    clear c38
    have H' := zK H
    clear H
    have hcz39_0 : wc.cell? ⟨gb562, 0, none⟩ = some (.int .i64 t550) := (bc BK562.out 0).trans rfl
    have hcz39_1 : wc.cell? ⟨gb562, 1, none⟩ = some (.int .i64 t551) := (bc BK562.out 1).trans rfl
    have hcz39_2 : wc.cell? ⟨gb562, 2, none⟩ = some (.int .i64 t552) := (bc BK562.out 2).trans rfl
    have hcz39_3 : wc.cell? ⟨gb562, 3, none⟩ = some (.int .i64 t553) := (bc BK562.out 3).trans rfl
    have hcz39_4 : wc.cell? ⟨gb562, 4, none⟩ = some (.int .i64 t554) := (bc BK562.out 4).trans rfl
    have hcz39_5 : wc.cell? ⟨gb562, 5, none⟩ = some (.int .i64 t555) := (bc BK562.out 5).trans rfl
    have hcz39_6 : wc.cell? ⟨gb562, 6, none⟩ = some (.int .i64 t556) := (bc BK562.out 6).trans rfl
    have hcz39_7 : wc.cell? ⟨gb562, 7, none⟩ = some (.int .i64 t557) := (bc BK562.out 7).trans rfl
    have hfz39_0 := bf BK562.out 0
    have hfz39_1 := bf BK562.out 1
    have hfz39_2 := bf BK562.out 2
    have hfz39_3 := bf BK562.out 3
    have hfz39_4 := bf BK562.out 4
    have hfz39_5 := bf BK562.out 5
    have hfz39_6 := bf BK562.out 6
    have hfz39_7 := bf BK562.out 7
    go_wp2_with (first | (go_at_call 12; (with_reducible refine (impl_IsDue.calls kj6 t550 t551 t552 t553 t554 t555 t556 t557 t561 true _ A31.out).mono ?_); rintro e w40 ⟨rfl, hb⟩; have n0_ := zK (Kd.R_below (Kd.qR HO_4.out) hb); have n1_ := zK (bB (g := gb562) (o := .cells #[.int .i64 t550, .int .i64 t551, .int .i64 t552, .int .i64 t553, .int .i64 t554, .int .i64 t555, .int .i64 t556, .int .i64 t557] 29 (0, 0)) (qK BK562.out) hb); have n2_ := zK (bT m4 hb); clear HO_4; clear BK562; clear HB; have HO_4 := n0_; have BK562 := n1_; have HB := n2_; clear n0_ n1_ n2_; (try clear hb); (try clear hb2); (try clear hk); (try clear hi); have hcz41_0 : w40.cell? ⟨gb562, 0, none⟩ = some (.int .i64 t550) := (bc BK562.out 0).trans rfl; have hcz41_1 : w40.cell? ⟨gb562, 1, none⟩ = some (.int .i64 t551) := (bc BK562.out 1).trans rfl; have hcz41_2 : w40.cell? ⟨gb562, 2, none⟩ = some (.int .i64 t552) := (bc BK562.out 2).trans rfl; have hcz41_3 : w40.cell? ⟨gb562, 3, none⟩ = some (.int .i64 t553) := (bc BK562.out 3).trans rfl; have hcz41_4 : w40.cell? ⟨gb562, 4, none⟩ = some (.int .i64 t554) := (bc BK562.out 4).trans rfl; have hcz41_5 : w40.cell? ⟨gb562, 5, none⟩ = some (.int .i64 t555) := (bc BK562.out 5).trans rfl; have hcz41_6 : w40.cell? ⟨gb562, 6, none⟩ = some (.int .i64 t556) := (bc BK562.out 6).trans rfl; have hcz41_7 : w40.cell? ⟨gb562, 7, none⟩ = some (.int .i64 t557) := (bc BK562.out 7).trans rfl; have hfz41_0 := bf BK562.out 0; have hfz41_1 := bf BK562.out 1; have hfz41_2 := bf BK562.out 2; have hfz41_3 := bf BK562.out 3; have hfz41_4 := bf BK562.out 4; have hfz41_5 := bf BK562.out 5; have hfz41_6 := bf BK562.out 6; have hfz41_7 := bf BK562.out 7))
    repeat (go_quiet (first | (go_at_call 12; (with_reducible refine (impl_IsDue.calls kj6 t550 t551 t552 t553 t554 t555 t556 t557 t561 true _ A31.out).mono ?_); rintro e w40 ⟨rfl, hb⟩; have n0_ := zK (Kd.R_below (Kd.qR HO_4.out) hb); have n1_ := zK (bB (g := gb562) (o := .cells #[.int .i64 t550, .int .i64 t551, .int .i64 t552, .int .i64 t553, .int .i64 t554, .int .i64 t555, .int .i64 t556, .int .i64 t557] 29 (0, 0)) (qK BK562.out) hb); have n2_ := zK (bT m4 hb); clear HO_4; clear BK562; clear HB; have HO_4 := n0_; have BK562 := n1_; have HB := n2_; clear n0_ n1_ n2_; (try clear hb); (try clear hb2); (try clear hk); (try clear hi); have hcz41_0 : w40.cell? ⟨gb562, 0, none⟩ = some (.int .i64 t550) := (bc BK562.out 0).trans rfl; have hcz41_1 : w40.cell? ⟨gb562, 1, none⟩ = some (.int .i64 t551) := (bc BK562.out 1).trans rfl; have hcz41_2 : w40.cell? ⟨gb562, 2, none⟩ = some (.int .i64 t552) := (bc BK562.out 2).trans rfl; have hcz41_3 : w40.cell? ⟨gb562, 3, none⟩ = some (.int .i64 t553) := (bc BK562.out 3).trans rfl; have hcz41_4 : w40.cell? ⟨gb562, 4, none⟩ = some (.int .i64 t554) := (bc BK562.out 4).trans rfl; have hcz41_5 : w40.cell? ⟨gb562, 5, none⟩ = some (.int .i64 t555) := (bc BK562.out 5).trans rfl; have hcz41_6 : w40.cell? ⟨gb562, 6, none⟩ = some (.int .i64 t556) := (bc BK562.out 6).trans rfl; have hcz41_7 : w40.cell? ⟨gb562, 7, none⟩ = some (.int .i64 t557) := (bc BK562.out 7).trans rfl; have hfz41_0 := bf BK562.out 0; have hfz41_1 := bf BK562.out 1; have hfz41_2 := bf BK562.out 2; have hfz41_3 := bf BK562.out 3; have hfz41_4 := bf BK562.out 4; have hfz41_5 := bf BK562.out 5; have hfz41_6 := bf BK562.out 6; have hfz41_7 := bf BK562.out 7)); try go_wp2_with (first | (go_at_call 12; (with_reducible refine (impl_IsDue.calls kj6 t550 t551 t552 t553 t554 t555 t556 t557 t561 true _ A31.out).mono ?_); rintro e w40 ⟨rfl, hb⟩; have n0_ := zK (Kd.R_below (Kd.qR HO_4.out) hb); have n1_ := zK (bB (g := gb562) (o := .cells #[.int .i64 t550, .int .i64 t551, .int .i64 t552, .int .i64 t553, .int .i64 t554, .int .i64 t555, .int .i64 t556, .int .i64 t557] 29 (0, 0)) (qK BK562.out) hb); have n2_ := zK (bT m4 hb); clear HO_4; clear BK562; clear HB; have HO_4 := n0_; have BK562 := n1_; have HB := n2_; clear n0_ n1_ n2_; (try clear hb); (try clear hb2); (try clear hk); (try clear hi); have hcz41_0 : w40.cell? ⟨gb562, 0, none⟩ = some (.int .i64 t550) := (bc BK562.out 0).trans rfl; have hcz41_1 : w40.cell? ⟨gb562, 1, none⟩ = some (.int .i64 t551) := (bc BK562.out 1).trans rfl; have hcz41_2 : w40.cell? ⟨gb562, 2, none⟩ = some (.int .i64 t552) := (bc BK562.out 2).trans rfl; have hcz41_3 : w40.cell? ⟨gb562, 3, none⟩ = some (.int .i64 t553) := (bc BK562.out 3).trans rfl; have hcz41_4 : w40.cell? ⟨gb562, 4, none⟩ = some (.int .i64 t554) := (bc BK562.out 4).trans rfl; have hcz41_5 : w40.cell? ⟨gb562, 5, none⟩ = some (.int .i64 t555) := (bc BK562.out 5).trans rfl; have hcz41_6 : w40.cell? ⟨gb562, 6, none⟩ = some (.int .i64 t556) := (bc BK562.out 6).trans rfl; have hcz41_7 : w40.cell? ⟨gb562, 7, none⟩ = some (.int .i64 t557) := (bc BK562.out 7).trans rfl; have hfz41_0 := bf BK562.out 0; have hfz41_1 := bf BK562.out 1; have hfz41_2 := bf BK562.out 2; have hfz41_3 := bf BK562.out 3; have hfz41_4 := bf BK562.out 4; have hfz41_5 := bf BK562.out 5; have hfz41_6 := bf BK562.out 6; have hfz41_7 := bf BK562.out 7)))
    go_meet
    case rel => exact ⟨_, (decide (t554 ≤ 5000)), m9, H', ⟨by have := HJ6.out; first | omega | exact Nat.le_refl _⟩, ⟨by exact Kd.qR HO_4.out⟩, ⟨by exact qK BK562.out⟩, ⟨by repeat (first | (with_reducible first | exact HB.out | apply bA | apply bN | apply below_drew1 | refine bS ?_ GE562.out) | exact HB.out)⟩⟩
   case rest =>
    clear HC29
    try clear c1
    try clear c2
    try clear p2
    try clear c3
    try clear c4
    try clear c5
    try clear c16
    try clear c16b0
    try clear c16b1
    try clear c18
    try clear c18b0
    try clear c18b1
    try clear c18b2
    try clear c21
    try clear c21b0
    try clear c21b1
    try clear c28
    try clear c30
    try clear c30b0
    try clear c32
    try clear c33
    try clear c33b0
    try clear c33b1
    try clear c34
    try clear c34b0
    try clear c34b1
    try clear c38
    try clear c38b0
    try clear c38b1
    try clear c45
    try clear c45b0
    try clear c45b1
    try clear c53
    try clear c53b0
    try clear c53b1
    try clear c54
    try clear c54b0
    try clear c54b1
    try clear c56
    try clear c56b0
    try clear c56b1
    try clear c59
    try clear c59b0
    try clear c59b1
    try clear hcz10_0
    try clear hcz10_1
    try clear hcz10_2
    try clear hcz10_3
    try clear hcz10_4
    try clear hcz10_5
    try clear hcz10_6
    try clear hcz10_7
    try clear hcz13_0
    try clear hcz13_1
    try clear hcz13_2
    try clear hcz13_3
    try clear hcz13_4
    try clear hcz13_5
    try clear hcz13_6
    try clear hcz13_7
    try clear hcz23_0
    try clear hcz23_1
    try clear hcz23_2
    try clear hcz23_3
    try clear hcz23_4
    try clear hcz23_5
    try clear hcz23_6
    try clear hcz23_7
    try clear hcz26_0
    try clear hcz26_1
    try clear hcz26_2
    try clear hcz26_3
    try clear hcz26_4
    try clear hcz26_5
    try clear hcz26_6
    try clear hcz26_7
    try clear hcz35_0
    try clear hcz35_1
    try clear hcz35_2
    try clear hcz35_3
    try clear hcz35_4
    try clear hcz35_5
    try clear hcz35_6
    try clear hcz35_7
    try clear hcz37_0
    try clear hcz37_1
    try clear hcz37_2
    try clear hcz37_3
    try clear hcz37_4
    try clear hcz37_5
    try clear hcz37_6
    try clear hcz37_7
    try clear hcz39_0
    try clear hcz39_1
    try clear hcz39_2
    try clear hcz39_3
    try clear hcz39_4
    try clear hcz39_5
    try clear hcz39_6
    try clear hcz39_7
    try clear hcz41_0
    try clear hcz41_1
    try clear hcz41_2
    try clear hcz41_3
    try clear hcz41_4
    try clear hcz41_5
    try clear hcz41_6
    try clear hcz41_7
    try clear hcz42_0
    try clear hcz42_1
    try clear hcz42_2
    try clear hcz42_3
    try clear hcz42_4
    try clear hcz42_5
    try clear hcz42_6
    try clear hcz42_7
    try clear hcz44_0
    try clear hcz44_1
    try clear hcz44_2
    try clear hcz44_3
    try clear hcz44_4
    try clear hcz44_5
    try clear hcz44_6
    try clear hcz44_7
    try clear hcz46_0
    try clear hcz46_1
    try clear hcz46_2
    try clear hcz46_3
    try clear hcz46_4
    try clear hcz46_5
    try clear hcz46_6
    try clear hcz46_7
    try clear hcz48_0
    try clear hcz48_1
    try clear hcz48_2
    try clear hcz48_3
    try clear hcz48_4
    try clear hcz48_5
    try clear hcz48_6
    try clear hcz48_7
    try clear hcz49_0
    try clear hcz49_1
    try clear hcz49_2
    try clear hcz49_3
    try clear hcz49_4
    try clear hcz49_5
    try clear hcz49_6
    try clear hcz49_7
    try clear hcz51_0
    try clear hcz51_1
    try clear hcz51_2
    try clear hcz51_3
    try clear hcz51_4
    try clear hcz51_5
    try clear hcz51_6
    try clear hcz51_7
    try clear hcz55_0
    try clear hcz55_1
    try clear hcz55_2
    try clear hcz55_3
    try clear hcz55_4
    try clear hcz55_5
    try clear hcz55_6
    try clear hcz55_7
    try clear hcz57_0
    try clear hcz57_1
    try clear hcz57_2
    try clear hcz57_3
    try clear hcz57_4
    try clear hcz57_5
    try clear hcz57_6
    try clear hcz57_7
    try clear hcz58_0
    try clear hcz58_1
    try clear hcz58_2
    try clear hcz58_3
    try clear hcz58_4
    try clear hcz58_5
    try clear hcz58_6
    try clear hcz58_7
    try clear hcz60_0
    try clear hcz60_1
    try clear hcz60_2
    try clear hcz60_3
    try clear hcz60_4
    try clear hcz60_5
    try clear hcz60_6
    try clear hcz60_7
    try clear hfz10_0
    try clear hfz10_1
    try clear hfz10_2
    try clear hfz10_3
    try clear hfz10_4
    try clear hfz10_5
    try clear hfz10_6
    try clear hfz10_7
    try clear hfz13_0
    try clear hfz13_1
    try clear hfz13_2
    try clear hfz13_3
    try clear hfz13_4
    try clear hfz13_5
    try clear hfz13_6
    try clear hfz13_7
    try clear hfz23_0
    try clear hfz23_1
    try clear hfz23_2
    try clear hfz23_3
    try clear hfz23_4
    try clear hfz23_5
    try clear hfz23_6
    try clear hfz23_7
    try clear hfz26_0
    try clear hfz26_1
    try clear hfz26_2
    try clear hfz26_3
    try clear hfz26_4
    try clear hfz26_5
    try clear hfz26_6
    try clear hfz26_7
    try clear hfz35_0
    try clear hfz35_1
    try clear hfz35_2
    try clear hfz35_3
    try clear hfz35_4
    try clear hfz35_5
    try clear hfz35_6
    try clear hfz35_7
    try clear hfz37_0
    try clear hfz37_1
    try clear hfz37_2
    try clear hfz37_3
    try clear hfz37_4
    try clear hfz37_5
    try clear hfz37_6
    try clear hfz37_7
    try clear hfz39_0
    try clear hfz39_1
    try clear hfz39_2
    try clear hfz39_3
    try clear hfz39_4
    try clear hfz39_5
    try clear hfz39_6
    try clear hfz39_7
    try clear hfz41_0
    try clear hfz41_1
    try clear hfz41_2
    try clear hfz41_3
    try clear hfz41_4
    try clear hfz41_5
    try clear hfz41_6
    try clear hfz41_7
    try clear hfz42_0
    try clear hfz42_1
    try clear hfz42_2
    try clear hfz42_3
    try clear hfz42_4
    try clear hfz42_5
    try clear hfz42_6
    try clear hfz42_7
    try clear hfz44_0
    try clear hfz44_1
    try clear hfz44_2
    try clear hfz44_3
    try clear hfz44_4
    try clear hfz44_5
    try clear hfz44_6
    try clear hfz44_7
    try clear hfz46_0
    try clear hfz46_1
    try clear hfz46_2
    try clear hfz46_3
    try clear hfz46_4
    try clear hfz46_5
    try clear hfz46_6
    try clear hfz46_7
    try clear hfz48_0
    try clear hfz48_1
    try clear hfz48_2
    try clear hfz48_3
    try clear hfz48_4
    try clear hfz48_5
    try clear hfz48_6
    try clear hfz48_7
    try clear hfz49_0
    try clear hfz49_1
    try clear hfz49_2
    try clear hfz49_3
    try clear hfz49_4
    try clear hfz49_5
    try clear hfz49_6
    try clear hfz49_7
    try clear hfz51_0
    try clear hfz51_1
    try clear hfz51_2
    try clear hfz51_3
    try clear hfz51_4
    try clear hfz51_5
    try clear hfz51_6
    try clear hfz51_7
    try clear hfz55_0
    try clear hfz55_1
    try clear hfz55_2
    try clear hfz55_3
    try clear hfz55_4
    try clear hfz55_5
    try clear hfz55_6
    try clear hfz55_7
    try clear hfz57_0
    try clear hfz57_1
    try clear hfz57_2
    try clear hfz57_3
    try clear hfz57_4
    try clear hfz57_5
    try clear hfz57_6
    try clear hfz57_7
    try clear hfz58_0
    try clear hfz58_1
    try clear hfz58_2
    try clear hfz58_3
    try clear hfz58_4
    try clear hfz58_5
    try clear hfz58_6
    try clear hfz58_7
    try clear hfz60_0
    try clear hfz60_1
    try clear hfz60_2
    try clear hfz60_3
    try clear hfz60_4
    try clear hfz60_5
    try clear hfz60_6
    try clear hfz60_7
    try clear p2
    obtain ⟨kq, x81_28, rfl, HA, HJ28, HO_4, BK562, HB⟩ := hcut
    cases kq with
    | zero => exact absurd HA.out (by simp [laws_FnFates.j1])
    | succ kj28 =>
     have H := HA.out
     clear HA
     simp only [laws_FnFates.j1] at H
     by_cases c61 : x81_28 = true
     ·subst c61
      have H1 : (some false) = some r := by rw [if_pos rfl] at H; exact H
      clear H
      have H := H1
      clear H1
      obtain rfl := Option.some.inj H
      go_wp2
      repeat (go_quiet (fail); try go_wp2)
      go_ret
      exact ⟨by first | rfl | (simp [errW_none, errW_some] <;> rfl) | (simp [*, errW_none, errW_some] <;> rfl), by repeat (first | (with_reducible first | exact HB.out | apply bA | apply bN | apply below_drew1 | refine bS ?_ GE562.out) | exact HB.out)⟩
     replace c61 := Bool.eq_false_iff.mpr c61
     subst c61
     have H1 : (laws_FnFates.l0 kj28 l0 t558 t563 0 t550 t551 t552 t553 t554 t555 t556 t557) = some r := by rw [if_neg (show ¬ (false = true) by decide)] at H; exact H
     clear H
     have H := H1
     clear H1
     have H' := zK H
     clear H
     go_wp2
     repeat (go_quiet (fail); try go_wp2)
     go_loopg [8] kj28 (fun kq v8 w' => ∃ (x8_3 : Int), v8 = .int .i64 x8_3 ∧ Aside0 (laws_FnFates.l0 kq l0 t558 t563 x8_3 t550 t551 t552 t553 t554 t555 t556 t557 = some r) ∧ Aside0 (kq ≤ kj28) ∧ Aside0 (Kd.R k38 38 w' w.heap.size (fun _ => True) (.slice Ao11 t558.length co11) t558) ∧ Aside0 (w'.heap[gb562]? = some (.cells #[.int .i64 t550, .int .i64 t551, .int .i64 t552, .int .i64 t553, .int .i64 t554, .int .i64 t555, .int .i64 t556, .int .i64 t557] 29 (0, 0))) ∧ Aside0 (Below w.heap.size w w'))
     case atStart => exact ⟨(0), m9, H', ⟨Nat.le_refl _⟩, ⟨by exact Kd.qR HO_4.out⟩, ⟨by exact qK BK562.out⟩, ⟨by repeat (first | (with_reducible first | exact HB.out | apply bA | apply bN | apply below_drew1 | refine bS ?_ GE562.out) | exact HB.out)⟩⟩
     case round =>
      clear H'
      try clear c1
      try clear c2
      try clear p2
      try clear c3
      try clear c4
      try clear c5
      try clear c6
      try clear c16
      try clear c16b0
      try clear c16b1
      try clear c18
      try clear c18b0
      try clear c18b1
      try clear c18b2
      try clear c21
      try clear c21b0
      try clear c21b1
      try clear c28
      try clear c30
      try clear c30b0
      try clear c32
      try clear c33
      try clear c33b0
      try clear c33b1
      try clear c34
      try clear c34b0
      try clear c34b1
      try clear c38
      try clear c38b0
      try clear c38b1
      try clear c45
      try clear c45b0
      try clear c45b1
      try clear c53
      try clear c53b0
      try clear c53b1
      try clear c54
      try clear c54b0
      try clear c54b1
      try clear c56
      try clear c56b0
      try clear c56b1
      try clear c59
      try clear c59b0
      try clear c59b1
      try clear c61
      try clear hcz10_0
      try clear hcz10_1
      try clear hcz10_2
      try clear hcz10_3
      try clear hcz10_4
      try clear hcz10_5
      try clear hcz10_6
      try clear hcz10_7
      try clear hcz13_0
      try clear hcz13_1
      try clear hcz13_2
      try clear hcz13_3
      try clear hcz13_4
      try clear hcz13_5
      try clear hcz13_6
      try clear hcz13_7
      try clear hcz23_0
      try clear hcz23_1
      try clear hcz23_2
      try clear hcz23_3
      try clear hcz23_4
      try clear hcz23_5
      try clear hcz23_6
      try clear hcz23_7
      try clear hcz26_0
      try clear hcz26_1
      try clear hcz26_2
      try clear hcz26_3
      try clear hcz26_4
      try clear hcz26_5
      try clear hcz26_6
      try clear hcz26_7
      try clear hcz35_0
      try clear hcz35_1
      try clear hcz35_2
      try clear hcz35_3
      try clear hcz35_4
      try clear hcz35_5
      try clear hcz35_6
      try clear hcz35_7
      try clear hcz37_0
      try clear hcz37_1
      try clear hcz37_2
      try clear hcz37_3
      try clear hcz37_4
      try clear hcz37_5
      try clear hcz37_6
      try clear hcz37_7
      try clear hcz39_0
      try clear hcz39_1
      try clear hcz39_2
      try clear hcz39_3
      try clear hcz39_4
      try clear hcz39_5
      try clear hcz39_6
      try clear hcz39_7
      try clear hcz41_0
      try clear hcz41_1
      try clear hcz41_2
      try clear hcz41_3
      try clear hcz41_4
      try clear hcz41_5
      try clear hcz41_6
      try clear hcz41_7
      try clear hcz42_0
      try clear hcz42_1
      try clear hcz42_2
      try clear hcz42_3
      try clear hcz42_4
      try clear hcz42_5
      try clear hcz42_6
      try clear hcz42_7
      try clear hcz44_0
      try clear hcz44_1
      try clear hcz44_2
      try clear hcz44_3
      try clear hcz44_4
      try clear hcz44_5
      try clear hcz44_6
      try clear hcz44_7
      try clear hcz46_0
      try clear hcz46_1
      try clear hcz46_2
      try clear hcz46_3
      try clear hcz46_4
      try clear hcz46_5
      try clear hcz46_6
      try clear hcz46_7
      try clear hcz48_0
      try clear hcz48_1
      try clear hcz48_2
      try clear hcz48_3
      try clear hcz48_4
      try clear hcz48_5
      try clear hcz48_6
      try clear hcz48_7
      try clear hcz49_0
      try clear hcz49_1
      try clear hcz49_2
      try clear hcz49_3
      try clear hcz49_4
      try clear hcz49_5
      try clear hcz49_6
      try clear hcz49_7
      try clear hcz51_0
      try clear hcz51_1
      try clear hcz51_2
      try clear hcz51_3
      try clear hcz51_4
      try clear hcz51_5
      try clear hcz51_6
      try clear hcz51_7
      try clear hcz55_0
      try clear hcz55_1
      try clear hcz55_2
      try clear hcz55_3
      try clear hcz55_4
      try clear hcz55_5
      try clear hcz55_6
      try clear hcz55_7
      try clear hcz57_0
      try clear hcz57_1
      try clear hcz57_2
      try clear hcz57_3
      try clear hcz57_4
      try clear hcz57_5
      try clear hcz57_6
      try clear hcz57_7
      try clear hcz58_0
      try clear hcz58_1
      try clear hcz58_2
      try clear hcz58_3
      try clear hcz58_4
      try clear hcz58_5
      try clear hcz58_6
      try clear hcz58_7
      try clear hcz60_0
      try clear hcz60_1
      try clear hcz60_2
      try clear hcz60_3
      try clear hcz60_4
      try clear hcz60_5
      try clear hcz60_6
      try clear hcz60_7
      try clear hfz10_0
      try clear hfz10_1
      try clear hfz10_2
      try clear hfz10_3
      try clear hfz10_4
      try clear hfz10_5
      try clear hfz10_6
      try clear hfz10_7
      try clear hfz13_0
      try clear hfz13_1
      try clear hfz13_2
      try clear hfz13_3
      try clear hfz13_4
      try clear hfz13_5
      try clear hfz13_6
      try clear hfz13_7
      try clear hfz23_0
      try clear hfz23_1
      try clear hfz23_2
      try clear hfz23_3
      try clear hfz23_4
      try clear hfz23_5
      try clear hfz23_6
      try clear hfz23_7
      try clear hfz26_0
      try clear hfz26_1
      try clear hfz26_2
      try clear hfz26_3
      try clear hfz26_4
      try clear hfz26_5
      try clear hfz26_6
      try clear hfz26_7
      try clear hfz35_0
      try clear hfz35_1
      try clear hfz35_2
      try clear hfz35_3
      try clear hfz35_4
      try clear hfz35_5
      try clear hfz35_6
      try clear hfz35_7
      try clear hfz37_0
      try clear hfz37_1
      try clear hfz37_2
      try clear hfz37_3
      try clear hfz37_4
      try clear hfz37_5
      try clear hfz37_6
      try clear hfz37_7
      try clear hfz39_0
      try clear hfz39_1
      try clear hfz39_2
      try clear hfz39_3
      try clear hfz39_4
      try clear hfz39_5
      try clear hfz39_6
      try clear hfz39_7
      try clear hfz41_0
      try clear hfz41_1
      try clear hfz41_2
      try clear hfz41_3
      try clear hfz41_4
      try clear hfz41_5
      try clear hfz41_6
      try clear hfz41_7
      try clear hfz42_0
      try clear hfz42_1
      try clear hfz42_2
      try clear hfz42_3
      try clear hfz42_4
      try clear hfz42_5
      try clear hfz42_6
      try clear hfz42_7
      try clear hfz44_0
      try clear hfz44_1
      try clear hfz44_2
      try clear hfz44_3
      try clear hfz44_4
      try clear hfz44_5
      try clear hfz44_6
      try clear hfz44_7
      try clear hfz46_0
      try clear hfz46_1
      try clear hfz46_2
      try clear hfz46_3
      try clear hfz46_4
      try clear hfz46_5
      try clear hfz46_6
      try clear hfz46_7
      try clear hfz48_0
      try clear hfz48_1
      try clear hfz48_2
      try clear hfz48_3
      try clear hfz48_4
      try clear hfz48_5
      try clear hfz48_6
      try clear hfz48_7
      try clear hfz49_0
      try clear hfz49_1
      try clear hfz49_2
      try clear hfz49_3
      try clear hfz49_4
      try clear hfz49_5
      try clear hfz49_6
      try clear hfz49_7
      try clear hfz51_0
      try clear hfz51_1
      try clear hfz51_2
      try clear hfz51_3
      try clear hfz51_4
      try clear hfz51_5
      try clear hfz51_6
      try clear hfz51_7
      try clear hfz55_0
      try clear hfz55_1
      try clear hfz55_2
      try clear hfz55_3
      try clear hfz55_4
      try clear hfz55_5
      try clear hfz55_6
      try clear hfz55_7
      try clear hfz57_0
      try clear hfz57_1
      try clear hfz57_2
      try clear hfz57_3
      try clear hfz57_4
      try clear hfz57_5
      try clear hfz57_6
      try clear hfz57_7
      try clear hfz58_0
      try clear hfz58_1
      try clear hfz58_2
      try clear hfz58_3
      try clear hfz58_4
      try clear hfz58_5
      try clear hfz58_6
      try clear hfz58_7
      try clear hfz60_0
      try clear hfz60_1
      try clear hfz60_2
      try clear hfz60_3
      try clear hfz60_4
      try clear hfz60_5
      try clear hfz60_6
      try clear hfz60_7
      try clear p2
      obtain ⟨x8_3, rfl, HA, HK3, HO_4, BK562, HB⟩ := hrel
      cases gk with
      | zero => exact absurd HA.out (by simp [laws_FnFates.l0])
      | succ k3 =>
       have H := HA.out
       clear HA
       simp only [laws_FnFates.l0] at H
       have HC62 := zK H
       clear H
       go_upto_region 11 with (fail)
       repeat (go_quiet (fail); go_upto_region 11 with (fail))
       go_cut [89] (fun v89 wc => ∃ (kq : Nat) (x89_61 : Bool), v89 = .bool x89_61 ∧ Aside0 (laws_FnFates.j3 kq l0 t558 t563 x8_3 x89_61 t550 t551 t552 t553 t554 t555 t556 t557 = some r) ∧ Aside0 (kq ≤ k3) ∧ Aside0 (Kd.R k38 38 wc w.heap.size (fun _ => True) (.slice Ao11 t558.length co11) t558) ∧ Aside0 (wc.heap[gb562]? = some (.cells #[.int .i64 t550, .int .i64 t551, .int .i64 t552, .int .i64 t553, .int .i64 t554, .int .i64 t555, .int .i64 t556, .int .i64 t557] 29 (0, 0))) ∧ Aside0 (Below w.heap.size w wc))
       case first =>
        have H := HC62.out
        clear HC62
        by_cases c63 : x8_3 < (t558.length : Int)
        rotate_left
        ·rw [if_neg c63] at H
         have c63b0 : decide (x8_3 < (t558.length : Int)) = false := decide_eq_false c63
         clear c63
         (first | rw [c63b0] | rw [c63b1] | (simp only [i64_w, i32_w]; rw [c63b0]) | skip)
         have H' := zK H
         clear H
         go_wp2
         repeat (go_quiet (fail); try go_wp2)
         go_meet
         case rel => exact ⟨_, (false), m9, H', ⟨by have := HJ6.out; have := HJ28.out; have := HK3.out; first | omega | exact Nat.le_refl _⟩, ⟨by exact Kd.qR HO_4.out⟩, ⟨by exact qK BK562.out⟩, ⟨by repeat (first | (with_reducible first | exact HB.out | apply bA | apply bN | apply below_drew1 | refine bS ?_ GE562.out) | exact HB.out)⟩⟩
        rw [if_pos c63] at H
        have c63b0 : decide (x8_3 < (t558.length : Int)) = true := decide_eq_true c63
        clear c63
        (first | rw [c63b0] | rw [c63b1] | (simp only [i64_w, i32_w]; rw [c63b0]) | skip)
        have H' := zK H
        clear H
        go_wp2
        repeat (go_quiet (fail); try go_wp2)
        go_meet
        case rel => exact ⟨_, (decide (t563 ≥ 2)), m9, H', ⟨by have := HJ6.out; have := HJ28.out; have := HK3.out; first | omega | exact Nat.le_refl _⟩, ⟨by exact Kd.qR HO_4.out⟩, ⟨by exact qK BK562.out⟩, ⟨by repeat (first | (with_reducible first | exact HB.out | apply bA | apply bN | apply below_drew1 | refine bS ?_ GE562.out) | exact HB.out)⟩⟩
       case rest =>
        clear HC62
        try clear c1
        try clear c2
        try clear p2
        try clear c3
        try clear c4
        try clear c5
        try clear c6
        try clear c16
        try clear c16b0
        try clear c16b1
        try clear c18
        try clear c18b0
        try clear c18b1
        try clear c18b2
        try clear c21
        try clear c21b0
        try clear c21b1
        try clear c28
        try clear c30
        try clear c30b0
        try clear c32
        try clear c33
        try clear c33b0
        try clear c33b1
        try clear c34
        try clear c34b0
        try clear c34b1
        try clear c38
        try clear c38b0
        try clear c38b1
        try clear c45
        try clear c45b0
        try clear c45b1
        try clear c53
        try clear c53b0
        try clear c53b1
        try clear c54
        try clear c54b0
        try clear c54b1
        try clear c56
        try clear c56b0
        try clear c56b1
        try clear c59
        try clear c59b0
        try clear c59b1
        try clear c61
        try clear c63
        try clear c63b0
        try clear hcz10_0
        try clear hcz10_1
        try clear hcz10_2
        try clear hcz10_3
        try clear hcz10_4
        try clear hcz10_5
        try clear hcz10_6
        try clear hcz10_7
        try clear hcz13_0
        try clear hcz13_1
        try clear hcz13_2
        try clear hcz13_3
        try clear hcz13_4
        try clear hcz13_5
        try clear hcz13_6
        try clear hcz13_7
        try clear hcz23_0
        try clear hcz23_1
        try clear hcz23_2
        try clear hcz23_3
        try clear hcz23_4
        try clear hcz23_5
        try clear hcz23_6
        try clear hcz23_7
        try clear hcz26_0
        try clear hcz26_1
        try clear hcz26_2
        try clear hcz26_3
        try clear hcz26_4
        try clear hcz26_5
        try clear hcz26_6
        try clear hcz26_7
        try clear hcz35_0
        try clear hcz35_1
        try clear hcz35_2
        try clear hcz35_3
        try clear hcz35_4
        try clear hcz35_5
        try clear hcz35_6
        try clear hcz35_7
        try clear hcz37_0
        try clear hcz37_1
        try clear hcz37_2
        try clear hcz37_3
        try clear hcz37_4
        try clear hcz37_5
        try clear hcz37_6
        try clear hcz37_7
        try clear hcz39_0
        try clear hcz39_1
        try clear hcz39_2
        try clear hcz39_3
        try clear hcz39_4
        try clear hcz39_5
        try clear hcz39_6
        try clear hcz39_7
        try clear hcz41_0
        try clear hcz41_1
        try clear hcz41_2
        try clear hcz41_3
        try clear hcz41_4
        try clear hcz41_5
        try clear hcz41_6
        try clear hcz41_7
        try clear hcz42_0
        try clear hcz42_1
        try clear hcz42_2
        try clear hcz42_3
        try clear hcz42_4
        try clear hcz42_5
        try clear hcz42_6
        try clear hcz42_7
        try clear hcz44_0
        try clear hcz44_1
        try clear hcz44_2
        try clear hcz44_3
        try clear hcz44_4
        try clear hcz44_5
        try clear hcz44_6
        try clear hcz44_7
        try clear hcz46_0
        try clear hcz46_1
        try clear hcz46_2
        try clear hcz46_3
        try clear hcz46_4
        try clear hcz46_5
        try clear hcz46_6
        try clear hcz46_7
        try clear hcz48_0
        try clear hcz48_1
        try clear hcz48_2
        try clear hcz48_3
        try clear hcz48_4
        try clear hcz48_5
        try clear hcz48_6
        try clear hcz48_7
        try clear hcz49_0
        try clear hcz49_1
        try clear hcz49_2
        try clear hcz49_3
        try clear hcz49_4
        try clear hcz49_5
        try clear hcz49_6
        try clear hcz49_7
        try clear hcz51_0
        try clear hcz51_1
        try clear hcz51_2
        try clear hcz51_3
        try clear hcz51_4
        try clear hcz51_5
        try clear hcz51_6
        try clear hcz51_7
        try clear hcz55_0
        try clear hcz55_1
        try clear hcz55_2
        try clear hcz55_3
        try clear hcz55_4
        try clear hcz55_5
        try clear hcz55_6
        try clear hcz55_7
        try clear hcz57_0
        try clear hcz57_1
        try clear hcz57_2
        try clear hcz57_3
        try clear hcz57_4
        try clear hcz57_5
        try clear hcz57_6
        try clear hcz57_7
        try clear hcz58_0
        try clear hcz58_1
        try clear hcz58_2
        try clear hcz58_3
        try clear hcz58_4
        try clear hcz58_5
        try clear hcz58_6
        try clear hcz58_7
        try clear hcz60_0
        try clear hcz60_1
        try clear hcz60_2
        try clear hcz60_3
        try clear hcz60_4
        try clear hcz60_5
        try clear hcz60_6
        try clear hcz60_7
        try clear hfz10_0
        try clear hfz10_1
        try clear hfz10_2
        try clear hfz10_3
        try clear hfz10_4
        try clear hfz10_5
        try clear hfz10_6
        try clear hfz10_7
        try clear hfz13_0
        try clear hfz13_1
        try clear hfz13_2
        try clear hfz13_3
        try clear hfz13_4
        try clear hfz13_5
        try clear hfz13_6
        try clear hfz13_7
        try clear hfz23_0
        try clear hfz23_1
        try clear hfz23_2
        try clear hfz23_3
        try clear hfz23_4
        try clear hfz23_5
        try clear hfz23_6
        try clear hfz23_7
        try clear hfz26_0
        try clear hfz26_1
        try clear hfz26_2
        try clear hfz26_3
        try clear hfz26_4
        try clear hfz26_5
        try clear hfz26_6
        try clear hfz26_7
        try clear hfz35_0
        try clear hfz35_1
        try clear hfz35_2
        try clear hfz35_3
        try clear hfz35_4
        try clear hfz35_5
        try clear hfz35_6
        try clear hfz35_7
        try clear hfz37_0
        try clear hfz37_1
        try clear hfz37_2
        try clear hfz37_3
        try clear hfz37_4
        try clear hfz37_5
        try clear hfz37_6
        try clear hfz37_7
        try clear hfz39_0
        try clear hfz39_1
        try clear hfz39_2
        try clear hfz39_3
        try clear hfz39_4
        try clear hfz39_5
        try clear hfz39_6
        try clear hfz39_7
        try clear hfz41_0
        try clear hfz41_1
        try clear hfz41_2
        try clear hfz41_3
        try clear hfz41_4
        try clear hfz41_5
        try clear hfz41_6
        try clear hfz41_7
        try clear hfz42_0
        try clear hfz42_1
        try clear hfz42_2
        try clear hfz42_3
        try clear hfz42_4
        try clear hfz42_5
        try clear hfz42_6
        try clear hfz42_7
        try clear hfz44_0
        try clear hfz44_1
        try clear hfz44_2
        try clear hfz44_3
        try clear hfz44_4
        try clear hfz44_5
        try clear hfz44_6
        try clear hfz44_7
        try clear hfz46_0
        try clear hfz46_1
        try clear hfz46_2
        try clear hfz46_3
        try clear hfz46_4
        try clear hfz46_5
        try clear hfz46_6
        try clear hfz46_7
        try clear hfz48_0
        try clear hfz48_1
        try clear hfz48_2
        try clear hfz48_3
        try clear hfz48_4
        try clear hfz48_5
        try clear hfz48_6
        try clear hfz48_7
        try clear hfz49_0
        try clear hfz49_1
        try clear hfz49_2
        try clear hfz49_3
        try clear hfz49_4
        try clear hfz49_5
        try clear hfz49_6
        try clear hfz49_7
        try clear hfz51_0
        try clear hfz51_1
        try clear hfz51_2
        try clear hfz51_3
        try clear hfz51_4
        try clear hfz51_5
        try clear hfz51_6
        try clear hfz51_7
        try clear hfz55_0
        try clear hfz55_1
        try clear hfz55_2
        try clear hfz55_3
        try clear hfz55_4
        try clear hfz55_5
        try clear hfz55_6
        try clear hfz55_7
        try clear hfz57_0
        try clear hfz57_1
        try clear hfz57_2
        try clear hfz57_3
        try clear hfz57_4
        try clear hfz57_5
        try clear hfz57_6
        try clear hfz57_7
        try clear hfz58_0
        try clear hfz58_1
        try clear hfz58_2
        try clear hfz58_3
        try clear hfz58_4
        try clear hfz58_5
        try clear hfz58_6
        try clear hfz58_7
        try clear hfz60_0
        try clear hfz60_1
        try clear hfz60_2
        try clear hfz60_3
        try clear hfz60_4
        try clear hfz60_5
        try clear hfz60_6
        try clear hfz60_7
        try clear p2
        obtain ⟨kq, x89_61, rfl, HA, HJ61, HO_4, BK562, HB⟩ := hcut
        cases kq with
        | zero => exact absurd HA.out (by simp [laws_FnFates.j3])
        | succ kj61 =>
         have H := HA.out
         clear HA
         simp only [laws_FnFates.j3] at H
         by_cases c64 : x89_61 = true
         ·subst c64
          have H1 : (if 0 ≤ x8_3 then (if x8_3 < (t558.length : Int) then (if ((rd_T38 t558 x8_3).f2) = t550 then (if ((rd_T38 t558 x8_3).f4) = 0 then (some false) else (laws_FnFates.l0 kj61 l0 t558 t563 (wrap64 (x8_3 + 1)) t550 t551 t552 t553 t554 t555 t556 t557)) else (laws_FnFates.l0 kj61 l0 t558 t563 (wrap64 (x8_3 + 1)) t550 t551 t552 t553 t554 t555 t556 t557)) else (none)) else (none)) = some r := by rw [if_pos rfl] at H; exact H
          clear H
          have H := H1
          clear H1
          by_cases c65 : 0 ≤ x8_3
          rotate_left
          ·rw [if_neg c65] at H
           exact absurd H (by simp)
          rw [if_pos c65] at H
          have c65b0 : decide (0 ≤ x8_3) = true := decide_eq_true c65
          clear c65
          by_cases c66 : x8_3 < (t558.length : Int)
          rotate_left
          ·rw [if_neg c66] at H
           exact absurd H (by simp)
          rw [if_pos c66] at H
          have c66b0 : decide (x8_3 < (t558.length : Int)) = true := decide_eq_true c66
          clear c66
          by_cases c67 : ((rd_T38 t558 x8_3).f2) = t550
          rotate_left
          ·rw [if_neg c67] at H
           have c67b0 : (((rd_T38 t558 x8_3).f2) == t550) = false := beq_eq_false_iff_ne.mpr c67
           have c67b1 : (((rd_T38 t558 x8_3).f2) != t550) = true := bne_iff_ne.mpr c67
           have H' := zK H
           clear H
           have p568 : 0 ≤ (x8_3 : Int) := oD m2
           have q568 : x8_3 < (t558.length : Int) := oD m2
           obtain ⟨ad568, e568, hx568_0, hx568_1, hx568_2, hx568_3, hx568_4⟩ := at_T38 (Kd.R_reads' HO_4.out).2.2 x8_3 p568 q568
           cases e568
           replace p568 := eq_true p568
           replace q568 := eq_true q568
           have hcz71_0 : wc.cell? ⟨gb562, 0, none⟩ = some (.int .i64 t550) := (bc BK562.out 0).trans rfl
           have hcz71_1 : wc.cell? ⟨gb562, 1, none⟩ = some (.int .i64 t551) := (bc BK562.out 1).trans rfl
           have hcz71_2 : wc.cell? ⟨gb562, 2, none⟩ = some (.int .i64 t552) := (bc BK562.out 2).trans rfl
           have hcz71_3 : wc.cell? ⟨gb562, 3, none⟩ = some (.int .i64 t553) := (bc BK562.out 3).trans rfl
           have hcz71_4 : wc.cell? ⟨gb562, 4, none⟩ = some (.int .i64 t554) := (bc BK562.out 4).trans rfl
           have hcz71_5 : wc.cell? ⟨gb562, 5, none⟩ = some (.int .i64 t555) := (bc BK562.out 5).trans rfl
           have hcz71_6 : wc.cell? ⟨gb562, 6, none⟩ = some (.int .i64 t556) := (bc BK562.out 6).trans rfl
           have hcz71_7 : wc.cell? ⟨gb562, 7, none⟩ = some (.int .i64 t557) := (bc BK562.out 7).trans rfl
           have hfz71_0 := bf BK562.out 0
           have hfz71_1 := bf BK562.out 1
           have hfz71_2 := bf BK562.out 2
           have hfz71_3 := bf BK562.out 3
           have hfz71_4 := bf BK562.out 4
           have hfz71_5 := bf BK562.out 5
           have hfz71_6 := bf BK562.out 6
           have hfz71_7 := bf BK562.out 7
           go_wp2
           repeat (go_quiet (fail); try go_wp2)
           go_roundg kj61
           case measure => have := HJ6.out; have := HJ28.out; have := HK3.out; have := HJ61.out; omega
           case rel => exact ⟨(wrap64 (x8_3 + 1)), m9, H', ⟨by have := HJ6.out; have := HJ28.out; have := HK3.out; have := HJ61.out; omega⟩, ⟨by exact Kd.qR HO_4.out⟩, ⟨by exact qK BK562.out⟩, ⟨by repeat (first | (with_reducible first | exact HB.out | apply bA | apply bN | apply below_drew1 | refine bS ?_ GE562.out) | exact HB.out)⟩⟩
          rw [if_pos c67] at H
          have c67b0 : (((rd_T38 t558 x8_3).f2) == t550) = true := beq_iff_eq.mpr c67
          have c67b1 : (((rd_T38 t558 x8_3).f2) != t550) = false := bne_eq_false_iff_eq.mpr c67
          clear c67
          by_cases c68 : ((rd_T38 t558 x8_3).f4) = 0
          ·rw [if_pos c68] at H
           have c68b0 : (((rd_T38 t558 x8_3).f4) == 0) = true := beq_iff_eq.mpr c68
           have c68b1 : (((rd_T38 t558 x8_3).f4) != 0) = false := bne_eq_false_iff_eq.mpr c68
           clear c68
           obtain rfl := Option.some.inj H
           have p568 : 0 ≤ (x8_3 : Int) := oD m2
           have q568 : x8_3 < (t558.length : Int) := oD m2
           obtain ⟨ad568, e568, hx568_0, hx568_1, hx568_2, hx568_3, hx568_4⟩ := at_T38 (Kd.R_reads' HO_4.out).2.2 x8_3 p568 q568
           cases e568
           replace p568 := eq_true p568
           replace q568 := eq_true q568
           have hcz69_0 : wc.cell? ⟨gb562, 0, none⟩ = some (.int .i64 t550) := (bc BK562.out 0).trans rfl
           have hcz69_1 : wc.cell? ⟨gb562, 1, none⟩ = some (.int .i64 t551) := (bc BK562.out 1).trans rfl
           have hcz69_2 : wc.cell? ⟨gb562, 2, none⟩ = some (.int .i64 t552) := (bc BK562.out 2).trans rfl
           have hcz69_3 : wc.cell? ⟨gb562, 3, none⟩ = some (.int .i64 t553) := (bc BK562.out 3).trans rfl
           have hcz69_4 : wc.cell? ⟨gb562, 4, none⟩ = some (.int .i64 t554) := (bc BK562.out 4).trans rfl
           have hcz69_5 : wc.cell? ⟨gb562, 5, none⟩ = some (.int .i64 t555) := (bc BK562.out 5).trans rfl
           have hcz69_6 : wc.cell? ⟨gb562, 6, none⟩ = some (.int .i64 t556) := (bc BK562.out 6).trans rfl
           have hcz69_7 : wc.cell? ⟨gb562, 7, none⟩ = some (.int .i64 t557) := (bc BK562.out 7).trans rfl
           have hfz69_0 := bf BK562.out 0
           have hfz69_1 := bf BK562.out 1
           have hfz69_2 := bf BK562.out 2
           have hfz69_3 := bf BK562.out 3
           have hfz69_4 := bf BK562.out 4
           have hfz69_5 := bf BK562.out 5
           have hfz69_6 := bf BK562.out 6
           have hfz69_7 := bf BK562.out 7
           have p569 : 0 ≤ (x8_3 : Int) := oD m2
           have q569 : x8_3 < (t558.length : Int) := oD m2
           obtain ⟨ad569, e569, hx569_0, hx569_1, hx569_2, hx569_3, hx569_4⟩ := at_T38 (Kd.R_reads' HO_4.out).2.2 x8_3 p569 q569
           obtain rfl : ad568 = ad569 := (by injection e569)
           replace p569 := eq_true p569
           replace q569 := eq_true q569
           go_wp2
           repeat (go_quiet (fail); try go_wp2)
           go_ret
           exact ⟨by first | rfl | (simp [errW_none, errW_some] <;> rfl) | (simp [*, errW_none, errW_some] <;> rfl), by repeat (first | (with_reducible first | exact HB.out | apply bA | apply bN | apply below_drew1 | refine bS ?_ GE562.out) | exact HB.out)⟩
          rw [if_neg c68] at H
          have c68b0 : (((rd_T38 t558 x8_3).f4) == 0) = false := beq_eq_false_iff_ne.mpr c68
          have c68b1 : (((rd_T38 t558 x8_3).f4) != 0) = true := bne_iff_ne.mpr c68
          have H' := zK H
          clear H
          have p568 : 0 ≤ (x8_3 : Int) := oD m2
          have q568 : x8_3 < (t558.length : Int) := oD m2
          obtain ⟨ad568, e568, hx568_0, hx568_1, hx568_2, hx568_3, hx568_4⟩ := at_T38 (Kd.R_reads' HO_4.out).2.2 x8_3 p568 q568
          cases e568
          replace p568 := eq_true p568
          replace q568 := eq_true q568
          have hcz70_0 : wc.cell? ⟨gb562, 0, none⟩ = some (.int .i64 t550) := (bc BK562.out 0).trans rfl
          have hcz70_1 : wc.cell? ⟨gb562, 1, none⟩ = some (.int .i64 t551) := (bc BK562.out 1).trans rfl
          have hcz70_2 : wc.cell? ⟨gb562, 2, none⟩ = some (.int .i64 t552) := (bc BK562.out 2).trans rfl
          have hcz70_3 : wc.cell? ⟨gb562, 3, none⟩ = some (.int .i64 t553) := (bc BK562.out 3).trans rfl
          have hcz70_4 : wc.cell? ⟨gb562, 4, none⟩ = some (.int .i64 t554) := (bc BK562.out 4).trans rfl
          have hcz70_5 : wc.cell? ⟨gb562, 5, none⟩ = some (.int .i64 t555) := (bc BK562.out 5).trans rfl
          have hcz70_6 : wc.cell? ⟨gb562, 6, none⟩ = some (.int .i64 t556) := (bc BK562.out 6).trans rfl
          have hcz70_7 : wc.cell? ⟨gb562, 7, none⟩ = some (.int .i64 t557) := (bc BK562.out 7).trans rfl
          have hfz70_0 := bf BK562.out 0
          have hfz70_1 := bf BK562.out 1
          have hfz70_2 := bf BK562.out 2
          have hfz70_3 := bf BK562.out 3
          have hfz70_4 := bf BK562.out 4
          have hfz70_5 := bf BK562.out 5
          have hfz70_6 := bf BK562.out 6
          have hfz70_7 := bf BK562.out 7
          have p569 : 0 ≤ (x8_3 : Int) := oD m2
          have q569 : x8_3 < (t558.length : Int) := oD m2
          obtain ⟨ad569, e569, hx569_0, hx569_1, hx569_2, hx569_3, hx569_4⟩ := at_T38 (Kd.R_reads' HO_4.out).2.2 x8_3 p569 q569
          obtain rfl : ad568 = ad569 := (by injection e569)
          replace p569 := eq_true p569
          replace q569 := eq_true q569
          go_wp2
          repeat (go_quiet (fail); try go_wp2)
          go_roundg kj61
          case measure => have := HJ6.out; have := HJ28.out; have := HK3.out; have := HJ61.out; omega
          case rel => exact ⟨(wrap64 (x8_3 + 1)), m9, H', ⟨by have := HJ6.out; have := HJ28.out; have := HK3.out; have := HJ61.out; omega⟩, ⟨by exact Kd.qR HO_4.out⟩, ⟨by exact qK BK562.out⟩, ⟨by repeat (first | (with_reducible first | exact HB.out | apply bA | apply bN | apply below_drew1 | refine bS ?_ GE562.out) | exact HB.out)⟩⟩
         replace c64 := Bool.eq_false_iff.mpr c64
         subst c64
         have H1 : ((spec_DrawFatesOf.f kj61 l0).bind fun bt570 => ((impl_FatesOf.f kj61 bt570.1 bt570.2.1 bt570.2.2).bind fun t577 => (laws_FnFates.l1 kj61 bt570.1 t577 0 0))) = some r := by rw [if_neg (show ¬ (false = true) by decide)] at H; exact H
         clear H
         have H := H1
         clear H1
         replace H := Option.bind_eq_some_iff.mp H
         obtain ⟨⟨t570, t571, t572⟩, A720, H⟩ := H
         replace H : ((impl_FatesOf.f kj61 t570 t571 t572).bind fun t577 => (laws_FnFates.l1 kj61 t570 t577 0 0)) = some r := H
         have A72 := zK A720
         clear A720
         replace H := Option.bind_eq_some_iff.mp H
         obtain ⟨t577, A730, H⟩ := H
         replace H : (laws_FnFates.l1 kj61 t570 t577 0 0) = some r := H
         have A73 := zK A730
         clear A730
         have H' := zK H
         clear H
         go_wp2_with (first | (go_at_call 13; (with_reducible refine (spec_DrawFatesOf.calls kj61 _ _ l0 t570 t571 t572 _ ?side1 ?side2 A72.out).mono ?_); (case side1 => exact Kd.qC (Kd.C_below HR0.out HB.out)); (case side2 => exact HC0.out); rintro e w74 ⟨v573, v575, rfl, ho0, ho1, hb⟩; have n0_ := zK (Kd.R_elder' (Kd.qR HO_4.out) (Kd.R_base ho1) hb); have n1_ := zK (Kd.R_lower (Kd.R_newB ho0 (g := gb562) (o := .cells #[.int .i64 t550, .int .i64 t551, .int .i64 t552, .int .i64 t553, .int .i64 t554, .int .i64 t555, .int .i64 t556, .int .i64 t557] 29 (0, 0)) (qK BK562.out)) (bZ m4)); have n2_ := zK (Kd.R_lower (Kd.R_new' ho1 (Kd.R_lt (Kd.qR HO_4.out))) (bZ m4)); have n3_ := zK (bB (g := gb562) (o := .cells #[.int .i64 t550, .int .i64 t551, .int .i64 t552, .int .i64 t553, .int .i64 t554, .int .i64 t555, .int .i64 t556, .int .i64 t557] 29 (0, 0)) (qK BK562.out) hb); have n4_ := zK (bT m4 hb); clear HO_4; clear BK562; clear HB; have HO_4 := n0_; have HO574 := n1_; have HO576 := n2_; have BK562 := n3_; have HB := n4_; clear n0_ n1_ n2_ n3_ n4_; (try clear hb); (try clear hb2); (try clear hk); (try clear hi); (try clear ho0); (try clear ho1); obtain ⟨Ao75, co75, eo75⟩ := Kd.R_slice HO574.out; subst eo75; obtain ⟨Ao76, co76, eo76⟩ := Kd.R_slice HO576.out; subst eo76) | (go_at_call 14; (with_reducible refine (impl_FatesOf.calls kj61 _ _ t570 _ _ t571 t572 t577 _ ?side1 ?side2 ?side3 ?side4 A73.out).mono ?_); (case side1 => repeat (first | exact (Kd.R_reads' HO574.out).2.2 | (with_reducible refine Kd.CA ?_ _) | (with_reducible refine Kd.CN ?_ _) | (with_reducible refine Kd.CD ?_))); (case side2 => exact (Kd.R_reads' HO574.out).2.1); (case side3 => repeat (first | exact (Kd.R_reads' HO576.out).2.2 | (with_reducible refine Kd.CA ?_ _) | (with_reducible refine Kd.CN ?_ _) | (with_reducible refine Kd.CD ?_))); (case side4 => exact (Kd.R_reads' HO576.out).2.1); rintro e w77 ⟨v578, rfl, ho0, hb⟩; have n0_ := zK (Kd.R_below (Kd.qR HO_4.out) hb); have n1_ := zK (Kd.R_below (Kd.qR HO574.out) hb); have n2_ := zK (Kd.R_below (Kd.qR HO576.out) hb); have n3_ := zK (Kd.R_lower ho0 (bZ m4)); have n4_ := zK (bB (g := gb562) (o := .cells #[.int .i64 t550, .int .i64 t551, .int .i64 t552, .int .i64 t553, .int .i64 t554, .int .i64 t555, .int .i64 t556, .int .i64 t557] 29 (0, 0)) (qK BK562.out) hb); have n5_ := zK (bT m4 hb); clear HO_4; clear HO574; clear HO576; clear BK562; clear HB; have HO_4 := n0_; have HO574 := n1_; have HO576 := n2_; have HO579 := n3_; have BK562 := n4_; have HB := n5_; clear n0_ n1_ n2_ n3_ n4_ n5_; (try clear hb); (try clear hb2); (try clear hk); (try clear hi); (try clear ho0)))
         repeat (go_quiet (first | (go_at_call 13; (with_reducible refine (spec_DrawFatesOf.calls kj61 _ _ l0 t570 t571 t572 _ ?side1 ?side2 A72.out).mono ?_); (case side1 => exact Kd.qC (Kd.C_below HR0.out HB.out)); (case side2 => exact HC0.out); rintro e w74 ⟨v573, v575, rfl, ho0, ho1, hb⟩; have n0_ := zK (Kd.R_elder' (Kd.qR HO_4.out) (Kd.R_base ho1) hb); have n1_ := zK (Kd.R_lower (Kd.R_newB ho0 (g := gb562) (o := .cells #[.int .i64 t550, .int .i64 t551, .int .i64 t552, .int .i64 t553, .int .i64 t554, .int .i64 t555, .int .i64 t556, .int .i64 t557] 29 (0, 0)) (qK BK562.out)) (bZ m4)); have n2_ := zK (Kd.R_lower (Kd.R_new' ho1 (Kd.R_lt (Kd.qR HO_4.out))) (bZ m4)); have n3_ := zK (bB (g := gb562) (o := .cells #[.int .i64 t550, .int .i64 t551, .int .i64 t552, .int .i64 t553, .int .i64 t554, .int .i64 t555, .int .i64 t556, .int .i64 t557] 29 (0, 0)) (qK BK562.out) hb); have n4_ := zK (bT m4 hb); clear HO_4; clear BK562; clear HB; have HO_4 := n0_; have HO574 := n1_; have HO576 := n2_; have BK562 := n3_; have HB := n4_; clear n0_ n1_ n2_ n3_ n4_; (try clear hb); (try clear hb2); (try clear hk); (try clear hi); (try clear ho0); (try clear ho1); obtain ⟨Ao75, co75, eo75⟩ := Kd.R_slice HO574.out; subst eo75; obtain ⟨Ao76, co76, eo76⟩ := Kd.R_slice HO576.out; subst eo76) | (go_at_call 14; (with_reducible refine (impl_FatesOf.calls kj61 _ _ t570 _ _ t571 t572 t577 _ ?side1 ?side2 ?side3 ?side4 A73.out).mono ?_); (case side1 => repeat (first | exact (Kd.R_reads' HO574.out).2.2 | (with_reducible refine Kd.CA ?_ _) | (with_reducible refine Kd.CN ?_ _) | (with_reducible refine Kd.CD ?_))); (case side2 => exact (Kd.R_reads' HO574.out).2.1); (case side3 => repeat (first | exact (Kd.R_reads' HO576.out).2.2 | (with_reducible refine Kd.CA ?_ _) | (with_reducible refine Kd.CN ?_ _) | (with_reducible refine Kd.CD ?_))); (case side4 => exact (Kd.R_reads' HO576.out).2.1); rintro e w77 ⟨v578, rfl, ho0, hb⟩; have n0_ := zK (Kd.R_below (Kd.qR HO_4.out) hb); have n1_ := zK (Kd.R_below (Kd.qR HO574.out) hb); have n2_ := zK (Kd.R_below (Kd.qR HO576.out) hb); have n3_ := zK (Kd.R_lower ho0 (bZ m4)); have n4_ := zK (bB (g := gb562) (o := .cells #[.int .i64 t550, .int .i64 t551, .int .i64 t552, .int .i64 t553, .int .i64 t554, .int .i64 t555, .int .i64 t556, .int .i64 t557] 29 (0, 0)) (qK BK562.out) hb); have n5_ := zK (bT m4 hb); clear HO_4; clear HO574; clear HO576; clear BK562; clear HB; have HO_4 := n0_; have HO574 := n1_; have HO576 := n2_; have HO579 := n3_; have BK562 := n4_; have HB := n5_; clear n0_ n1_ n2_ n3_ n4_ n5_; (try clear hb); (try clear hb2); (try clear hk); (try clear hi); (try clear ho0))); try go_wp2_with (first | (go_at_call 13; (with_reducible refine (spec_DrawFatesOf.calls kj61 _ _ l0 t570 t571 t572 _ ?side1 ?side2 A72.out).mono ?_); (case side1 => exact Kd.qC (Kd.C_below HR0.out HB.out)); (case side2 => exact HC0.out); rintro e w74 ⟨v573, v575, rfl, ho0, ho1, hb⟩; have n0_ := zK (Kd.R_elder' (Kd.qR HO_4.out) (Kd.R_base ho1) hb); have n1_ := zK (Kd.R_lower (Kd.R_newB ho0 (g := gb562) (o := .cells #[.int .i64 t550, .int .i64 t551, .int .i64 t552, .int .i64 t553, .int .i64 t554, .int .i64 t555, .int .i64 t556, .int .i64 t557] 29 (0, 0)) (qK BK562.out)) (bZ m4)); have n2_ := zK (Kd.R_lower (Kd.R_new' ho1 (Kd.R_lt (Kd.qR HO_4.out))) (bZ m4)); have n3_ := zK (bB (g := gb562) (o := .cells #[.int .i64 t550, .int .i64 t551, .int .i64 t552, .int .i64 t553, .int .i64 t554, .int .i64 t555, .int .i64 t556, .int .i64 t557] 29 (0, 0)) (qK BK562.out) hb); have n4_ := zK (bT m4 hb); clear HO_4; clear BK562; clear HB; have HO_4 := n0_; have HO574 := n1_; have HO576 := n2_; have BK562 := n3_; have HB := n4_; clear n0_ n1_ n2_ n3_ n4_; (try clear hb); (try clear hb2); (try clear hk); (try clear hi); (try clear ho0); (try clear ho1); obtain ⟨Ao75, co75, eo75⟩ := Kd.R_slice HO574.out; subst eo75; obtain ⟨Ao76, co76, eo76⟩ := Kd.R_slice HO576.out; subst eo76) | (go_at_call 14; (with_reducible refine (impl_FatesOf.calls kj61 _ _ t570 _ _ t571 t572 t577 _ ?side1 ?side2 ?side3 ?side4 A73.out).mono ?_); (case side1 => repeat (first | exact (Kd.R_reads' HO574.out).2.2 | (with_reducible refine Kd.CA ?_ _) | (with_reducible refine Kd.CN ?_ _) | (with_reducible refine Kd.CD ?_))); (case side2 => exact (Kd.R_reads' HO574.out).2.1); (case side3 => repeat (first | exact (Kd.R_reads' HO576.out).2.2 | (with_reducible refine Kd.CA ?_ _) | (with_reducible refine Kd.CN ?_ _) | (with_reducible refine Kd.CD ?_))); (case side4 => exact (Kd.R_reads' HO576.out).2.1); rintro e w77 ⟨v578, rfl, ho0, hb⟩; have n0_ := zK (Kd.R_below (Kd.qR HO_4.out) hb); have n1_ := zK (Kd.R_below (Kd.qR HO574.out) hb); have n2_ := zK (Kd.R_below (Kd.qR HO576.out) hb); have n3_ := zK (Kd.R_lower ho0 (bZ m4)); have n4_ := zK (bB (g := gb562) (o := .cells #[.int .i64 t550, .int .i64 t551, .int .i64 t552, .int .i64 t553, .int .i64 t554, .int .i64 t555, .int .i64 t556, .int .i64 t557] 29 (0, 0)) (qK BK562.out) hb); have n5_ := zK (bT m4 hb); clear HO_4; clear HO574; clear HO576; clear BK562; clear HB; have HO_4 := n0_; have HO574 := n1_; have HO576 := n2_; have HO579 := n3_; have BK562 := n4_; have HB := n5_; clear n0_ n1_ n2_ n3_ n4_ n5_; (try clear hb); (try clear hb2); (try clear hk); (try clear hi); (try clear ho0))))
         go_loopg [13, 14] kj61 (fun kq v13 v14 w' => ∃ (x13_5 : Int) (x14_5 : Int), v13 = .int .i64 x13_5 ∧ v14 = .int .i64 x14_5 ∧ Aside0 (laws_FnFates.l1 kq t570 t577 x13_5 x14_5 = some r) ∧ Aside0 (kq ≤ kj61) ∧ Aside0 (Kd.R k29 29 w' w.heap.size (fun k_ => k_ ≠ gb562) (.slice Ao75 t570.length co75) t570) ∧ Aside0 (Kd.R (Kd.int .i64) 3 w' w.heap.size (fun _ => True) v578 t577) ∧ Aside0 (w'.heap[gb562]? = some (.cells #[.int .i64 t550, .int .i64 t551, .int .i64 t552, .int .i64 t553, .int .i64 t554, .int .i64 t555, .int .i64 t556, .int .i64 t557] 29 (0, 0))) ∧ Aside0 (Below w.heap.size w w'))
         case atStart => exact ⟨(0), (0), m9, m9, H', ⟨Nat.le_refl _⟩, ⟨by (with_reducible repeat (first | apply Kd.RA | apply Kd.RN | apply Kd.RD)); exact Kd.R_mono HO574.out (fun _ hk => hk.2)⟩, ⟨by exact Kd.qR HO579.out⟩, ⟨by exact qK BK562.out⟩, ⟨by repeat (first | (with_reducible first | exact HB.out | apply bA | apply bN | apply below_drew1 | refine bS ?_ GE562.out) | exact HB.out)⟩⟩
         case round =>
          clear H'
          try clear c1
          try clear c2
          try clear p2
          try clear c3
          try clear c4
          try clear c5
          try clear p5
          try clear q5
          try clear hx5
          try clear c6
          try clear p6
          try clear c16
          try clear c16b0
          try clear c16b1
          try clear c18
          try clear c18b0
          try clear c18b1
          try clear c18b2
          try clear c21
          try clear c21b0
          try clear c21b1
          try clear c28
          try clear c30
          try clear c30b0
          try clear c32
          try clear c33
          try clear c33b0
          try clear c33b1
          try clear c34
          try clear c34b0
          try clear c34b1
          try clear c38
          try clear c38b0
          try clear c38b1
          try clear c45
          try clear c45b0
          try clear c45b1
          try clear c53
          try clear c53b0
          try clear c53b1
          try clear c54
          try clear c54b0
          try clear c54b1
          try clear c56
          try clear c56b0
          try clear c56b1
          try clear p56
          try clear q56
          try clear hx56
          try clear c59
          try clear c59b0
          try clear c59b1
          try clear c61
          try clear c63
          try clear c63b0
          try clear c64
          try clear p64
          try clear c65
          try clear c65b0
          try clear c66
          try clear c66b0
          try clear c67
          try clear c67b0
          try clear c67b1
          try clear c68
          try clear c68b0
          try clear c68b1
          try clear hcz10_0
          try clear hcz10_1
          try clear hcz10_2
          try clear hcz10_3
          try clear hcz10_4
          try clear hcz10_5
          try clear hcz10_6
          try clear hcz10_7
          try clear hcz13_0
          try clear hcz13_1
          try clear hcz13_2
          try clear hcz13_3
          try clear hcz13_4
          try clear hcz13_5
          try clear hcz13_6
          try clear hcz13_7
          try clear hcz23_0
          try clear hcz23_1
          try clear hcz23_2
          try clear hcz23_3
          try clear hcz23_4
          try clear hcz23_5
          try clear hcz23_6
          try clear hcz23_7
          try clear hcz26_0
          try clear hcz26_1
          try clear hcz26_2
          try clear hcz26_3
          try clear hcz26_4
          try clear hcz26_5
          try clear hcz26_6
          try clear hcz26_7
          try clear hcz35_0
          try clear hcz35_1
          try clear hcz35_2
          try clear hcz35_3
          try clear hcz35_4
          try clear hcz35_5
          try clear hcz35_6
          try clear hcz35_7
          try clear hcz37_0
          try clear hcz37_1
          try clear hcz37_2
          try clear hcz37_3
          try clear hcz37_4
          try clear hcz37_5
          try clear hcz37_6
          try clear hcz37_7
          try clear hcz39_0
          try clear hcz39_1
          try clear hcz39_2
          try clear hcz39_3
          try clear hcz39_4
          try clear hcz39_5
          try clear hcz39_6
          try clear hcz39_7
          try clear hcz41_0
          try clear hcz41_1
          try clear hcz41_2
          try clear hcz41_3
          try clear hcz41_4
          try clear hcz41_5
          try clear hcz41_6
          try clear hcz41_7
          try clear hcz42_0
          try clear hcz42_1
          try clear hcz42_2
          try clear hcz42_3
          try clear hcz42_4
          try clear hcz42_5
          try clear hcz42_6
          try clear hcz42_7
          try clear hcz44_0
          try clear hcz44_1
          try clear hcz44_2
          try clear hcz44_3
          try clear hcz44_4
          try clear hcz44_5
          try clear hcz44_6
          try clear hcz44_7
          try clear hcz46_0
          try clear hcz46_1
          try clear hcz46_2
          try clear hcz46_3
          try clear hcz46_4
          try clear hcz46_5
          try clear hcz46_6
          try clear hcz46_7
          try clear hcz48_0
          try clear hcz48_1
          try clear hcz48_2
          try clear hcz48_3
          try clear hcz48_4
          try clear hcz48_5
          try clear hcz48_6
          try clear hcz48_7
          try clear hcz49_0
          try clear hcz49_1
          try clear hcz49_2
          try clear hcz49_3
          try clear hcz49_4
          try clear hcz49_5
          try clear hcz49_6
          try clear hcz49_7
          try clear hcz51_0
          try clear hcz51_1
          try clear hcz51_2
          try clear hcz51_3
          try clear hcz51_4
          try clear hcz51_5
          try clear hcz51_6
          try clear hcz51_7
          try clear hcz55_0
          try clear hcz55_1
          try clear hcz55_2
          try clear hcz55_3
          try clear hcz55_4
          try clear hcz55_5
          try clear hcz55_6
          try clear hcz55_7
          try clear hcz57_0
          try clear hcz57_1
          try clear hcz57_2
          try clear hcz57_3
          try clear hcz57_4
          try clear hcz57_5
          try clear hcz57_6
          try clear hcz57_7
          try clear hcz58_0
          try clear hcz58_1
          try clear hcz58_2
          try clear hcz58_3
          try clear hcz58_4
          try clear hcz58_5
          try clear hcz58_6
          try clear hcz58_7
          try clear hcz60_0
          try clear hcz60_1
          try clear hcz60_2
          try clear hcz60_3
          try clear hcz60_4
          try clear hcz60_5
          try clear hcz60_6
          try clear hcz60_7
          try clear hcz69_0
          try clear hcz69_1
          try clear hcz69_2
          try clear hcz69_3
          try clear hcz69_4
          try clear hcz69_5
          try clear hcz69_6
          try clear hcz69_7
          try clear hcz70_0
          try clear hcz70_1
          try clear hcz70_2
          try clear hcz70_3
          try clear hcz70_4
          try clear hcz70_5
          try clear hcz70_6
          try clear hcz70_7
          try clear hcz71_0
          try clear hcz71_1
          try clear hcz71_2
          try clear hcz71_3
          try clear hcz71_4
          try clear hcz71_5
          try clear hcz71_6
          try clear hcz71_7
          try clear hfz10_0
          try clear hfz10_1
          try clear hfz10_2
          try clear hfz10_3
          try clear hfz10_4
          try clear hfz10_5
          try clear hfz10_6
          try clear hfz10_7
          try clear hfz13_0
          try clear hfz13_1
          try clear hfz13_2
          try clear hfz13_3
          try clear hfz13_4
          try clear hfz13_5
          try clear hfz13_6
          try clear hfz13_7
          try clear hfz23_0
          try clear hfz23_1
          try clear hfz23_2
          try clear hfz23_3
          try clear hfz23_4
          try clear hfz23_5
          try clear hfz23_6
          try clear hfz23_7
          try clear hfz26_0
          try clear hfz26_1
          try clear hfz26_2
          try clear hfz26_3
          try clear hfz26_4
          try clear hfz26_5
          try clear hfz26_6
          try clear hfz26_7
          try clear hfz35_0
          try clear hfz35_1
          try clear hfz35_2
          try clear hfz35_3
          try clear hfz35_4
          try clear hfz35_5
          try clear hfz35_6
          try clear hfz35_7
          try clear hfz37_0
          try clear hfz37_1
          try clear hfz37_2
          try clear hfz37_3
          try clear hfz37_4
          try clear hfz37_5
          try clear hfz37_6
          try clear hfz37_7
          try clear hfz39_0
          try clear hfz39_1
          try clear hfz39_2
          try clear hfz39_3
          try clear hfz39_4
          try clear hfz39_5
          try clear hfz39_6
          try clear hfz39_7
          try clear hfz41_0
          try clear hfz41_1
          try clear hfz41_2
          try clear hfz41_3
          try clear hfz41_4
          try clear hfz41_5
          try clear hfz41_6
          try clear hfz41_7
          try clear hfz42_0
          try clear hfz42_1
          try clear hfz42_2
          try clear hfz42_3
          try clear hfz42_4
          try clear hfz42_5
          try clear hfz42_6
          try clear hfz42_7
          try clear hfz44_0
          try clear hfz44_1
          try clear hfz44_2
          try clear hfz44_3
          try clear hfz44_4
          try clear hfz44_5
          try clear hfz44_6
          try clear hfz44_7
          try clear hfz46_0
          try clear hfz46_1
          try clear hfz46_2
          try clear hfz46_3
          try clear hfz46_4
          try clear hfz46_5
          try clear hfz46_6
          try clear hfz46_7
          try clear hfz48_0
          try clear hfz48_1
          try clear hfz48_2
          try clear hfz48_3
          try clear hfz48_4
          try clear hfz48_5
          try clear hfz48_6
          try clear hfz48_7
          try clear hfz49_0
          try clear hfz49_1
          try clear hfz49_2
          try clear hfz49_3
          try clear hfz49_4
          try clear hfz49_5
          try clear hfz49_6
          try clear hfz49_7
          try clear hfz51_0
          try clear hfz51_1
          try clear hfz51_2
          try clear hfz51_3
          try clear hfz51_4
          try clear hfz51_5
          try clear hfz51_6
          try clear hfz51_7
          try clear hfz55_0
          try clear hfz55_1
          try clear hfz55_2
          try clear hfz55_3
          try clear hfz55_4
          try clear hfz55_5
          try clear hfz55_6
          try clear hfz55_7
          try clear hfz57_0
          try clear hfz57_1
          try clear hfz57_2
          try clear hfz57_3
          try clear hfz57_4
          try clear hfz57_5
          try clear hfz57_6
          try clear hfz57_7
          try clear hfz58_0
          try clear hfz58_1
          try clear hfz58_2
          try clear hfz58_3
          try clear hfz58_4
          try clear hfz58_5
          try clear hfz58_6
          try clear hfz58_7
          try clear hfz60_0
          try clear hfz60_1
          try clear hfz60_2
          try clear hfz60_3
          try clear hfz60_4
          try clear hfz60_5
          try clear hfz60_6
          try clear hfz60_7
          try clear hfz69_0
          try clear hfz69_1
          try clear hfz69_2
          try clear hfz69_3
          try clear hfz69_4
          try clear hfz69_5
          try clear hfz69_6
          try clear hfz69_7
          try clear hfz70_0
          try clear hfz70_1
          try clear hfz70_2
          try clear hfz70_3
          try clear hfz70_4
          try clear hfz70_5
          try clear hfz70_6
          try clear hfz70_7
          try clear hfz71_0
          try clear hfz71_1
          try clear hfz71_2
          try clear hfz71_3
          try clear hfz71_4
          try clear hfz71_5
          try clear hfz71_6
          try clear hfz71_7
          try clear hx568_0
          try clear hx568_1
          try clear hx568_2
          try clear hx568_3
          try clear hx568_4
          try clear hx569_0
          try clear hx569_1
          try clear hx569_2
          try clear hx569_3
          try clear hx569_4
          try clear p2
          try clear p568
          try clear p569
          try clear q568
          try clear q569
          obtain ⟨x13_5, x14_5, rfl, rfl, HA, HK5, HO_9, HO_12, BK562, HB⟩ := hrel
          cases gk with
          | zero => exact absurd HA.out (by simp [laws_FnFates.l1])
          | succ k5 =>
           have H := HA.out
           clear HA
           simp only [laws_FnFates.l1] at H
           by_cases c78 : x14_5 ≤ 5
           rotate_left
           ·rw [if_neg c78] at H
            have c78b0 : decide (x14_5 ≤ 5) = false := decide_eq_false c78
            clear c78
            by_cases c81 : x13_5 = (t570.length : Int)
            rotate_left
            ·rw [if_neg c81] at H
             have c81b0 : (x13_5 == (t570.length : Int)) = false := beq_eq_false_iff_ne.mpr c81
             have c81b1 : (x13_5 != (t570.length : Int)) = true := bne_iff_ne.mpr c81
             obtain rfl := Option.some.inj H
             go_wp2
             repeat (go_quiet (fail); try go_wp2)
             go_ret
             exact ⟨by first | rfl | (simp [errW_none, errW_some] <;> rfl) | (simp [*, errW_none, errW_some] <;> rfl), by repeat (first | (with_reducible first | exact HB.out | apply bA | apply bN | apply below_drew1 | refine bS ?_ GE562.out) | exact HB.out)⟩

            rw [if_pos c81] at H
            have c81b0 : (x13_5 == (t570.length : Int)) = true := beq_iff_eq.mpr c81
            have c81b1 : (x13_5 != (t570.length : Int)) = false := bne_eq_false_iff_eq.mpr c81
            clear c81
            obtain rfl := Option.some.inj H
            obtain ⟨Ao82, co82, eo82⟩ := Kd.R_slice HO_12.out
            subst eo82
            go_wp2
            repeat (go_quiet (fail); try go_wp2)
            go_ret
            exact ⟨by first | rfl | (simp [errW_none, errW_some] <;> rfl) | (simp [*, errW_none, errW_some] <;> rfl), by repeat (first | (with_reducible first | exact HB.out | apply bA | apply bN | apply below_drew1 | refine bS ?_ GE562.out) | exact HB.out)⟩
           rw [if_pos c78] at H
           have c78b0 : decide (x14_5 ≤ 5) = true := decide_eq_true c78
           clear c78
           replace H := Option.bind_eq_some_iff.mp H
           obtain ⟨t580, A790, H⟩ := H
           replace H : (laws_FnFates.l1 k5 t570 t577 (wrap64 (x13_5 + t580)) (wrap64 (x14_5 + 1))) = some r := H
           have A79 := zK A790
           clear A790
           have H' := zK H
           clear H
           obtain ⟨Ao80, co80, eo80⟩ := Kd.R_slice HO_12.out
           subst eo80
           go_wp2_with (first | (go_at_call 15; (with_reducible refine (impl_CountFate.calls k5 _ _ t577 x14_5 t580 _ ?side1 ?side2 A79.out).mono ?_); (case side1 => repeat (first | exact (Kd.R_reads' HO_12.out).2.2 | (with_reducible refine Kd.CA ?_ _) | (with_reducible refine Kd.CN ?_ _) | (with_reducible refine Kd.CD ?_))); (case side2 => exact (Kd.R_reads' HO_12.out).2.1); rintro e w' ⟨rfl, ⟨nd, rfl⟩⟩; (try first | exact ⟨rfl, _, World.drewN_drewN _ _ _⟩ | exact ⟨rfl, _, Eq.trans (World.drewN_drewN _ _ _) (congrArg (World.drewN _) (Nat.add_assoc _ _ _))⟩)))
           repeat (go_quiet (first | (go_at_call 15; (with_reducible refine (impl_CountFate.calls k5 _ _ t577 x14_5 t580 _ ?side1 ?side2 A79.out).mono ?_); (case side1 => repeat (first | exact (Kd.R_reads' HO_12.out).2.2 | (with_reducible refine Kd.CA ?_ _) | (with_reducible refine Kd.CN ?_ _) | (with_reducible refine Kd.CD ?_))); (case side2 => exact (Kd.R_reads' HO_12.out).2.1); rintro e w' ⟨rfl, ⟨nd, rfl⟩⟩; (try first | exact ⟨rfl, _, World.drewN_drewN _ _ _⟩ | exact ⟨rfl, _, Eq.trans (World.drewN_drewN _ _ _) (congrArg (World.drewN _) (Nat.add_assoc _ _ _))⟩))); try go_wp2_with (first | (go_at_call 15; (with_reducible refine (impl_CountFate.calls k5 _ _ t577 x14_5 t580 _ ?side1 ?side2 A79.out).mono ?_); (case side1 => repeat (first | exact (Kd.R_reads' HO_12.out).2.2 | (with_reducible refine Kd.CA ?_ _) | (with_reducible refine Kd.CN ?_ _) | (with_reducible refine Kd.CD ?_))); (case side2 => exact (Kd.R_reads' HO_12.out).2.1); rintro e w' ⟨rfl, ⟨nd, rfl⟩⟩; (try first | exact ⟨rfl, _, World.drewN_drewN _ _ _⟩ | exact ⟨rfl, _, Eq.trans (World.drewN_drewN _ _ _) (congrArg (World.drewN _) (Nat.add_assoc _ _ _))⟩))))
           go_roundg k5
           case measure => have := HJ6.out; have := HJ28.out; have := HK3.out; have := HJ61.out; have := HK5.out; omega
           case rel => exact ⟨(wrap64 (x13_5 + t580)), (wrap64 (x14_5 + 1)), m9, m9, H', ⟨by have := HJ6.out; have := HJ28.out; have := HK3.out; have := HJ61.out; have := HK5.out; omega⟩, ⟨by exact Kd.qR HO_9.out⟩, ⟨by exact Kd.qR HO_12.out⟩, ⟨by exact qK BK562.out⟩, ⟨by repeat (first | (with_reducible first | exact HB.out | apply bA | apply bN | apply below_drew1 | refine bS ?_ GE562.out) | exact HB.out)⟩⟩
/-- THE ONE PURE STATEMENT of laws_FnFates: yours. -/
def laws_FnFates.Pure : Prop := ∀ (l0 : List Int), l0.length ≤ maxLen → l0.length * 1 ≤ 140737488351232 → (∀ x ∈ l0, (Lit.int .u8 x).wf = true) → ∃ k, laws_FnFates.f k l0 = some true
theorem laws_FnFates.walk (P : laws_FnFates.Pure) (a0 : Option Addr) (len0 cap0 : Nat) (z0 : List Int) (w : World) (w0 : (a0 = none ∧ len0 = 0 ∧ cap0 = 0 ∧ z0 = []) ∨ ∃ x, a0 = some x ∧ len0 ≤ cap0 ∧ cap0 ≤ maxLen ∧ z0.length = cap0 ∧ (∀ i, i < z0.length → w.cell? (x.add i) = some (.int .u8 (z0.getD i 0))) ∧ ∀ n ∈ z0, (Lit.int .u8 n).wf = true) (y0 : len0 * 1 ≤ 140737488351232) :
  Calls Try.prog 4 #[.slice a0 len0 cap0] w fun e w' => e = .returned (.bool true) ∧ Below w.heap.size w w' := by
 obtain ⟨l0, rfl, hr0, hm0, hw0, hc0⟩ := ReadsInt.ofRowC w0
 obtain ⟨k, h⟩ := P l0 hm0 y0 hw0
 refine (laws_FnFates.calls k _ _ l0 true w (Kd.C_of_reads (d := (0 : Int)) (h1 := fun _ => rfl) hr0) hc0 h).mono ?_
 rintro e w' ⟨rfl, hd⟩
 exact ⟨rfl, hd⟩

end Go.Proofs.Ytfoallhhdilgjaa.PFnFates
