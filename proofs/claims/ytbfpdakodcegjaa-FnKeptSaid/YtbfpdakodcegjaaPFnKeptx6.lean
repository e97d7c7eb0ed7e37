/- Walks of functions that FnKept reaches: written by a tool of the kit for this claim, then shortened by a program of ours. -/
import Derived.Test.YtbfpdakodcegjaaPFnKeptx0
import Derived.Test.YtbfpdakodcegjaaPFnKeptx1
import Derived.Test.YtbfpdakodcegjaaPFnKeptx3
import Derived.Test.YtbfpdakodcegjaaPFnKeptx4
import Derived.Test.YtbfpdakodcegjaaPFnKeptx5
namespace Go.Proofs.Ytbfpdakodcegjaa.PFnKept
open Go.RowKit Go.Proofs.YtbfpdakodcegjaaW.PrintWords Go.Proofs.YtbfpdakodcegjaaW.PrintLast Go.Proofs.YtbfpdakodcegjaaW.PrintMore
attribute [local go_sem] max2_int min2_int max_two min_two max_three min_three max_four min_four   -- for this text's walks alone
set_option linter.unusedVariables false
set_option linter.unusedSimpArgs false

/-! ### laws_FnKept: function 9 -/
mutual
def laws_FnKept.j0 : Nat → List Int → Int → Int → Bool → Int → Int → Int → Int → Int → Int → Int → Int → Option (Bool)
  | 0, _, _, _, _, _, _, _, _, _, _, _, _ => none
  | k + 1, x0, x4, x5, x49, x356000, x356001, x356002, x356003, x356004, x356005, x356006, x356007 => if x49 = true then (some false) else ((impl_DaysLeft.f k x356000 x356001 x356002 x356003 x356004 x356005 x356006 x356007 x4).bind fun t361 => (if t361 > 0 then ((impl_IsDue.f k x356000 x356001 x356002 x356003 x356004 x356005 x356006 x356007 x4).bind fun t362 => (if t362 = true then (laws_FnKept.j1 k x0 true) else (if (wrap64 (x4 + (wrap64 (24 * t361)))) < x5 then (laws_FnKept.j1 k x0 true) else (laws_FnKept.j1 k x0 (decide ((wrap64 (x4 + (wrap64 (24 * (wrap64 (t361 - 1)))))) ≥ x5)))))) else (laws_FnKept.j1 k x0 false)))
def laws_FnKept.j1 : Nat → List Int → Bool → Option (Bool)
  | 0, _, _ => none
  | k + 1, x0, x76 => if x76 = true then (some false) else ((spec_DrawNextDue.f k x0).bind fun bt363 => ((impl_NextDue.f k bt363.1 bt363.2).bind fun t367 => ((impl_DueThings.f k bt363.1 bt363.2).bind fun t368 => (laws_FnKept.l0 k bt363.1 bt363.2 t367 t368 0))))
def laws_FnKept.l0 : Nat → List (S68) → Int → Int → List Int → Int → Option (Bool)
  | 0, _, _, _, _, _ => none
  | k + 1, x7, x8, x9, x10, x11 => if x11 < (x7.length : Int) then (if 0 ≤ x11 then ((impl_DueHour.f k ((rd_T68 x7 x11).f0.f0) ((rd_T68 x7 x11).f0.f1) ((rd_T68 x7 x11).f0.f2) ((rd_T68 x7 x11).f0.f3) ((rd_T68 x7 x11).f0.f4) ((rd_T68 x7 x11).f1) ((rd_T68 x7 x11).f2) ((rd_T68 x7 x11).f3)).bind fun t372 => (if t372 > x8 then (if t372 ≥ 0 then (if x9 < 0 then (some false) else (if x9 > t372 then (some false) else ((laws_contains.f k x10 ((rd_T68 x7 x11).f0.f0)).bind fun t374 => (if t374 = true then ((impl_AreFinds.f k x7).bind fun t375 => (if t375 = true then ((impl_IsDue.f k ((rd_T68 x7 x11).f0.f0) ((rd_T68 x7 x11).f0.f1) ((rd_T68 x7 x11).f0.f2) ((rd_T68 x7 x11).f0.f3) ((rd_T68 x7 x11).f0.f4) ((rd_T68 x7 x11).f1) ((rd_T68 x7 x11).f2) ((rd_T68 x7 x11).f3) x8).bind fun t377 => (if t377 = true then (laws_FnKept.l0 k x7 x8 x9 x10 (wrap64 (x11 + 1))) else (some false))) else (laws_FnKept.l0 k x7 x8 x9 x10 (wrap64 (x11 + 1))))) else (laws_FnKept.l0 k x7 x8 x9 x10 (wrap64 (x11 + 1))))))) else ((laws_contains.f k x10 ((rd_T68 x7 x11).f0.f0)).bind fun t379 => (if t379 = true then ((impl_AreFinds.f k x7).bind fun t380 => (if t380 = true then ((impl_IsDue.f k ((rd_T68 x7 x11).f0.f0) ((rd_T68 x7 x11).f0.f1) ((rd_T68 x7 x11).f0.f2) ((rd_T68 x7 x11).f0.f3) ((rd_T68 x7 x11).f0.f4) ((rd_T68 x7 x11).f1) ((rd_T68 x7 x11).f2) ((rd_T68 x7 x11).f3) x8).bind fun t382 => (if t382 = true then (laws_FnKept.l0 k x7 x8 x9 x10 (wrap64 (x11 + 1))) else (some false))) else (laws_FnKept.l0 k x7 x8 x9 x10 (wrap64 (x11 + 1))))) else (laws_FnKept.l0 k x7 x8 x9 x10 (wrap64 (x11 + 1)))))) else ((laws_contains.f k x10 ((rd_T68 x7 x11).f0.f0)).bind fun t384 => (if t384 = true then ((impl_AreFinds.f k x7).bind fun t385 => (if t385 = true then ((impl_IsDue.f k ((rd_T68 x7 x11).f0.f0) ((rd_T68 x7 x11).f0.f1) ((rd_T68 x7 x11).f0.f2) ((rd_T68 x7 x11).f0.f3) ((rd_T68 x7 x11).f0.f4) ((rd_T68 x7 x11).f1) ((rd_T68 x7 x11).f2) ((rd_T68 x7 x11).f3) x8).bind fun t387 => (if t387 = true then (laws_FnKept.l0 k x7 x8 x9 x10 (wrap64 (x11 + 1))) else (some false))) else (laws_FnKept.l0 k x7 x8 x9 x10 (wrap64 (x11 + 1))))) else (laws_FnKept.l0 k x7 x8 x9 x10 (wrap64 (x11 + 1))))))) else (none)) else (if x9 = (-1) then (some true) else (some (decide (x9 > x8))))
end
def laws_FnKept.f (k : Nat) (l0 : List Int) : Option (Bool) := (laws_big.f l0).bind fun t345 => (if t345 = true then (some true) else ((spec_DrawIsDue.f k l0).bind fun bt346 => ((impl_DueHour.f k bt346.1 bt346.2.1 bt346.2.2.1 bt346.2.2.2.1 bt346.2.2.2.2.1 bt346.2.2.2.2.2.1 bt346.2.2.2.2.2.2.1 bt346.2.2.2.2.2.2.2.1).bind fun t356 => ((impl_IsFind.f bt346.1 bt346.2.1 bt346.2.2.1 bt346.2.2.2.1 bt346.2.2.2.2.1 bt346.2.2.2.2.2.1 bt346.2.2.2.2.2.2.1 bt346.2.2.2.2.2.2.2.1).bind fun t357 => (if ((decide (t356 ≥ 0)) != t357) = true then (laws_FnKept.j0 k l0 bt346.2.2.2.2.2.2.2.2 t356 true bt346.1 bt346.2.1 bt346.2.2.1 bt346.2.2.2.1 bt346.2.2.2.2.1 bt346.2.2.2.2.2.1 bt346.2.2.2.2.2.2.1 bt346.2.2.2.2.2.2.2.1) else (if t356 ≥ 0 then ((impl_IsDue.f k bt346.1 bt346.2.1 bt346.2.2.1 bt346.2.2.2.1 bt346.2.2.2.2.1 bt346.2.2.2.2.2.1 bt346.2.2.2.2.2.2.1 bt346.2.2.2.2.2.2.2.1 t356).bind fun t358 => (if t358 = true then ((impl_IsDue.f k bt346.1 bt346.2.1 bt346.2.2.1 bt346.2.2.2.1 bt346.2.2.2.2.1 bt346.2.2.2.2.2.1 bt346.2.2.2.2.2.2.1 bt346.2.2.2.2.2.2.2.1 (wrap64 (t356 - 1))).bind fun t359 => (if t359 = true then (laws_FnKept.j0 k l0 bt346.2.2.2.2.2.2.2.2 t356 true bt346.1 bt346.2.1 bt346.2.2.1 bt346.2.2.2.1 bt346.2.2.2.2.1 bt346.2.2.2.2.2.1 bt346.2.2.2.2.2.2.1 bt346.2.2.2.2.2.2.2.1) else ((impl_KeepDays.f k bt346.2.1).bind fun t360 => (laws_FnKept.j0 k l0 bt346.2.2.2.2.2.2.2.2 t356 (decide (t360 < 1)) bt346.1 bt346.2.1 bt346.2.2.1 bt346.2.2.2.1 bt346.2.2.2.2.1 bt346.2.2.2.2.2.1 bt346.2.2.2.2.2.2.1 bt346.2.2.2.2.2.2.2.1)))) else (laws_FnKept.j0 k l0 bt346.2.2.2.2.2.2.2.2 t356 true bt346.1 bt346.2.1 bt346.2.2.1 bt346.2.2.2.1 bt346.2.2.2.2.1 bt346.2.2.2.2.2.1 bt346.2.2.2.2.2.2.1 bt346.2.2.2.2.2.2.2.1))) else (laws_FnKept.j0 k l0 bt346.2.2.2.2.2.2.2.2 t356 false bt346.1 bt346.2.1 bt346.2.2.1 bt346.2.2.2.1 bt346.2.2.2.2.1 bt346.2.2.2.2.2.1 bt346.2.2.2.2.2.2.1 bt346.2.2.2.2.2.2.2.1)))))))
set_option maxHeartbeats 8000000 in
set_option maxRecDepth 100000 in
theorem laws_FnKept.calls (k : Nat) (A0 : Option Addr) (c0 : Nat) (l0 : List Int) (r : Bool) (w : World) (hr0 : Kd.C (Kd.int .u8) w A0 l0.length l0) (hc0 : l0.length ≤ c0) (h : laws_FnKept.f k l0 = some r) :
    Calls Try.prog 9 #[.slice A0 l0.length c0] w fun e w' => e = .returned (.bool r) ∧ Below w.heap.size w w' := by
  have hu68 := Try.underlying68
  have HR0 := Aside0.mk hr0
  have HC0 := Aside0.mk hc0
  clear hr0 hc0
  have HB := Aside0.mk (Below.refl w.heap.size w)
  have H : ((laws_big.f l0).bind fun t345 => (if t345 = true then (some true) else ((spec_DrawIsDue.f k l0).bind fun bt346 => ((impl_DueHour.f k bt346.1 bt346.2.1 bt346.2.2.1 bt346.2.2.2.1 bt346.2.2.2.2.1 bt346.2.2.2.2.2.1 bt346.2.2.2.2.2.2.1 bt346.2.2.2.2.2.2.2.1).bind fun t356 => ((impl_IsFind.f bt346.1 bt346.2.1 bt346.2.2.1 bt346.2.2.2.1 bt346.2.2.2.2.1 bt346.2.2.2.2.2.1 bt346.2.2.2.2.2.2.1 bt346.2.2.2.2.2.2.2.1).bind fun t357 => (if ((decide (t356 ≥ 0)) != t357) = true then (laws_FnKept.j0 k l0 bt346.2.2.2.2.2.2.2.2 t356 true bt346.1 bt346.2.1 bt346.2.2.1 bt346.2.2.2.1 bt346.2.2.2.2.1 bt346.2.2.2.2.2.1 bt346.2.2.2.2.2.2.1 bt346.2.2.2.2.2.2.2.1) else (if t356 ≥ 0 then ((impl_IsDue.f k bt346.1 bt346.2.1 bt346.2.2.1 bt346.2.2.2.1 bt346.2.2.2.2.1 bt346.2.2.2.2.2.1 bt346.2.2.2.2.2.2.1 bt346.2.2.2.2.2.2.2.1 t356).bind fun t358 => (if t358 = true then ((impl_IsDue.f k bt346.1 bt346.2.1 bt346.2.2.1 bt346.2.2.2.1 bt346.2.2.2.2.1 bt346.2.2.2.2.2.1 bt346.2.2.2.2.2.2.1 bt346.2.2.2.2.2.2.2.1 (wrap64 (t356 - 1))).bind fun t359 => (if t359 = true then (laws_FnKept.j0 k l0 bt346.2.2.2.2.2.2.2.2 t356 true bt346.1 bt346.2.1 bt346.2.2.1 bt346.2.2.2.1 bt346.2.2.2.2.1 bt346.2.2.2.2.2.1 bt346.2.2.2.2.2.2.1 bt346.2.2.2.2.2.2.2.1) else ((impl_KeepDays.f k bt346.2.1).bind fun t360 => (laws_FnKept.j0 k l0 bt346.2.2.2.2.2.2.2.2 t356 (decide (t360 < 1)) bt346.1 bt346.2.1 bt346.2.2.1 bt346.2.2.2.1 bt346.2.2.2.2.1 bt346.2.2.2.2.2.1 bt346.2.2.2.2.2.2.1 bt346.2.2.2.2.2.2.2.1)))) else (laws_FnKept.j0 k l0 bt346.2.2.2.2.2.2.2.2 t356 true bt346.1 bt346.2.1 bt346.2.2.1 bt346.2.2.2.1 bt346.2.2.2.2.1 bt346.2.2.2.2.2.1 bt346.2.2.2.2.2.2.1 bt346.2.2.2.2.2.2.2.1))) else (laws_FnKept.j0 k l0 bt346.2.2.2.2.2.2.2.2 t356 false bt346.1 bt346.2.1 bt346.2.2.1 bt346.2.2.2.1 bt346.2.2.2.2.1 bt346.2.2.2.2.2.1 bt346.2.2.2.2.2.2.1 bt346.2.2.2.2.2.2.2.1)))))))) = some r := h
  clear h
  replace H := Option.bind_eq_some_iff.mp H
  obtain ⟨t345, A20, H⟩ := H
  replace H : (if t345 = true then (some true) else ((spec_DrawIsDue.f k l0).bind fun bt346 => ((impl_DueHour.f k bt346.1 bt346.2.1 bt346.2.2.1 bt346.2.2.2.1 bt346.2.2.2.2.1 bt346.2.2.2.2.2.1 bt346.2.2.2.2.2.2.1 bt346.2.2.2.2.2.2.2.1).bind fun t356 => ((impl_IsFind.f bt346.1 bt346.2.1 bt346.2.2.1 bt346.2.2.2.1 bt346.2.2.2.2.1 bt346.2.2.2.2.2.1 bt346.2.2.2.2.2.2.1 bt346.2.2.2.2.2.2.2.1).bind fun t357 => (if ((decide (t356 ≥ 0)) != t357) = true then (laws_FnKept.j0 k l0 bt346.2.2.2.2.2.2.2.2 t356 true bt346.1 bt346.2.1 bt346.2.2.1 bt346.2.2.2.1 bt346.2.2.2.2.1 bt346.2.2.2.2.2.1 bt346.2.2.2.2.2.2.1 bt346.2.2.2.2.2.2.2.1) else (if t356 ≥ 0 then ((impl_IsDue.f k bt346.1 bt346.2.1 bt346.2.2.1 bt346.2.2.2.1 bt346.2.2.2.2.1 bt346.2.2.2.2.2.1 bt346.2.2.2.2.2.2.1 bt346.2.2.2.2.2.2.2.1 t356).bind fun t358 => (if t358 = true then ((impl_IsDue.f k bt346.1 bt346.2.1 bt346.2.2.1 bt346.2.2.2.1 bt346.2.2.2.2.1 bt346.2.2.2.2.2.1 bt346.2.2.2.2.2.2.1 bt346.2.2.2.2.2.2.2.1 (wrap64 (t356 - 1))).bind fun t359 => (if t359 = true then (laws_FnKept.j0 k l0 bt346.2.2.2.2.2.2.2.2 t356 true bt346.1 bt346.2.1 bt346.2.2.1 bt346.2.2.2.1 bt346.2.2.2.2.1 bt346.2.2.2.2.2.1 bt346.2.2.2.2.2.2.1 bt346.2.2.2.2.2.2.2.1) else ((impl_KeepDays.f k bt346.2.1).bind fun t360 => (laws_FnKept.j0 k l0 bt346.2.2.2.2.2.2.2.2 t356 (decide (t360 < 1)) bt346.1 bt346.2.1 bt346.2.2.1 bt346.2.2.2.1 bt346.2.2.2.2.1 bt346.2.2.2.2.2.1 bt346.2.2.2.2.2.2.1 bt346.2.2.2.2.2.2.2.1)))) else (laws_FnKept.j0 k l0 bt346.2.2.2.2.2.2.2.2 t356 true bt346.1 bt346.2.1 bt346.2.2.1 bt346.2.2.2.1 bt346.2.2.2.2.1 bt346.2.2.2.2.2.1 bt346.2.2.2.2.2.2.1 bt346.2.2.2.2.2.2.2.1))) else (laws_FnKept.j0 k l0 bt346.2.2.2.2.2.2.2.2 t356 false bt346.1 bt346.2.1 bt346.2.2.1 bt346.2.2.2.1 bt346.2.2.2.2.1 bt346.2.2.2.2.2.1 bt346.2.2.2.2.2.2.1 bt346.2.2.2.2.2.2.2.1))))))) = some r := H
  have A2 := Aside0.mk A20
  clear A20
  by_cases c3 : t345 = true
  · subst c3
    have H1 : (some true) = some r := by rw [if_pos rfl] at H; exact H
    clear H
    have H := H1
    clear H1
    obtain rfl := Option.some.inj H
    go_enter Try.func9, Try.ntmps9
    go_wp2_with (first | ((with_reducible refine gate_callee (f := 32) rfl ?_); refine goesL_ (some 14) rfl rfl Try.func32 (by kernel_rfl) rfl #[.slice A0 l0.length c0] rfl (by (try simp only [List.map_toArray, List.map_cons, List.map_nil]); first | done | rfl | (simp only [List.length_drop, List.length_take]; rfl)) ?_; (with_reducible refine (laws_big.calls _ _ l0 true _ ?side1 ?side2 A2.out).mono ?_); (case side1 => repeat (first | exact HR0.out | (with_reducible refine Kd.C_alloc ?_ _) | (with_reducible refine Kd.C_drewN ?_ _) | (with_reducible refine Kd.C_drew ?_))); (case side2 => exact HC0.out); rintro e w' ⟨rfl, ⟨nd, rfl⟩⟩; refine ⟨_, rfl, ?_⟩))
    go_ret
    exact ⟨by first | rfl | (simp [errW_none, errW_some] <;> rfl) | (simp [*, errW_none, errW_some] <;> rfl), by repeat (first | (with_reducible first | exact HB.out | apply below_alloc | apply pw_below_drewN | apply below_drew1) | exact HB.out)⟩
  replace c3 := Bool.eq_false_iff.mpr c3
  subst c3
  have H1 : ((spec_DrawIsDue.f k l0).bind fun bt346 => ((impl_DueHour.f k bt346.1 bt346.2.1 bt346.2.2.1 bt346.2.2.2.1 bt346.2.2.2.2.1 bt346.2.2.2.2.2.1 bt346.2.2.2.2.2.2.1 bt346.2.2.2.2.2.2.2.1).bind fun t356 => ((impl_IsFind.f bt346.1 bt346.2.1 bt346.2.2.1 bt346.2.2.2.1 bt346.2.2.2.2.1 bt346.2.2.2.2.2.1 bt346.2.2.2.2.2.2.1 bt346.2.2.2.2.2.2.2.1).bind fun t357 => (if ((decide (t356 ≥ 0)) != t357) = true then (laws_FnKept.j0 k l0 bt346.2.2.2.2.2.2.2.2 t356 true bt346.1 bt346.2.1 bt346.2.2.1 bt346.2.2.2.1 bt346.2.2.2.2.1 bt346.2.2.2.2.2.1 bt346.2.2.2.2.2.2.1 bt346.2.2.2.2.2.2.2.1) else (if t356 ≥ 0 then ((impl_IsDue.f k bt346.1 bt346.2.1 bt346.2.2.1 bt346.2.2.2.1 bt346.2.2.2.2.1 bt346.2.2.2.2.2.1 bt346.2.2.2.2.2.2.1 bt346.2.2.2.2.2.2.2.1 t356).bind fun t358 => (if t358 = true then ((impl_IsDue.f k bt346.1 bt346.2.1 bt346.2.2.1 bt346.2.2.2.1 bt346.2.2.2.2.1 bt346.2.2.2.2.2.1 bt346.2.2.2.2.2.2.1 bt346.2.2.2.2.2.2.2.1 (wrap64 (t356 - 1))).bind fun t359 => (if t359 = true then (laws_FnKept.j0 k l0 bt346.2.2.2.2.2.2.2.2 t356 true bt346.1 bt346.2.1 bt346.2.2.1 bt346.2.2.2.1 bt346.2.2.2.2.1 bt346.2.2.2.2.2.1 bt346.2.2.2.2.2.2.1 bt346.2.2.2.2.2.2.2.1) else ((impl_KeepDays.f k bt346.2.1).bind fun t360 => (laws_FnKept.j0 k l0 bt346.2.2.2.2.2.2.2.2 t356 (decide (t360 < 1)) bt346.1 bt346.2.1 bt346.2.2.1 bt346.2.2.2.1 bt346.2.2.2.2.1 bt346.2.2.2.2.2.1 bt346.2.2.2.2.2.2.1 bt346.2.2.2.2.2.2.2.1)))) else (laws_FnKept.j0 k l0 bt346.2.2.2.2.2.2.2.2 t356 true bt346.1 bt346.2.1 bt346.2.2.1 bt346.2.2.2.1 bt346.2.2.2.2.1 bt346.2.2.2.2.2.1 bt346.2.2.2.2.2.2.1 bt346.2.2.2.2.2.2.2.1))) else (laws_FnKept.j0 k l0 bt346.2.2.2.2.2.2.2.2 t356 false bt346.1 bt346.2.1 bt346.2.2.1 bt346.2.2.2.1 bt346.2.2.2.2.1 bt346.2.2.2.2.2.1 bt346.2.2.2.2.2.2.1 bt346.2.2.2.2.2.2.2.1)))))) = some r := by rw [if_neg (show ¬ (false = true) by decide)] at H; exact H
  clear H
  have H := H1
  clear H1
  replace H := Option.bind_eq_some_iff.mp H
  obtain ⟨⟨t346, t347, t348, t349, t350, t351, t352, t353, t354⟩, A40, H⟩ := H
  replace H : ((impl_DueHour.f k t346 t347 t348 t349 t350 t351 t352 t353).bind fun t356 => ((impl_IsFind.f t346 t347 t348 t349 t350 t351 t352 t353).bind fun t357 => (if ((decide (t356 ≥ 0)) != t357) = true then (laws_FnKept.j0 k l0 t354 t356 true t346 t347 t348 t349 t350 t351 t352 t353) else (if t356 ≥ 0 then ((impl_IsDue.f k t346 t347 t348 t349 t350 t351 t352 t353 t356).bind fun t358 => (if t358 = true then ((impl_IsDue.f k t346 t347 t348 t349 t350 t351 t352 t353 (wrap64 (t356 - 1))).bind fun t359 => (if t359 = true then (laws_FnKept.j0 k l0 t354 t356 true t346 t347 t348 t349 t350 t351 t352 t353) else ((impl_KeepDays.f k t347).bind fun t360 => (laws_FnKept.j0 k l0 t354 t356 (decide (t360 < 1)) t346 t347 t348 t349 t350 t351 t352 t353)))) else (laws_FnKept.j0 k l0 t354 t356 true t346 t347 t348 t349 t350 t351 t352 t353))) else (laws_FnKept.j0 k l0 t354 t356 false t346 t347 t348 t349 t350 t351 t352 t353))))) = some r := H
  have A4 := Aside0.mk A40
  clear A40
  replace H := Option.bind_eq_some_iff.mp H
  obtain ⟨t356, A50, H⟩ := H
  replace H : ((impl_IsFind.f t346 t347 t348 t349 t350 t351 t352 t353).bind fun t357 => (if ((decide (t356 ≥ 0)) != t357) = true then (laws_FnKept.j0 k l0 t354 t356 true t346 t347 t348 t349 t350 t351 t352 t353) else (if t356 ≥ 0 then ((impl_IsDue.f k t346 t347 t348 t349 t350 t351 t352 t353 t356).bind fun t358 => (if t358 = true then ((impl_IsDue.f k t346 t347 t348 t349 t350 t351 t352 t353 (wrap64 (t356 - 1))).bind fun t359 => (if t359 = true then (laws_FnKept.j0 k l0 t354 t356 true t346 t347 t348 t349 t350 t351 t352 t353) else ((impl_KeepDays.f k t347).bind fun t360 => (laws_FnKept.j0 k l0 t354 t356 (decide (t360 < 1)) t346 t347 t348 t349 t350 t351 t352 t353)))) else (laws_FnKept.j0 k l0 t354 t356 true t346 t347 t348 t349 t350 t351 t352 t353))) else (laws_FnKept.j0 k l0 t354 t356 false t346 t347 t348 t349 t350 t351 t352 t353)))) = some r := H
  have A5 := Aside0.mk A50
  clear A50
  have HC6 := Aside0.mk H
  clear H
  go_enter Try.func9, Try.ntmps9
  go_upto_region 5 with (first | ((with_reducible refine gate_callee (f := 32) rfl ?_); refine goesL_ (some 14) rfl rfl Try.func32 (by kernel_rfl) rfl #[.slice A0 l0.length c0] rfl (by (try simp only [List.map_toArray, List.map_cons, List.map_nil]); first | done | rfl | (simp only [List.length_drop, List.length_take]; rfl)) ?_; (with_reducible refine (laws_big.calls _ _ l0 false _ ?side1 ?side2 A2.out).mono ?_); (case side1 => repeat (first | exact HR0.out | (with_reducible refine Kd.C_alloc ?_ _) | (with_reducible refine Kd.C_drewN ?_ _) | (with_reducible refine Kd.C_drew ?_))); (case side2 => exact HC0.out); rintro e w' ⟨rfl, ⟨nd, rfl⟩⟩; refine ⟨_, rfl, ?_⟩) | ((with_reducible refine gate_callee (f := 47) rfl ?_); refine goesL_ (some 17) rfl rfl Try.func47 (by kernel_rfl) rfl #[.slice A0 l0.length c0] rfl (by (try simp only [List.map_toArray, List.map_cons, List.map_nil]); first | done | rfl | (simp only [List.length_drop, List.length_take]; rfl)) ?_; (with_reducible refine (spec_DrawIsDue.calls k _ _ l0 t346 t347 t348 t349 t350 t351 t352 t353 t354 _ ?side1 ?side2 A4.out).mono ?_); (case side1 => repeat (first | exact HR0.out | (with_reducible refine Kd.C_alloc ?_ _) | (with_reducible refine Kd.C_drewN ?_ _) | (with_reducible refine Kd.C_drew ?_))); (case side2 => exact HC0.out); rintro e w7 ⟨rfl, hb⟩; refine ⟨_, rfl, ?_⟩; have n0_ := Aside0.mk (below_step (by repeat (first | (with_reducible first | exact HB.out | apply below_alloc | apply pw_below_drewN | apply below_drew1) | exact HB.out)) hb); clear HB; have HB := n0_; clear n0_; (try clear hb); (try clear hb2); (try clear hk); (try clear hi)) | ((with_reducible refine gate_dst (N := 3) rfl ?_); refine box_event ?hg (N := 3) ?hd (cs := #[.int .i64 0, .int .i64 0, .int .i64 0, .int .i64 0, .int .i64 0, .int .i64 0, .int .i64 0, .int .i64 0]) (t := 68) ?hr ?_; (case hd => rfl); (case hg => rfl); (case hr => first | (go_simp; done) | (go_simp; rfl)); intro gb355 hg w8 hbox hb; have n0_ := Aside0.mk (below_step (by repeat (first | (with_reducible first | exact HB.out | apply below_alloc | apply pw_below_drewN | apply below_drew1) | exact HB.out)) hb); have n1_ := Aside0.mk (hbox); have n2_ := Aside0.mk ((by rw [hg]; exact (below_size (by repeat (first | (with_reducible first | exact HB.out | apply below_alloc | apply pw_below_drewN | apply below_drew1) | exact HB.out))) : w.heap.size ≤ gb355)); have n3_ := Aside0.mk ((by rw [hg]; exact (below_size (by repeat (first | (with_reducible first | exact HB.out | apply below_alloc | apply pw_below_drewN | apply below_drew1) | exact HB.out))) : w.heap.size ≤ gb355)); clear HB; have HB := n0_; have BK355 := n1_; have GW355 := n2_; have GE355 := n3_; clear n0_ n1_ n2_ n3_; clear hb hbox hg; have hcz9_0 : w8.cell? ⟨gb355, 0, none⟩ = some (.int .i64 0) := (blk_cell BK355.out 0).trans rfl; have hcz9_1 : w8.cell? ⟨gb355, 1, none⟩ = some (.int .i64 0) := (blk_cell BK355.out 1).trans rfl; have hcz9_2 : w8.cell? ⟨gb355, 2, none⟩ = some (.int .i64 0) := (blk_cell BK355.out 2).trans rfl; have hcz9_3 : w8.cell? ⟨gb355, 3, none⟩ = some (.int .i64 0) := (blk_cell BK355.out 3).trans rfl; have hcz9_4 : w8.cell? ⟨gb355, 4, none⟩ = some (.int .i64 0) := (blk_cell BK355.out 4).trans rfl; have hcz9_5 : w8.cell? ⟨gb355, 5, none⟩ = some (.int .i64 0) := (blk_cell BK355.out 5).trans rfl; have hcz9_6 : w8.cell? ⟨gb355, 6, none⟩ = some (.int .i64 0) := (blk_cell BK355.out 6).trans rfl; have hcz9_7 : w8.cell? ⟨gb355, 7, none⟩ = some (.int .i64 0) := (blk_cell BK355.out 7).trans rfl; have hfz9_0 := blk_frozen BK355.out 0; have hfz9_1 := blk_frozen BK355.out 1; have hfz9_2 := blk_frozen BK355.out 2; have hfz9_3 := blk_frozen BK355.out 3; have hfz9_4 := blk_frozen BK355.out 4; have hfz9_5 := blk_frozen BK355.out 5; have hfz9_6 := blk_frozen BK355.out 6; have hfz9_7 := blk_frozen BK355.out 7) | ((with_reducible refine gate_callee (f := 48) rfl ?_); refine goesL_ (some 21) rfl rfl Try.func48 (by kernel_rfl) rfl #[.agg #[.int .i64 t346, .int .i64 t347, .int .i64 t348, .int .i64 t349, .int .i64 t350, .int .i64 t351, .int .i64 t352, .int .i64 t353]] rfl (by (try simp only [List.map_toArray, List.map_cons, List.map_nil]); first | done | rfl | (simp only [List.length_drop, List.length_take]; rfl)) ?_; (with_reducible refine (impl_DueHour.calls k t346 t347 t348 t349 t350 t351 t352 t353 t356 _ A5.out).mono ?_); rintro e w10 ⟨rfl, hb⟩; refine ⟨_, rfl, ?_⟩; have n0_ := Aside0.mk (blk_below (g := gb355) (o := .cells #[.int .i64 t346, .int .i64 t347, .int .i64 t348, .int .i64 t349, .int .i64 t350, .int .i64 t351, .int .i64 t352, .int .i64 t353] 68 (0, 0)) (by (with_reducible repeat (first | refine blk_drewN ?_ _ | refine blk_drew ?_ | refine blk_alloc ?_ _)); refine blk_put (cs := #[.int .i64 t346, .int .i64 t347, .int .i64 t348, .int .i64 t349, .int .i64 t350, .int .i64 t351, .int .i64 t352, .int .i64 0]) ?_ 7 _ rfl; (with_reducible repeat (first | refine blk_drewN ?_ _ | refine blk_drew ?_ | refine blk_alloc ?_ _)); refine blk_put (cs := #[.int .i64 t346, .int .i64 t347, .int .i64 t348, .int .i64 t349, .int .i64 t350, .int .i64 t351, .int .i64 0, .int .i64 0]) ?_ 6 _ rfl; (with_reducible repeat (first | refine blk_drewN ?_ _ | refine blk_drew ?_ | refine blk_alloc ?_ _)); refine blk_put (cs := #[.int .i64 t346, .int .i64 t347, .int .i64 t348, .int .i64 t349, .int .i64 t350, .int .i64 0, .int .i64 0, .int .i64 0]) ?_ 5 _ rfl; (with_reducible repeat (first | refine blk_drewN ?_ _ | refine blk_drew ?_ | refine blk_alloc ?_ _)); refine blk_put (cs := #[.int .i64 t346, .int .i64 t347, .int .i64 t348, .int .i64 t349, .int .i64 0, .int .i64 0, .int .i64 0, .int .i64 0]) ?_ 4 _ rfl; (with_reducible repeat (first | refine blk_drewN ?_ _ | refine blk_drew ?_ | refine blk_alloc ?_ _)); refine blk_put (cs := #[.int .i64 t346, .int .i64 t347, .int .i64 t348, .int .i64 0, .int .i64 0, .int .i64 0, .int .i64 0, .int .i64 0]) ?_ 3 _ rfl; (with_reducible repeat (first | refine blk_drewN ?_ _ | refine blk_drew ?_ | refine blk_alloc ?_ _)); refine blk_put (cs := #[.int .i64 t346, .int .i64 t347, .int .i64 0, .int .i64 0, .int .i64 0, .int .i64 0, .int .i64 0, .int .i64 0]) ?_ 2 _ rfl; (with_reducible repeat (first | refine blk_drewN ?_ _ | refine blk_drew ?_ | refine blk_alloc ?_ _)); refine blk_put (cs := #[.int .i64 t346, .int .i64 0, .int .i64 0, .int .i64 0, .int .i64 0, .int .i64 0, .int .i64 0, .int .i64 0]) ?_ 1 _ rfl; (with_reducible repeat (first | refine blk_drewN ?_ _ | refine blk_drew ?_ | refine blk_alloc ?_ _)); refine blk_put (cs := #[.int .i64 0, .int .i64 0, .int .i64 0, .int .i64 0, .int .i64 0, .int .i64 0, .int .i64 0, .int .i64 0]) ?_ 0 _ rfl; (with_reducible repeat (first | refine blk_drewN ?_ _ | refine blk_drew ?_ | refine blk_alloc ?_ _)); exact BK355.out) hb); have n1_ := Aside0.mk (below_step (by repeat (first | (with_reducible first | exact HB.out | apply below_alloc | apply pw_below_drewN | apply below_drew1 | refine below_set ?_ GE355.out) | exact HB.out)) hb); clear BK355; clear HB; have BK355 := n0_; have HB := n1_; clear n0_ n1_; (try clear hb); (try clear hb2); (try clear hk); (try clear hi)))
  (try simp only [Act.put, List.setIfInBounds_toArray, List.set_cons_zero, List.set_cons_succ])
  go_cut [49] (fun v49 wc => ∃ (kq : Nat) (x49_5 : Bool), v49 = .bool x49_5 ∧ Aside0 (laws_FnKept.j0 kq l0 t354 t356 x49_5 t346 t347 t348 t349 t350 t351 t352 t353 = some r) ∧ Aside0 (kq ≤ k) ∧ Aside0 (wc.heap[gb355]? = some (.cells #[.int .i64 t346, .int .i64 t347, .int .i64 t348, .int .i64 t349, .int .i64 t350, .int .i64 t351, .int .i64 t352, .int .i64 t353] 68 (0, 0))) ∧ Aside0 (Below w.heap.size w wc))
  case first =>
    have H := HC6.out
    clear HC6
    replace H := Option.bind_eq_some_iff.mp H
    obtain ⟨t357, A110, H⟩ := H
    replace H : (if ((decide (t356 ≥ 0)) != t357) = true then (laws_FnKept.j0 k l0 t354 t356 true t346 t347 t348 t349 t350 t351 t352 t353) else (if t356 ≥ 0 then ((impl_IsDue.f k t346 t347 t348 t349 t350 t351 t352 t353 t356).bind fun t358 => (if t358 = true then ((impl_IsDue.f k t346 t347 t348 t349 t350 t351 t352 t353 (wrap64 (t356 - 1))).bind fun t359 => (if t359 = true then (laws_FnKept.j0 k l0 t354 t356 true t346 t347 t348 t349 t350 t351 t352 t353) else ((impl_KeepDays.f k t347).bind fun t360 => (laws_FnKept.j0 k l0 t354 t356 (decide (t360 < 1)) t346 t347 t348 t349 t350 t351 t352 t353)))) else (laws_FnKept.j0 k l0 t354 t356 true t346 t347 t348 t349 t350 t351 t352 t353))) else (laws_FnKept.j0 k l0 t354 t356 false t346 t347 t348 t349 t350 t351 t352 t353))) = some r := H
    have A11 := Aside0.mk A110
    clear A110
    by_cases c12 : ((decide (t356 ≥ 0)) != t357) = true
    · rw [if_pos c12] at H
      have c12b0 : ((decide (t356 ≥ 0)) != t357) = true := c12
      (try (have c12b1 : decide ((decide (t356 ≥ 0)) = t357) = false := by simpa using c12))
      (try (have c12b2 : ((decide (t356 ≥ 0)) == t357) = false := by simpa using c12))
      (try (have c12b3 : ¬ ((decide (t356 ≥ 0)) = t357) := by simpa using c12))
      clear c12
      (first | rw [c12b0] | rw [c12b1] | (simp only [i64_w, i32_w]; rw [c12b0]) | skip)
      have H' := Aside0.mk H
      clear H
      have hcz13_0 : w10.cell? ⟨gb355, 0, none⟩ = some (.int .i64 t346) := (blk_cell BK355.out 0).trans rfl
      have hcz13_1 : w10.cell? ⟨gb355, 1, none⟩ = some (.int .i64 t347) := (blk_cell BK355.out 1).trans rfl
      have hcz13_2 : w10.cell? ⟨gb355, 2, none⟩ = some (.int .i64 t348) := (blk_cell BK355.out 2).trans rfl
      have hcz13_3 : w10.cell? ⟨gb355, 3, none⟩ = some (.int .i64 t349) := (blk_cell BK355.out 3).trans rfl
      have hcz13_4 : w10.cell? ⟨gb355, 4, none⟩ = some (.int .i64 t350) := (blk_cell BK355.out 4).trans rfl
      have hcz13_5 : w10.cell? ⟨gb355, 5, none⟩ = some (.int .i64 t351) := (blk_cell BK355.out 5).trans rfl
      have hcz13_6 : w10.cell? ⟨gb355, 6, none⟩ = some (.int .i64 t352) := (blk_cell BK355.out 6).trans rfl
      have hcz13_7 : w10.cell? ⟨gb355, 7, none⟩ = some (.int .i64 t353) := (blk_cell BK355.out 7).trans rfl
      have hfz13_0 := blk_frozen BK355.out 0
      have hfz13_1 := blk_frozen BK355.out 1
      have hfz13_2 := blk_frozen BK355.out 2
      have hfz13_3 := blk_frozen BK355.out 3
      have hfz13_4 := blk_frozen BK355.out 4
      have hfz13_5 := blk_frozen BK355.out 5
      have hfz13_6 := blk_frozen BK355.out 6
      have hfz13_7 := blk_frozen BK355.out 7
      go_wp2_with (first | ((with_reducible refine gate_callee (f := 49) rfl ?_); refine goesL_ (some 25) rfl rfl Try.func49 (by kernel_rfl) rfl #[.agg #[.int .i64 t346, .int .i64 t347, .int .i64 t348, .int .i64 t349, .int .i64 t350, .int .i64 t351, .int .i64 t352, .int .i64 t353]] rfl (by (try simp only [List.map_toArray, List.map_cons, List.map_nil]); first | done | rfl | (simp only [List.length_drop, List.length_take]; rfl)) ?_; (with_reducible refine (impl_IsFind.calls t346 t347 t348 t349 t350 t351 t352 t353 t357 _ A11.out).mono ?_); rintro e w14 ⟨rfl, hb⟩; refine ⟨_, rfl, ?_⟩; have n0_ := Aside0.mk (blk_below (g := gb355) (o := .cells #[.int .i64 t346, .int .i64 t347, .int .i64 t348, .int .i64 t349, .int .i64 t350, .int .i64 t351, .int .i64 t352, .int .i64 t353] 68 (0, 0)) (by (with_reducible repeat (first | refine blk_drewN ?_ _ | refine blk_drew ?_ | refine blk_alloc ?_ _)); exact BK355.out) hb); have n1_ := Aside0.mk (below_step (by repeat (first | (with_reducible first | exact HB.out | apply below_alloc | apply pw_below_drewN | apply below_drew1 | refine below_set ?_ GE355.out) | exact HB.out)) hb); clear BK355; clear HB; have BK355 := n0_; have HB := n1_; clear n0_ n1_; (try clear hb); (try clear hb2); (try clear hk); (try clear hi)))
      go_meet
      case rel => exact ⟨_, (true), (by first | rfl | (simp; done) | (simp [*]; done)), H', ⟨by first | omega | exact Nat.le_refl _⟩, ⟨by (with_reducible repeat (first | refine blk_drewN ?_ _ | refine blk_drew ?_ | refine blk_alloc ?_ _)); exact BK355.out⟩, ⟨by repeat (first | (with_reducible first | exact HB.out | apply below_alloc | apply pw_below_drewN | apply below_drew1 | refine below_set ?_ GE355.out) | exact HB.out)⟩⟩
    rw [if_neg c12] at H
    have c12b0 : ((decide (t356 ≥ 0)) != t357) = false := by simpa using c12
    (try (have c12b1 : decide ((decide (t356 ≥ 0)) = t357) = true := by simpa using c12))
    (try (have c12b2 : ((decide (t356 ≥ 0)) == t357) = true := by simpa using c12))
    clear c12
    (first | rw [c12b0] | rw [c12b1] | (simp only [i64_w, i32_w]; rw [c12b0]) | skip)
    by_cases c15 : t356 ≥ 0
    rotate_left
    · rw [if_neg c15] at H
      have c15b0 : decide (0 ≤ t356) = false := decide_eq_false c15
      (try (have c15t : t357 = false := by simpa [c15] using c12b0))
      clear c15
      have H' := Aside0.mk H
      clear H
      have hcz38_0 : w10.cell? ⟨gb355, 0, none⟩ = some (.int .i64 t346) := (blk_cell BK355.out 0).trans rfl
      have hcz38_1 : w10.cell? ⟨gb355, 1, none⟩ = some (.int .i64 t347) := (blk_cell BK355.out 1).trans rfl
      have hcz38_2 : w10.cell? ⟨gb355, 2, none⟩ = some (.int .i64 t348) := (blk_cell BK355.out 2).trans rfl
      have hcz38_3 : w10.cell? ⟨gb355, 3, none⟩ = some (.int .i64 t349) := (blk_cell BK355.out 3).trans rfl
      have hcz38_4 : w10.cell? ⟨gb355, 4, none⟩ = some (.int .i64 t350) := (blk_cell BK355.out 4).trans rfl
      have hcz38_5 : w10.cell? ⟨gb355, 5, none⟩ = some (.int .i64 t351) := (blk_cell BK355.out 5).trans rfl
      have hcz38_6 : w10.cell? ⟨gb355, 6, none⟩ = some (.int .i64 t352) := (blk_cell BK355.out 6).trans rfl
      have hcz38_7 : w10.cell? ⟨gb355, 7, none⟩ = some (.int .i64 t353) := (blk_cell BK355.out 7).trans rfl
      have hfz38_0 := blk_frozen BK355.out 0
      have hfz38_1 := blk_frozen BK355.out 1
      have hfz38_2 := blk_frozen BK355.out 2
      have hfz38_3 := blk_frozen BK355.out 3
      have hfz38_4 := blk_frozen BK355.out 4
      have hfz38_5 := blk_frozen BK355.out 5
      have hfz38_6 := blk_frozen BK355.out 6
      have hfz38_7 := blk_frozen BK355.out 7
      go_wp2_with (first | ((with_reducible refine gate_callee (f := 49) rfl ?_); refine goesL_ (some 25) rfl rfl Try.func49 (by kernel_rfl) rfl #[.agg #[.int .i64 t346, .int .i64 t347, .int .i64 t348, .int .i64 t349, .int .i64 t350, .int .i64 t351, .int .i64 t352, .int .i64 t353]] rfl (by (try simp only [List.map_toArray, List.map_cons, List.map_nil]); first | done | rfl | (simp only [List.length_drop, List.length_take]; rfl)) ?_; (with_reducible refine (impl_IsFind.calls t346 t347 t348 t349 t350 t351 t352 t353 t357 _ A11.out).mono ?_); rintro e w39 ⟨rfl, hb⟩; refine ⟨_, rfl, ?_⟩; have n0_ := Aside0.mk (blk_below (g := gb355) (o := .cells #[.int .i64 t346, .int .i64 t347, .int .i64 t348, .int .i64 t349, .int .i64 t350, .int .i64 t351, .int .i64 t352, .int .i64 t353] 68 (0, 0)) (by (with_reducible repeat (first | refine blk_drewN ?_ _ | refine blk_drew ?_ | refine blk_alloc ?_ _)); exact BK355.out) hb); have n1_ := Aside0.mk (below_step (by repeat (first | (with_reducible first | exact HB.out | apply below_alloc | apply pw_below_drewN | apply below_drew1 | refine below_set ?_ GE355.out) | exact HB.out)) hb); clear BK355; clear HB; have BK355 := n0_; have HB := n1_; clear n0_ n1_; (try clear hb); (try clear hb2); (try clear hk); (try clear hi)))
      go_meet
      case rel => exact ⟨_, (false), (by first | rfl | (simp; done) | (simp [*]; done)), H', ⟨by first | omega | exact Nat.le_refl _⟩, ⟨by (with_reducible repeat (first | refine blk_drewN ?_ _ | refine blk_drew ?_ | refine blk_alloc ?_ _)); exact BK355.out⟩, ⟨by repeat (first | (with_reducible first | exact HB.out | apply below_alloc | apply pw_below_drewN | apply below_drew1 | refine below_set ?_ GE355.out) | exact HB.out)⟩⟩
    rw [if_pos c15] at H
    have c15b0 : decide (0 ≤ t356) = true := decide_eq_true c15
    (try (have c15t : t357 = true := by simpa [c15] using c12b0))
    clear c15
    replace H := Option.bind_eq_some_iff.mp H
    obtain ⟨t358, A160, H⟩ := H
    replace H : (if t358 = true then ((impl_IsDue.f k t346 t347 t348 t349 t350 t351 t352 t353 (wrap64 (t356 - 1))).bind fun t359 => (if t359 = true then (laws_FnKept.j0 k l0 t354 t356 true t346 t347 t348 t349 t350 t351 t352 t353) else ((impl_KeepDays.f k t347).bind fun t360 => (laws_FnKept.j0 k l0 t354 t356 (decide (t360 < 1)) t346 t347 t348 t349 t350 t351 t352 t353)))) else (laws_FnKept.j0 k l0 t354 t356 true t346 t347 t348 t349 t350 t351 t352 t353)) = some r := H
    have A16 := Aside0.mk A160
    clear A160
    by_cases c17 : t358 = true
    rotate_left
    · replace c17 := Bool.eq_false_iff.mpr c17
      subst c17
      have H1 : (laws_FnKept.j0 k l0 t354 t356 true t346 t347 t348 t349 t350 t351 t352 t353) = some r := by rw [if_neg (show ¬ (false = true) by decide)] at H; exact H
      clear H
      have H := H1
      clear H1
      have H' := Aside0.mk H
      clear H
      have hcz34_0 : w10.cell? ⟨gb355, 0, none⟩ = some (.int .i64 t346) := (blk_cell BK355.out 0).trans rfl
      have hcz34_1 : w10.cell? ⟨gb355, 1, none⟩ = some (.int .i64 t347) := (blk_cell BK355.out 1).trans rfl
      have hcz34_2 : w10.cell? ⟨gb355, 2, none⟩ = some (.int .i64 t348) := (blk_cell BK355.out 2).trans rfl
      have hcz34_3 : w10.cell? ⟨gb355, 3, none⟩ = some (.int .i64 t349) := (blk_cell BK355.out 3).trans rfl
      have hcz34_4 : w10.cell? ⟨gb355, 4, none⟩ = some (.int .i64 t350) := (blk_cell BK355.out 4).trans rfl
      have hcz34_5 : w10.cell? ⟨gb355, 5, none⟩ = some (.int .i64 t351) := (blk_cell BK355.out 5).trans rfl
      have hcz34_6 : w10.cell? ⟨gb355, 6, none⟩ = some (.int .i64 t352) := (blk_cell BK355.out 6).trans rfl
      have hcz34_7 : w10.cell? ⟨gb355, 7, none⟩ = some (.int .i64 t353) := (blk_cell BK355.out 7).trans rfl
      have hfz34_0 := blk_frozen BK355.out 0
      have hfz34_1 := blk_frozen BK355.out 1
      have hfz34_2 := blk_frozen BK355.out 2
      have hfz34_3 := blk_frozen BK355.out 3
      have hfz34_4 := blk_frozen BK355.out 4
      have hfz34_5 := blk_frozen BK355.out 5
      have hfz34_6 := blk_frozen BK355.out 6
      have hfz34_7 := blk_frozen BK355.out 7
      go_wp2_with (first | ((with_reducible refine gate_callee (f := 49) rfl ?_); refine goesL_ (some 25) rfl rfl Try.func49 (by kernel_rfl) rfl #[.agg #[.int .i64 t346, .int .i64 t347, .int .i64 t348, .int .i64 t349, .int .i64 t350, .int .i64 t351, .int .i64 t352, .int .i64 t353]] rfl (by (try simp only [List.map_toArray, List.map_cons, List.map_nil]); first | done | rfl | (simp only [List.length_drop, List.length_take]; rfl)) ?_; (with_reducible refine (impl_IsFind.calls t346 t347 t348 t349 t350 t351 t352 t353 t357 _ A11.out).mono ?_); rintro e w35 ⟨rfl, hb⟩; refine ⟨_, rfl, ?_⟩; have n0_ := Aside0.mk (blk_below (g := gb355) (o := .cells #[.int .i64 t346, .int .i64 t347, .int .i64 t348, .int .i64 t349, .int .i64 t350, .int .i64 t351, .int .i64 t352, .int .i64 t353] 68 (0, 0)) (by (with_reducible repeat (first | refine blk_drewN ?_ _ | refine blk_drew ?_ | refine blk_alloc ?_ _)); exact BK355.out) hb); have n1_ := Aside0.mk (below_step (by repeat (first | (with_reducible first | exact HB.out | apply below_alloc | apply pw_below_drewN | apply below_drew1 | refine below_set ?_ GE355.out) | exact HB.out)) hb); clear BK355; clear HB; have BK355 := n0_; have HB := n1_; clear n0_ n1_; (try clear hb); (try clear hb2); (try clear hk); (try clear hi); have hcz36_0 : w35.cell? ⟨gb355, 0, none⟩ = some (.int .i64 t346) := (blk_cell BK355.out 0).trans rfl; have hcz36_1 : w35.cell? ⟨gb355, 1, none⟩ = some (.int .i64 t347) := (blk_cell BK355.out 1).trans rfl; have hcz36_2 : w35.cell? ⟨gb355, 2, none⟩ = some (.int .i64 t348) := (blk_cell BK355.out 2).trans rfl; have hcz36_3 : w35.cell? ⟨gb355, 3, none⟩ = some (.int .i64 t349) := (blk_cell BK355.out 3).trans rfl; have hcz36_4 : w35.cell? ⟨gb355, 4, none⟩ = some (.int .i64 t350) := (blk_cell BK355.out 4).trans rfl; have hcz36_5 : w35.cell? ⟨gb355, 5, none⟩ = some (.int .i64 t351) := (blk_cell BK355.out 5).trans rfl; have hcz36_6 : w35.cell? ⟨gb355, 6, none⟩ = some (.int .i64 t352) := (blk_cell BK355.out 6).trans rfl; have hcz36_7 : w35.cell? ⟨gb355, 7, none⟩ = some (.int .i64 t353) := (blk_cell BK355.out 7).trans rfl; have hfz36_0 := blk_frozen BK355.out 0; have hfz36_1 := blk_frozen BK355.out 1; have hfz36_2 := blk_frozen BK355.out 2; have hfz36_3 := blk_frozen BK355.out 3; have hfz36_4 := blk_frozen BK355.out 4; have hfz36_5 := blk_frozen BK355.out 5; have hfz36_6 := blk_frozen BK355.out 6; have hfz36_7 := blk_frozen BK355.out 7) | (go_at_call 50; (with_reducible refine (impl_IsDue.calls k t346 t347 t348 t349 t350 t351 t352 t353 t356 false _ A16.out).mono ?_); rintro e w37 ⟨rfl, hb⟩; have n0_ := Aside0.mk (blk_below (g := gb355) (o := .cells #[.int .i64 t346, .int .i64 t347, .int .i64 t348, .int .i64 t349, .int .i64 t350, .int .i64 t351, .int .i64 t352, .int .i64 t353] 68 (0, 0)) (by (with_reducible repeat (first | refine blk_drewN ?_ _ | refine blk_drew ?_ | refine blk_alloc ?_ _)); exact BK355.out) hb); have n1_ := Aside0.mk (below_step (by repeat (first | (with_reducible first | exact HB.out | apply below_alloc | apply pw_below_drewN | apply below_drew1 | refine below_set ?_ GE355.out) | exact HB.out)) hb); clear BK355; clear HB; have BK355 := n0_; have HB := n1_; clear n0_ n1_; (try clear hb); (try clear hb2); (try clear hk); (try clear hi)))
      go_meet
      case rel => exact ⟨_, (true), (by first | rfl | (simp; done) | (simp [*]; done)), H', ⟨by first | omega | exact Nat.le_refl _⟩, ⟨by (with_reducible repeat (first | refine blk_drewN ?_ _ | refine blk_drew ?_ | refine blk_alloc ?_ _)); exact BK355.out⟩, ⟨by repeat (first | (with_reducible first | exact HB.out | apply below_alloc | apply pw_below_drewN | apply below_drew1 | refine below_set ?_ GE355.out) | exact HB.out)⟩⟩
    subst c17
    have H1 : ((impl_IsDue.f k t346 t347 t348 t349 t350 t351 t352 t353 (wrap64 (t356 - 1))).bind fun t359 => (if t359 = true then (laws_FnKept.j0 k l0 t354 t356 true t346 t347 t348 t349 t350 t351 t352 t353) else ((impl_KeepDays.f k t347).bind fun t360 => (laws_FnKept.j0 k l0 t354 t356 (decide (t360 < 1)) t346 t347 t348 t349 t350 t351 t352 t353)))) = some r := by rw [if_pos rfl] at H; exact H
    clear H
    have H := H1
    clear H1
    replace H := Option.bind_eq_some_iff.mp H
    obtain ⟨t359, A180, H⟩ := H
    replace H : (if t359 = true then (laws_FnKept.j0 k l0 t354 t356 true t346 t347 t348 t349 t350 t351 t352 t353) else ((impl_KeepDays.f k t347).bind fun t360 => (laws_FnKept.j0 k l0 t354 t356 (decide (t360 < 1)) t346 t347 t348 t349 t350 t351 t352 t353))) = some r := H
    have A18 := Aside0.mk A180
    clear A180
    by_cases c19 : t359 = true
    · subst c19
      have H1 : (laws_FnKept.j0 k l0 t354 t356 true t346 t347 t348 t349 t350 t351 t352 t353) = some r := by rw [if_pos rfl] at H; exact H
      clear H
      have H := H1
      clear H1
      have H' := Aside0.mk H
      clear H
      have hcz20_0 : w10.cell? ⟨gb355, 0, none⟩ = some (.int .i64 t346) := (blk_cell BK355.out 0).trans rfl
      have hcz20_1 : w10.cell? ⟨gb355, 1, none⟩ = some (.int .i64 t347) := (blk_cell BK355.out 1).trans rfl
      have hcz20_2 : w10.cell? ⟨gb355, 2, none⟩ = some (.int .i64 t348) := (blk_cell BK355.out 2).trans rfl
      have hcz20_3 : w10.cell? ⟨gb355, 3, none⟩ = some (.int .i64 t349) := (blk_cell BK355.out 3).trans rfl
      have hcz20_4 : w10.cell? ⟨gb355, 4, none⟩ = some (.int .i64 t350) := (blk_cell BK355.out 4).trans rfl
      have hcz20_5 : w10.cell? ⟨gb355, 5, none⟩ = some (.int .i64 t351) := (blk_cell BK355.out 5).trans rfl
      have hcz20_6 : w10.cell? ⟨gb355, 6, none⟩ = some (.int .i64 t352) := (blk_cell BK355.out 6).trans rfl
      have hcz20_7 : w10.cell? ⟨gb355, 7, none⟩ = some (.int .i64 t353) := (blk_cell BK355.out 7).trans rfl
      have hfz20_0 := blk_frozen BK355.out 0
      have hfz20_1 := blk_frozen BK355.out 1
      have hfz20_2 := blk_frozen BK355.out 2
      have hfz20_3 := blk_frozen BK355.out 3
      have hfz20_4 := blk_frozen BK355.out 4
      have hfz20_5 := blk_frozen BK355.out 5
      have hfz20_6 := blk_frozen BK355.out 6
      have hfz20_7 := blk_frozen BK355.out 7
      go_wp2_with (first | ((with_reducible refine gate_callee (f := 49) rfl ?_); refine goesL_ (some 25) rfl rfl Try.func49 (by kernel_rfl) rfl #[.agg #[.int .i64 t346, .int .i64 t347, .int .i64 t348, .int .i64 t349, .int .i64 t350, .int .i64 t351, .int .i64 t352, .int .i64 t353]] rfl (by (try simp only [List.map_toArray, List.map_cons, List.map_nil]); first | done | rfl | (simp only [List.length_drop, List.length_take]; rfl)) ?_; (with_reducible refine (impl_IsFind.calls t346 t347 t348 t349 t350 t351 t352 t353 t357 _ A11.out).mono ?_); rintro e w21 ⟨rfl, hb⟩; refine ⟨_, rfl, ?_⟩; have n0_ := Aside0.mk (blk_below (g := gb355) (o := .cells #[.int .i64 t346, .int .i64 t347, .int .i64 t348, .int .i64 t349, .int .i64 t350, .int .i64 t351, .int .i64 t352, .int .i64 t353] 68 (0, 0)) (by (with_reducible repeat (first | refine blk_drewN ?_ _ | refine blk_drew ?_ | refine blk_alloc ?_ _)); exact BK355.out) hb); have n1_ := Aside0.mk (below_step (by repeat (first | (with_reducible first | exact HB.out | apply below_alloc | apply pw_below_drewN | apply below_drew1 | refine below_set ?_ GE355.out) | exact HB.out)) hb); clear BK355; clear HB; have BK355 := n0_; have HB := n1_; clear n0_ n1_; (try clear hb); (try clear hb2); (try clear hk); (try clear hi); have hcz22_0 : w21.cell? ⟨gb355, 0, none⟩ = some (.int .i64 t346) := (blk_cell BK355.out 0).trans rfl; have hcz22_1 : w21.cell? ⟨gb355, 1, none⟩ = some (.int .i64 t347) := (blk_cell BK355.out 1).trans rfl; have hcz22_2 : w21.cell? ⟨gb355, 2, none⟩ = some (.int .i64 t348) := (blk_cell BK355.out 2).trans rfl; have hcz22_3 : w21.cell? ⟨gb355, 3, none⟩ = some (.int .i64 t349) := (blk_cell BK355.out 3).trans rfl; have hcz22_4 : w21.cell? ⟨gb355, 4, none⟩ = some (.int .i64 t350) := (blk_cell BK355.out 4).trans rfl; have hcz22_5 : w21.cell? ⟨gb355, 5, none⟩ = some (.int .i64 t351) := (blk_cell BK355.out 5).trans rfl; have hcz22_6 : w21.cell? ⟨gb355, 6, none⟩ = some (.int .i64 t352) := (blk_cell BK355.out 6).trans rfl; have hcz22_7 : w21.cell? ⟨gb355, 7, none⟩ = some (.int .i64 t353) := (blk_cell BK355.out 7).trans rfl; have hfz22_0 := blk_frozen BK355.out 0; have hfz22_1 := blk_frozen BK355.out 1; have hfz22_2 := blk_frozen BK355.out 2; have hfz22_3 := blk_frozen BK355.out 3; have hfz22_4 := blk_frozen BK355.out 4; have hfz22_5 := blk_frozen BK355.out 5; have hfz22_6 := blk_frozen BK355.out 6; have hfz22_7 := blk_frozen BK355.out 7) | (go_at_call 50; (with_reducible refine (impl_IsDue.calls k t346 t347 t348 t349 t350 t351 t352 t353 t356 true _ A16.out).mono ?_); rintro e w23 ⟨rfl, hb⟩; have n0_ := Aside0.mk (blk_below (g := gb355) (o := .cells #[.int .i64 t346, .int .i64 t347, .int .i64 t348, .int .i64 t349, .int .i64 t350, .int .i64 t351, .int .i64 t352, .int .i64 t353] 68 (0, 0)) (by (with_reducible repeat (first | refine blk_drewN ?_ _ | refine blk_drew ?_ | refine blk_alloc ?_ _)); exact BK355.out) hb); have n1_ := Aside0.mk (below_step (by repeat (first | (with_reducible first | exact HB.out | apply below_alloc | apply pw_below_drewN | apply below_drew1 | refine below_set ?_ GE355.out) | exact HB.out)) hb); clear BK355; clear HB; have BK355 := n0_; have HB := n1_; clear n0_ n1_; (try clear hb); (try clear hb2); (try clear hk); (try clear hi); have hcz24_0 : w23.cell? ⟨gb355, 0, none⟩ = some (.int .i64 t346) := (blk_cell BK355.out 0).trans rfl; have hcz24_1 : w23.cell? ⟨gb355, 1, none⟩ = some (.int .i64 t347) := (blk_cell BK355.out 1).trans rfl; have hcz24_2 : w23.cell? ⟨gb355, 2, none⟩ = some (.int .i64 t348) := (blk_cell BK355.out 2).trans rfl; have hcz24_3 : w23.cell? ⟨gb355, 3, none⟩ = some (.int .i64 t349) := (blk_cell BK355.out 3).trans rfl; have hcz24_4 : w23.cell? ⟨gb355, 4, none⟩ = some (.int .i64 t350) := (blk_cell BK355.out 4).trans rfl; have hcz24_5 : w23.cell? ⟨gb355, 5, none⟩ = some (.int .i64 t351) := (blk_cell BK355.out 5).trans rfl; have hcz24_6 : w23.cell? ⟨gb355, 6, none⟩ = some (.int .i64 t352) := (blk_cell BK355.out 6).trans rfl; have hcz24_7 : w23.cell? ⟨gb355, 7, none⟩ = some (.int .i64 t353) := (blk_cell BK355.out 7).trans rfl; have hfz24_0 := blk_frozen BK355.out 0; have hfz24_1 := blk_frozen BK355.out 1; have hfz24_2 := blk_frozen BK355.out 2; have hfz24_3 := blk_frozen BK355.out 3; have hfz24_4 := blk_frozen BK355.out 4; have hfz24_5 := blk_frozen BK355.out 5; have hfz24_6 := blk_frozen BK355.out 6; have hfz24_7 := blk_frozen BK355.out 7) | (go_at_call 50; (with_reducible refine (impl_IsDue.calls k t346 t347 t348 t349 t350 t351 t352 t353 (wrap64 (t356 - 1)) true _ A18.out).mono ?_); rintro e w25 ⟨rfl, hb⟩; have n0_ := Aside0.mk (blk_below (g := gb355) (o := .cells #[.int .i64 t346, .int .i64 t347, .int .i64 t348, .int .i64 t349, .int .i64 t350, .int .i64 t351, .int .i64 t352, .int .i64 t353] 68 (0, 0)) (by (with_reducible repeat (first | refine blk_drewN ?_ _ | refine blk_drew ?_ | refine blk_alloc ?_ _)); exact BK355.out) hb); have n1_ := Aside0.mk (below_step (by repeat (first | (with_reducible first | exact HB.out | apply below_alloc | apply pw_below_drewN | apply below_drew1 | refine below_set ?_ GE355.out) | exact HB.out)) hb); clear BK355; clear HB; have BK355 := n0_; have HB := n1_; clear n0_ n1_; (try clear hb); (try clear hb2); (try clear hk); (try clear hi)))
      go_meet
      case rel => exact ⟨_, (true), (by first | rfl | (simp; done) | (simp [*]; done)), H', ⟨by first | omega | exact Nat.le_refl _⟩, ⟨by (with_reducible repeat (first | refine blk_drewN ?_ _ | refine blk_drew ?_ | refine blk_alloc ?_ _)); exact BK355.out⟩, ⟨by repeat (first | (with_reducible first | exact HB.out | apply below_alloc | apply pw_below_drewN | apply below_drew1 | refine below_set ?_ GE355.out) | exact HB.out)⟩⟩
    replace c19 := Bool.eq_false_iff.mpr c19
    subst c19
    have H1 : ((impl_KeepDays.f k t347).bind fun t360 => (laws_FnKept.j0 k l0 t354 t356 (decide (t360 < 1)) t346 t347 t348 t349 t350 t351 t352 t353)) = some r := by rw [if_neg (show ¬ (false = true) by decide)] at H; exact H
    clear H
    have H := H1
    clear H1
    replace H := Option.bind_eq_some_iff.mp H
    obtain ⟨t360, A260, H⟩ := H
    replace H : (laws_FnKept.j0 k l0 t354 t356 (decide (t360 < 1)) t346 t347 t348 t349 t350 t351 t352 t353) = some r := H
    have A26 := Aside0.mk A260
    clear A260
    have H' := Aside0.mk H
    clear H
    have hcz27_0 : w10.cell? ⟨gb355, 0, none⟩ = some (.int .i64 t346) := (blk_cell BK355.out 0).trans rfl
    have hcz27_1 : w10.cell? ⟨gb355, 1, none⟩ = some (.int .i64 t347) := (blk_cell BK355.out 1).trans rfl
    have hcz27_2 : w10.cell? ⟨gb355, 2, none⟩ = some (.int .i64 t348) := (blk_cell BK355.out 2).trans rfl
    have hcz27_3 : w10.cell? ⟨gb355, 3, none⟩ = some (.int .i64 t349) := (blk_cell BK355.out 3).trans rfl
    have hcz27_4 : w10.cell? ⟨gb355, 4, none⟩ = some (.int .i64 t350) := (blk_cell BK355.out 4).trans rfl
    have hcz27_5 : w10.cell? ⟨gb355, 5, none⟩ = some (.int .i64 t351) := (blk_cell BK355.out 5).trans rfl
    have hcz27_6 : w10.cell? ⟨gb355, 6, none⟩ = some (.int .i64 t352) := (blk_cell BK355.out 6).trans rfl
    have hcz27_7 : w10.cell? ⟨gb355, 7, none⟩ = some (.int .i64 t353) := (blk_cell BK355.out 7).trans rfl
    have hfz27_0 := blk_frozen BK355.out 0
    have hfz27_1 := blk_frozen BK355.out 1
    have hfz27_2 := blk_frozen BK355.out 2
    have hfz27_3 := blk_frozen BK355.out 3
    have hfz27_4 := blk_frozen BK355.out 4
    have hfz27_5 := blk_frozen BK355.out 5
    have hfz27_6 := blk_frozen BK355.out 6
    have hfz27_7 := blk_frozen BK355.out 7
    go_wp2_with (first | ((with_reducible refine gate_callee (f := 49) rfl ?_); refine goesL_ (some 25) rfl rfl Try.func49 (by kernel_rfl) rfl #[.agg #[.int .i64 t346, .int .i64 t347, .int .i64 t348, .int .i64 t349, .int .i64 t350, .int .i64 t351, .int .i64 t352, .int .i64 t353]] rfl (by (try simp only [List.map_toArray, List.map_cons, List.map_nil]); first | done | rfl | (simp only [List.length_drop, List.length_take]; rfl)) ?_; (with_reducible refine (impl_IsFind.calls t346 t347 t348 t349 t350 t351 t352 t353 t357 _ A11.out).mono ?_); rintro e w28 ⟨rfl, hb⟩; refine ⟨_, rfl, ?_⟩; have n0_ := Aside0.mk (blk_below (g := gb355) (o := .cells #[.int .i64 t346, .int .i64 t347, .int .i64 t348, .int .i64 t349, .int .i64 t350, .int .i64 t351, .int .i64 t352, .int .i64 t353] 68 (0, 0)) (by (with_reducible repeat (first | refine blk_drewN ?_ _ | refine blk_drew ?_ | refine blk_alloc ?_ _)); exact BK355.out) hb); have n1_ := Aside0.mk (below_step (by repeat (first | (with_reducible first | exact HB.out | apply below_alloc | apply pw_below_drewN | apply below_drew1 | refine below_set ?_ GE355.out) | exact HB.out)) hb); clear BK355; clear HB; have BK355 := n0_; have HB := n1_; clear n0_ n1_; (try clear hb); (try clear hb2); (try clear hk); (try clear hi); have hcz29_0 : w28.cell? ⟨gb355, 0, none⟩ = some (.int .i64 t346) := (blk_cell BK355.out 0).trans rfl; have hcz29_1 : w28.cell? ⟨gb355, 1, none⟩ = some (.int .i64 t347) := (blk_cell BK355.out 1).trans rfl; have hcz29_2 : w28.cell? ⟨gb355, 2, none⟩ = some (.int .i64 t348) := (blk_cell BK355.out 2).trans rfl; have hcz29_3 : w28.cell? ⟨gb355, 3, none⟩ = some (.int .i64 t349) := (blk_cell BK355.out 3).trans rfl; have hcz29_4 : w28.cell? ⟨gb355, 4, none⟩ = some (.int .i64 t350) := (blk_cell BK355.out 4).trans rfl; have hcz29_5 : w28.cell? ⟨gb355, 5, none⟩ = some (.int .i64 t351) := (blk_cell BK355.out 5).trans rfl; have hcz29_6 : w28.cell? ⟨gb355, 6, none⟩ = some (.int .i64 t352) := (blk_cell BK355.out 6).trans rfl; have hcz29_7 : w28.cell? ⟨gb355, 7, none⟩ = some (.int .i64 t353) := (blk_cell BK355.out 7).trans rfl; have hfz29_0 := blk_frozen BK355.out 0; have hfz29_1 := blk_frozen BK355.out 1; have hfz29_2 := blk_frozen BK355.out 2; have hfz29_3 := blk_frozen BK355.out 3; have hfz29_4 := blk_frozen BK355.out 4; have hfz29_5 := blk_frozen BK355.out 5; have hfz29_6 := blk_frozen BK355.out 6; have hfz29_7 := blk_frozen BK355.out 7) | (go_at_call 50; (with_reducible refine (impl_IsDue.calls k t346 t347 t348 t349 t350 t351 t352 t353 t356 true _ A16.out).mono ?_); rintro e w30 ⟨rfl, hb⟩; have n0_ := Aside0.mk (blk_below (g := gb355) (o := .cells #[.int .i64 t346, .int .i64 t347, .int .i64 t348, .int .i64 t349, .int .i64 t350, .int .i64 t351, .int .i64 t352, .int .i64 t353] 68 (0, 0)) (by (with_reducible repeat (first | refine blk_drewN ?_ _ | refine blk_drew ?_ | refine blk_alloc ?_ _)); exact BK355.out) hb); have n1_ := Aside0.mk (below_step (by repeat (first | (with_reducible first | exact HB.out | apply below_alloc | apply pw_below_drewN | apply below_drew1 | refine below_set ?_ GE355.out) | exact HB.out)) hb); clear BK355; clear HB; have BK355 := n0_; have HB := n1_; clear n0_ n1_; (try clear hb); (try clear hb2); (try clear hk); (try clear hi); have hcz31_0 : w30.cell? ⟨gb355, 0, none⟩ = some (.int .i64 t346) := (blk_cell BK355.out 0).trans rfl; have hcz31_1 : w30.cell? ⟨gb355, 1, none⟩ = some (.int .i64 t347) := (blk_cell BK355.out 1).trans rfl; have hcz31_2 : w30.cell? ⟨gb355, 2, none⟩ = some (.int .i64 t348) := (blk_cell BK355.out 2).trans rfl; have hcz31_3 : w30.cell? ⟨gb355, 3, none⟩ = some (.int .i64 t349) := (blk_cell BK355.out 3).trans rfl; have hcz31_4 : w30.cell? ⟨gb355, 4, none⟩ = some (.int .i64 t350) := (blk_cell BK355.out 4).trans rfl; have hcz31_5 : w30.cell? ⟨gb355, 5, none⟩ = some (.int .i64 t351) := (blk_cell BK355.out 5).trans rfl; have hcz31_6 : w30.cell? ⟨gb355, 6, none⟩ = some (.int .i64 t352) := (blk_cell BK355.out 6).trans rfl; have hcz31_7 : w30.cell? ⟨gb355, 7, none⟩ = some (.int .i64 t353) := (blk_cell BK355.out 7).trans rfl; have hfz31_0 := blk_frozen BK355.out 0; have hfz31_1 := blk_frozen BK355.out 1; have hfz31_2 := blk_frozen BK355.out 2; have hfz31_3 := blk_frozen BK355.out 3; have hfz31_4 := blk_frozen BK355.out 4; have hfz31_5 := blk_frozen BK355.out 5; have hfz31_6 := blk_frozen BK355.out 6; have hfz31_7 := blk_frozen BK355.out 7) | (go_at_call 50; (with_reducible refine (impl_IsDue.calls k t346 t347 t348 t349 t350 t351 t352 t353 (wrap64 (t356 - 1)) false _ A18.out).mono ?_); rintro e w32 ⟨rfl, hb⟩; have n0_ := Aside0.mk (blk_below (g := gb355) (o := .cells #[.int .i64 t346, .int .i64 t347, .int .i64 t348, .int .i64 t349, .int .i64 t350, .int .i64 t351, .int .i64 t352, .int .i64 t353] 68 (0, 0)) (by (with_reducible repeat (first | refine blk_drewN ?_ _ | refine blk_drew ?_ | refine blk_alloc ?_ _)); exact BK355.out) hb); have n1_ := Aside0.mk (below_step (by repeat (first | (with_reducible first | exact HB.out | apply below_alloc | apply pw_below_drewN | apply below_drew1 | refine below_set ?_ GE355.out) | exact HB.out)) hb); clear BK355; clear HB; have BK355 := n0_; have HB := n1_; clear n0_ n1_; (try clear hb); (try clear hb2); (try clear hk); (try clear hi); have hcz33_0 : w32.cell? ⟨gb355, 0, none⟩ = some (.int .i64 t346) := (blk_cell BK355.out 0).trans rfl; have hcz33_1 : w32.cell? ⟨gb355, 1, none⟩ = some (.int .i64 t347) := (blk_cell BK355.out 1).trans rfl; have hcz33_2 : w32.cell? ⟨gb355, 2, none⟩ = some (.int .i64 t348) := (blk_cell BK355.out 2).trans rfl; have hcz33_3 : w32.cell? ⟨gb355, 3, none⟩ = some (.int .i64 t349) := (blk_cell BK355.out 3).trans rfl; have hcz33_4 : w32.cell? ⟨gb355, 4, none⟩ = some (.int .i64 t350) := (blk_cell BK355.out 4).trans rfl; have hcz33_5 : w32.cell? ⟨gb355, 5, none⟩ = some (.int .i64 t351) := (blk_cell BK355.out 5).trans rfl; have hcz33_6 : w32.cell? ⟨gb355, 6, none⟩ = some (.int .i64 t352) := (blk_cell BK355.out 6).trans rfl; have hcz33_7 : w32.cell? ⟨gb355, 7, none⟩ = some (.int .i64 t353) := (blk_cell BK355.out 7).trans rfl; have hfz33_0 := blk_frozen BK355.out 0; have hfz33_1 := blk_frozen BK355.out 1; have hfz33_2 := blk_frozen BK355.out 2; have hfz33_3 := blk_frozen BK355.out 3; have hfz33_4 := blk_frozen BK355.out 4; have hfz33_5 := blk_frozen BK355.out 5; have hfz33_6 := blk_frozen BK355.out 6; have hfz33_7 := blk_frozen BK355.out 7) | (go_at_call 51; (with_reducible refine (impl_KeepDays.calls k t347 t360 _ A26.out).mono ?_); rintro e w' ⟨rfl, ⟨nd, rfl⟩⟩))
    go_meet
    case rel => exact ⟨_, (decide (t360 < 1)), (by first | rfl | (simp; done) | (simp [*]; done)), H', ⟨by first | omega | exact Nat.le_refl _⟩, ⟨by (with_reducible repeat (first | refine blk_drewN ?_ _ | refine blk_drew ?_ | refine blk_alloc ?_ _)); exact BK355.out⟩, ⟨by repeat (first | (with_reducible first | exact HB.out | apply below_alloc | apply pw_below_drewN | apply below_drew1 | refine below_set ?_ GE355.out) | exact HB.out)⟩⟩
  case rest =>
    clear HC6
    try clear c1
    try clear p2
    try clear c3
    try clear c4
    try clear p6
    try clear c9
    try clear c12
    try clear c12b0
    try clear c12b1
    try clear c12b2
    try clear c15
    try clear c15b0
    try clear c17
    try clear c19
    try clear c32
    try clear hcz13_0
    try clear hcz13_1
    try clear hcz13_2
    try clear hcz13_3
    try clear hcz13_4
    try clear hcz13_5
    try clear hcz13_6
    try clear hcz13_7
    try clear hcz20_0
    try clear hcz20_1
    try clear hcz20_2
    try clear hcz20_3
    try clear hcz20_4
    try clear hcz20_5
    try clear hcz20_6
    try clear hcz20_7
    try clear hcz22_0
    try clear hcz22_1
    try clear hcz22_2
    try clear hcz22_3
    try clear hcz22_4
    try clear hcz22_5
    try clear hcz22_6
    try clear hcz22_7
    try clear hcz24_0
    try clear hcz24_1
    try clear hcz24_2
    try clear hcz24_3
    try clear hcz24_4
    try clear hcz24_5
    try clear hcz24_6
    try clear hcz24_7
    try clear hcz27_0
    try clear hcz27_1
    try clear hcz27_2
    try clear hcz27_3
    try clear hcz27_4
    try clear hcz27_5
    try clear hcz27_6
    try clear hcz27_7
    try clear hcz29_0
    try clear hcz29_1
    try clear hcz29_2
    try clear hcz29_3
    try clear hcz29_4
    try clear hcz29_5
    try clear hcz29_6
    try clear hcz29_7
    try clear hcz31_0
    try clear hcz31_1
    try clear hcz31_2
    try clear hcz31_3
    try clear hcz31_4
    try clear hcz31_5
    try clear hcz31_6
    try clear hcz31_7
    try clear hcz33_0
    try clear hcz33_1
    try clear hcz33_2
    try clear hcz33_3
    try clear hcz33_4
    try clear hcz33_5
    try clear hcz33_6
    try clear hcz33_7
    try clear hcz34_0
    try clear hcz34_1
    try clear hcz34_2
    try clear hcz34_3
    try clear hcz34_4
    try clear hcz34_5
    try clear hcz34_6
    try clear hcz34_7
    try clear hcz36_0
    try clear hcz36_1
    try clear hcz36_2
    try clear hcz36_3
    try clear hcz36_4
    try clear hcz36_5
    try clear hcz36_6
    try clear hcz36_7
    try clear hcz38_0
    try clear hcz38_1
    try clear hcz38_2
    try clear hcz38_3
    try clear hcz38_4
    try clear hcz38_5
    try clear hcz38_6
    try clear hcz38_7
    try clear hcz9_0
    try clear hcz9_1
    try clear hcz9_2
    try clear hcz9_3
    try clear hcz9_4
    try clear hcz9_5
    try clear hcz9_6
    try clear hcz9_7
    try clear hfz13_0
    try clear hfz13_1
    try clear hfz13_2
    try clear hfz13_3
    try clear hfz13_4
    try clear hfz13_5
    try clear hfz13_6
    try clear hfz13_7
    try clear hfz20_0
    try clear hfz20_1
    try clear hfz20_2
    try clear hfz20_3
    try clear hfz20_4
    try clear hfz20_5
    try clear hfz20_6
    try clear hfz20_7
    try clear hfz22_0
    try clear hfz22_1
    try clear hfz22_2
    try clear hfz22_3
    try clear hfz22_4
    try clear hfz22_5
    try clear hfz22_6
    try clear hfz22_7
    try clear hfz24_0
    try clear hfz24_1
    try clear hfz24_2
    try clear hfz24_3
    try clear hfz24_4
    try clear hfz24_5
    try clear hfz24_6
    try clear hfz24_7
    try clear hfz27_0
    try clear hfz27_1
    try clear hfz27_2
    try clear hfz27_3
    try clear hfz27_4
    try clear hfz27_5
    try clear hfz27_6
    try clear hfz27_7
    try clear hfz29_0
    try clear hfz29_1
    try clear hfz29_2
    try clear hfz29_3
    try clear hfz29_4
    try clear hfz29_5
    try clear hfz29_6
    try clear hfz29_7
    try clear hfz31_0
    try clear hfz31_1
    try clear hfz31_2
    try clear hfz31_3
    try clear hfz31_4
    try clear hfz31_5
    try clear hfz31_6
    try clear hfz31_7
    try clear hfz33_0
    try clear hfz33_1
    try clear hfz33_2
    try clear hfz33_3
    try clear hfz33_4
    try clear hfz33_5
    try clear hfz33_6
    try clear hfz33_7
    try clear hfz34_0
    try clear hfz34_1
    try clear hfz34_2
    try clear hfz34_3
    try clear hfz34_4
    try clear hfz34_5
    try clear hfz34_6
    try clear hfz34_7
    try clear hfz36_0
    try clear hfz36_1
    try clear hfz36_2
    try clear hfz36_3
    try clear hfz36_4
    try clear hfz36_5
    try clear hfz36_6
    try clear hfz36_7
    try clear hfz38_0
    try clear hfz38_1
    try clear hfz38_2
    try clear hfz38_3
    try clear hfz38_4
    try clear hfz38_5
    try clear hfz38_6
    try clear hfz38_7
    try clear hfz9_0
    try clear hfz9_1
    try clear hfz9_2
    try clear hfz9_3
    try clear hfz9_4
    try clear hfz9_5
    try clear hfz9_6
    try clear hfz9_7
    obtain ⟨kq, x49_5, rfl, HA, HJ5, BK355, HB⟩ := hcut
    cases kq with
    | zero => exact absurd HA.out (by simp [laws_FnKept.j0])
    | succ kj5 =>
      have H := HA.out
      clear HA
      simp only [laws_FnKept.j0] at H
      by_cases c40 : x49_5 = true
      · subst c40
        have H1 : (some false) = some r := by rw [if_pos rfl] at H; exact H
        clear H
        have H := H1
        clear H1
        obtain rfl := Option.some.inj H
        go_wp2
        go_ret
        exact ⟨by first | rfl | (simp [errW_none, errW_some] <;> rfl) | (simp [*, errW_none, errW_some] <;> rfl), by repeat (first | (with_reducible first | exact HB.out | apply below_alloc | apply pw_below_drewN | apply below_drew1 | refine below_set ?_ GE355.out) | exact HB.out)⟩
      replace c40 := Bool.eq_false_iff.mpr c40
      subst c40
      have H1 : ((impl_DaysLeft.f kj5 t346 t347 t348 t349 t350 t351 t352 t353 t354).bind fun t361 => (if t361 > 0 then ((impl_IsDue.f kj5 t346 t347 t348 t349 t350 t351 t352 t353 t354).bind fun t362 => (if t362 = true then (laws_FnKept.j1 kj5 l0 true) else (if (wrap64 (t354 + (wrap64 (24 * t361)))) < t356 then (laws_FnKept.j1 kj5 l0 true) else (laws_FnKept.j1 kj5 l0 (decide ((wrap64 (t354 + (wrap64 (24 * (wrap64 (t361 - 1)))))) ≥ t356)))))) else (laws_FnKept.j1 kj5 l0 false))) = some r := by rw [if_neg (show ¬ (false = true) by decide)] at H; exact H
      clear H
      have H := H1
      clear H1
      replace H := Option.bind_eq_some_iff.mp H
      obtain ⟨t361, A410, H⟩ := H
      replace H : (if t361 > 0 then ((impl_IsDue.f kj5 t346 t347 t348 t349 t350 t351 t352 t353 t354).bind fun t362 => (if t362 = true then (laws_FnKept.j1 kj5 l0 true) else (if (wrap64 (t354 + (wrap64 (24 * t361)))) < t356 then (laws_FnKept.j1 kj5 l0 true) else (laws_FnKept.j1 kj5 l0 (decide ((wrap64 (t354 + (wrap64 (24 * (wrap64 (t361 - 1)))))) ≥ t356)))))) else (laws_FnKept.j1 kj5 l0 false)) = some r := H
      have A41 := Aside0.mk A410
      clear A410
      have HC42 := Aside0.mk H
      clear H
      have hcz43_0 : wc.cell? ⟨gb355, 0, none⟩ = some (.int .i64 t346) := (blk_cell BK355.out 0).trans rfl
      have hcz43_1 : wc.cell? ⟨gb355, 1, none⟩ = some (.int .i64 t347) := (blk_cell BK355.out 1).trans rfl
      have hcz43_2 : wc.cell? ⟨gb355, 2, none⟩ = some (.int .i64 t348) := (blk_cell BK355.out 2).trans rfl
      have hcz43_3 : wc.cell? ⟨gb355, 3, none⟩ = some (.int .i64 t349) := (blk_cell BK355.out 3).trans rfl
      have hcz43_4 : wc.cell? ⟨gb355, 4, none⟩ = some (.int .i64 t350) := (blk_cell BK355.out 4).trans rfl
      have hcz43_5 : wc.cell? ⟨gb355, 5, none⟩ = some (.int .i64 t351) := (blk_cell BK355.out 5).trans rfl
      have hcz43_6 : wc.cell? ⟨gb355, 6, none⟩ = some (.int .i64 t352) := (blk_cell BK355.out 6).trans rfl
      have hcz43_7 : wc.cell? ⟨gb355, 7, none⟩ = some (.int .i64 t353) := (blk_cell BK355.out 7).trans rfl
      have hfz43_0 := blk_frozen BK355.out 0
      have hfz43_1 := blk_frozen BK355.out 1
      have hfz43_2 := blk_frozen BK355.out 2
      have hfz43_3 := blk_frozen BK355.out 3
      have hfz43_4 := blk_frozen BK355.out 4
      have hfz43_5 := blk_frozen BK355.out 5
      have hfz43_6 := blk_frozen BK355.out 6
      have hfz43_7 := blk_frozen BK355.out 7
      go_upto_region 8 with (first | ((with_reducible refine gate_callee (f := 52) rfl ?_); refine goesL_ (some 52) rfl rfl Try.func52 (by kernel_rfl) rfl #[.agg #[.int .i64 t346, .int .i64 t347, .int .i64 t348, .int .i64 t349, .int .i64 t350, .int .i64 t351, .int .i64 t352, .int .i64 t353], .int .i64 t354] rfl (by (try simp only [List.map_toArray, List.map_cons, List.map_nil]); first | done | rfl | (simp only [List.length_drop, List.length_take]; rfl)) ?_; (with_reducible refine (impl_DaysLeft.calls kj5 t346 t347 t348 t349 t350 t351 t352 t353 t354 t361 _ A41.out).mono ?_); rintro e w44 ⟨rfl, hb⟩; refine ⟨_, rfl, ?_⟩; have n0_ := Aside0.mk (blk_below (g := gb355) (o := .cells #[.int .i64 t346, .int .i64 t347, .int .i64 t348, .int .i64 t349, .int .i64 t350, .int .i64 t351, .int .i64 t352, .int .i64 t353] 68 (0, 0)) (by (with_reducible repeat (first | refine blk_drewN ?_ _ | refine blk_drew ?_ | refine blk_alloc ?_ _)); exact BK355.out) hb); have n1_ := Aside0.mk (below_step (by repeat (first | (with_reducible first | exact HB.out | apply below_alloc | apply pw_below_drewN | apply below_drew1 | refine below_set ?_ GE355.out) | exact HB.out)) hb); clear BK355; clear HB; have BK355 := n0_; have HB := n1_; clear n0_ n1_; (try clear hb); (try clear hb2); (try clear hk); (try clear hi)))
      (try simp only [Act.put, List.setIfInBounds_toArray, List.set_cons_zero, List.set_cons_succ])
      go_cut [76] (fun v76 wc => ∃ (kq : Nat) (x76_41 : Bool), v76 = .bool x76_41 ∧ Aside0 (laws_FnKept.j1 kq l0 x76_41 = some r) ∧ Aside0 (kq ≤ kj5) ∧ Aside0 (wc.heap[gb355]? = some (.cells #[.int .i64 t346, .int .i64 t347, .int .i64 t348, .int .i64 t349, .int .i64 t350, .int .i64 t351, .int .i64 t352, .int .i64 t353] 68 (0, 0))) ∧ Aside0 (Below w.heap.size w wc))
      case first =>
        have H := HC42.out
        clear HC42
        by_cases c45 : t361 > 0
        rotate_left
        · rw [if_neg c45] at H
          have c45b0 : decide (0 < t361) = false := decide_eq_false c45
          clear c45
          (first | rw [c45b0] | rw [c45b1] | (simp only [i64_w, i32_w]; rw [c45b0]) | skip)
          have H' := Aside0.mk H
          clear H
          go_wp2
          go_meet
          case rel => exact ⟨_, (false), (by first | rfl | (simp; done) | (simp [*]; done)), H', ⟨by have := HJ5.out; first | omega | exact Nat.le_refl _⟩, ⟨by (with_reducible repeat (first | refine blk_drewN ?_ _ | refine blk_drew ?_ | refine blk_alloc ?_ _)); exact BK355.out⟩, ⟨by repeat (first | (with_reducible first | exact HB.out | apply below_alloc | apply pw_below_drewN | apply below_drew1 | refine below_set ?_ GE355.out) | exact HB.out)⟩⟩
        rw [if_pos c45] at H
        have c45b0 : decide (0 < t361) = true := decide_eq_true c45
        clear c45
        (first | rw [c45b0] | rw [c45b1] | (simp only [i64_w, i32_w]; rw [c45b0]) | skip)
        replace H := Option.bind_eq_some_iff.mp H
        obtain ⟨t362, A460, H⟩ := H
        replace H : (if t362 = true then (laws_FnKept.j1 kj5 l0 true) else (if (wrap64 (t354 + (wrap64 (24 * t361)))) < t356 then (laws_FnKept.j1 kj5 l0 true) else (laws_FnKept.j1 kj5 l0 (decide ((wrap64 (t354 + (wrap64 (24 * (wrap64 (t361 - 1)))))) ≥ t356))))) = some r := H
        have A46 := Aside0.mk A460
        clear A460
        by_cases c47 : t362 = true
        · subst c47
          have H1 : (laws_FnKept.j1 kj5 l0 true) = some r := by rw [if_pos rfl] at H; exact H
          clear H
          have H := H1
          clear H1
          have H' := Aside0.mk H
          clear H
          have hcz48_0 : w44.cell? ⟨gb355, 0, none⟩ = some (.int .i64 t346) := (blk_cell BK355.out 0).trans rfl
          have hcz48_1 : w44.cell? ⟨gb355, 1, none⟩ = some (.int .i64 t347) := (blk_cell BK355.out 1).trans rfl
          have hcz48_2 : w44.cell? ⟨gb355, 2, none⟩ = some (.int .i64 t348) := (blk_cell BK355.out 2).trans rfl
          have hcz48_3 : w44.cell? ⟨gb355, 3, none⟩ = some (.int .i64 t349) := (blk_cell BK355.out 3).trans rfl
          have hcz48_4 : w44.cell? ⟨gb355, 4, none⟩ = some (.int .i64 t350) := (blk_cell BK355.out 4).trans rfl
          have hcz48_5 : w44.cell? ⟨gb355, 5, none⟩ = some (.int .i64 t351) := (blk_cell BK355.out 5).trans rfl
          have hcz48_6 : w44.cell? ⟨gb355, 6, none⟩ = some (.int .i64 t352) := (blk_cell BK355.out 6).trans rfl
          have hcz48_7 : w44.cell? ⟨gb355, 7, none⟩ = some (.int .i64 t353) := (blk_cell BK355.out 7).trans rfl
          have hfz48_0 := blk_frozen BK355.out 0
          have hfz48_1 := blk_frozen BK355.out 1
          have hfz48_2 := blk_frozen BK355.out 2
          have hfz48_3 := blk_frozen BK355.out 3
          have hfz48_4 := blk_frozen BK355.out 4
          have hfz48_5 := blk_frozen BK355.out 5
          have hfz48_6 := blk_frozen BK355.out 6
          have hfz48_7 := blk_frozen BK355.out 7
          go_wp2_with (first | (go_at_call 50; (with_reducible refine (impl_IsDue.calls kj5 t346 t347 t348 t349 t350 t351 t352 t353 t354 true _ A46.out).mono ?_); rintro e w49 ⟨rfl, hb⟩; have n0_ := Aside0.mk (blk_below (g := gb355) (o := .cells #[.int .i64 t346, .int .i64 t347, .int .i64 t348, .int .i64 t349, .int .i64 t350, .int .i64 t351, .int .i64 t352, .int .i64 t353] 68 (0, 0)) (by (with_reducible repeat (first | refine blk_drewN ?_ _ | refine blk_drew ?_ | refine blk_alloc ?_ _)); exact BK355.out) hb); have n1_ := Aside0.mk (below_step (by repeat (first | (with_reducible first | exact HB.out | apply below_alloc | apply pw_below_drewN | apply below_drew1 | refine below_set ?_ GE355.out) | exact HB.out)) hb); clear BK355; clear HB; have BK355 := n0_; have HB := n1_; clear n0_ n1_; (try clear hb); (try clear hb2); (try clear hk); (try clear hi)))
          go_meet
          case rel => exact ⟨_, (true), (by first | rfl | (simp; done) | (simp [*]; done)), H', ⟨by have := HJ5.out; first | omega | exact Nat.le_refl _⟩, ⟨by (with_reducible repeat (first | refine blk_drewN ?_ _ | refine blk_drew ?_ | refine blk_alloc ?_ _)); exact BK355.out⟩, ⟨by repeat (first | (with_reducible first | exact HB.out | apply below_alloc | apply pw_below_drewN | apply below_drew1 | refine below_set ?_ GE355.out) | exact HB.out)⟩⟩
        replace c47 := Bool.eq_false_iff.mpr c47
        subst c47
        have H1 : (if (wrap64 (t354 + (wrap64 (24 * t361)))) < t356 then (laws_FnKept.j1 kj5 l0 true) else (laws_FnKept.j1 kj5 l0 (decide ((wrap64 (t354 + (wrap64 (24 * (wrap64 (t361 - 1)))))) ≥ t356)))) = some r := by rw [if_neg (show ¬ (false = true) by decide)] at H; exact H
        clear H
        have H := H1
        clear H1
        by_cases c50 : (wrap64 (t354 + (wrap64 (24 * t361)))) < t356
        · rw [if_pos c50] at H
          have c50b0 : decide ((wrap64 (t354 + (wrap64 (24 * t361)))) < t356) = true := decide_eq_true c50
          clear c50
          have H' := Aside0.mk H
          clear H
          have hcz51_0 : w44.cell? ⟨gb355, 0, none⟩ = some (.int .i64 t346) := (blk_cell BK355.out 0).trans rfl
          have hcz51_1 : w44.cell? ⟨gb355, 1, none⟩ = some (.int .i64 t347) := (blk_cell BK355.out 1).trans rfl
          have hcz51_2 : w44.cell? ⟨gb355, 2, none⟩ = some (.int .i64 t348) := (blk_cell BK355.out 2).trans rfl
          have hcz51_3 : w44.cell? ⟨gb355, 3, none⟩ = some (.int .i64 t349) := (blk_cell BK355.out 3).trans rfl
          have hcz51_4 : w44.cell? ⟨gb355, 4, none⟩ = some (.int .i64 t350) := (blk_cell BK355.out 4).trans rfl
          have hcz51_5 : w44.cell? ⟨gb355, 5, none⟩ = some (.int .i64 t351) := (blk_cell BK355.out 5).trans rfl
          have hcz51_6 : w44.cell? ⟨gb355, 6, none⟩ = some (.int .i64 t352) := (blk_cell BK355.out 6).trans rfl
          have hcz51_7 : w44.cell? ⟨gb355, 7, none⟩ = some (.int .i64 t353) := (blk_cell BK355.out 7).trans rfl
          have hfz51_0 := blk_frozen BK355.out 0
          have hfz51_1 := blk_frozen BK355.out 1
          have hfz51_2 := blk_frozen BK355.out 2
          have hfz51_3 := blk_frozen BK355.out 3
          have hfz51_4 := blk_frozen BK355.out 4
          have hfz51_5 := blk_frozen BK355.out 5
          have hfz51_6 := blk_frozen BK355.out 6
          have hfz51_7 := blk_frozen BK355.out 7
          go_wp2_with (first | (go_at_call 50; (with_reducible refine (impl_IsDue.calls kj5 t346 t347 t348 t349 t350 t351 t352 t353 t354 false _ A46.out).mono ?_); rintro e w52 ⟨rfl, hb⟩; have n0_ := Aside0.mk (blk_below (g := gb355) (o := .cells #[.int .i64 t346, .int .i64 t347, .int .i64 t348, .int .i64 t349, .int .i64 t350, .int .i64 t351, .int .i64 t352, .int .i64 t353] 68 (0, 0)) (by (with_reducible repeat (first | refine blk_drewN ?_ _ | refine blk_drew ?_ | refine blk_alloc ?_ _)); exact BK355.out) hb); have n1_ := Aside0.mk (below_step (by repeat (first | (with_reducible first | exact HB.out | apply below_alloc | apply pw_below_drewN | apply below_drew1 | refine below_set ?_ GE355.out) | exact HB.out)) hb); clear BK355; clear HB; have BK355 := n0_; have HB := n1_; clear n0_ n1_; (try clear hb); (try clear hb2); (try clear hk); (try clear hi)))
          go_meet
          case rel => exact ⟨_, (true), (by first | rfl | (simp; done) | (simp [*]; done)), H', ⟨by have := HJ5.out; first | omega | exact Nat.le_refl _⟩, ⟨by (with_reducible repeat (first | refine blk_drewN ?_ _ | refine blk_drew ?_ | refine blk_alloc ?_ _)); exact BK355.out⟩, ⟨by repeat (first | (with_reducible first | exact HB.out | apply below_alloc | apply pw_below_drewN | apply below_drew1 | refine below_set ?_ GE355.out) | exact HB.out)⟩⟩
        rw [if_neg c50] at H
        have c50b0 : decide ((wrap64 (t354 + (wrap64 (24 * t361)))) < t356) = false := decide_eq_false c50
        clear c50
        have H' := Aside0.mk H
        clear H
        have hcz53_0 : w44.cell? ⟨gb355, 0, none⟩ = some (.int .i64 t346) := (blk_cell BK355.out 0).trans rfl
        have hcz53_1 : w44.cell? ⟨gb355, 1, none⟩ = some (.int .i64 t347) := (blk_cell BK355.out 1).trans rfl
        have hcz53_2 : w44.cell? ⟨gb355, 2, none⟩ = some (.int .i64 t348) := (blk_cell BK355.out 2).trans rfl
        have hcz53_3 : w44.cell? ⟨gb355, 3, none⟩ = some (.int .i64 t349) := (blk_cell BK355.out 3).trans rfl
        have hcz53_4 : w44.cell? ⟨gb355, 4, none⟩ = some (.int .i64 t350) := (blk_cell BK355.out 4).trans rfl
        have hcz53_5 : w44.cell? ⟨gb355, 5, none⟩ = some (.int .i64 t351) := (blk_cell BK355.out 5).trans rfl
        have hcz53_6 : w44.cell? ⟨gb355, 6, none⟩ = some (.int .i64 t352) := (blk_cell BK355.out 6).trans rfl
        have hcz53_7 : w44.cell? ⟨gb355, 7, none⟩ = some (.int .i64 t353) := (blk_cell BK355.out 7).trans rfl
        have hfz53_0 := blk_frozen BK355.out 0
        have hfz53_1 := blk_frozen BK355.out 1
        have hfz53_2 := blk_frozen BK355.out 2
        have hfz53_3 := blk_frozen BK355.out 3
        have hfz53_4 := blk_frozen BK355.out 4
        have hfz53_5 := blk_frozen BK355.out 5
        have hfz53_6 := blk_frozen BK355.out 6
        have hfz53_7 := blk_frozen BK355.out 7
        go_wp2_with (first | (go_at_call 50; (with_reducible refine (impl_IsDue.calls kj5 t346 t347 t348 t349 t350 t351 t352 t353 t354 false _ A46.out).mono ?_); rintro e w54 ⟨rfl, hb⟩; have n0_ := Aside0.mk (blk_below (g := gb355) (o := .cells #[.int .i64 t346, .int .i64 t347, .int .i64 t348, .int .i64 t349, .int .i64 t350, .int .i64 t351, .int .i64 t352, .int .i64 t353] 68 (0, 0)) (by (with_reducible repeat (first | refine blk_drewN ?_ _ | refine blk_drew ?_ | refine blk_alloc ?_ _)); exact BK355.out) hb); have n1_ := Aside0.mk (below_step (by repeat (first | (with_reducible first | exact HB.out | apply below_alloc | apply pw_below_drewN | apply below_drew1 | refine below_set ?_ GE355.out) | exact HB.out)) hb); clear BK355; clear HB; have BK355 := n0_; have HB := n1_; clear n0_ n1_; (try clear hb); (try clear hb2); (try clear hk); (try clear hi)))
        go_meet
        case rel => exact ⟨_, (decide ((wrap64 (t354 + (wrap64 (24 * (wrap64 (t361 - 1)))))) ≥ t356)), (by first | rfl | (simp; done) | (simp [*]; done)), H', ⟨by have := HJ5.out; first | omega | exact Nat.le_refl _⟩, ⟨by (with_reducible repeat (first | refine blk_drewN ?_ _ | refine blk_drew ?_ | refine blk_alloc ?_ _)); exact BK355.out⟩, ⟨by repeat (first | (with_reducible first | exact HB.out | apply below_alloc | apply pw_below_drewN | apply below_drew1 | refine below_set ?_ GE355.out) | exact HB.out)⟩⟩
      case rest =>
        clear HC42
        try clear c1
        try clear p2
        try clear c3
        try clear c4
        try clear c5
        try clear p6
        try clear c9
        try clear c12
        try clear c12b0
        try clear c12b1
        try clear c12b2
        try clear c15
        try clear c15b0
        try clear c17
        try clear c19
        try clear c32
        try clear c40
        try clear c45
        try clear c45b0
        try clear c47
        try clear c48
        try clear c49
        try clear c50
        try clear c50b0
        try clear c52
        try clear hcz13_0
        try clear hcz13_1
        try clear hcz13_2
        try clear hcz13_3
        try clear hcz13_4
        try clear hcz13_5
        try clear hcz13_6
        try clear hcz13_7
        try clear hcz20_0
        try clear hcz20_1
        try clear hcz20_2
        try clear hcz20_3
        try clear hcz20_4
        try clear hcz20_5
        try clear hcz20_6
        try clear hcz20_7
        try clear hcz22_0
        try clear hcz22_1
        try clear hcz22_2
        try clear hcz22_3
        try clear hcz22_4
        try clear hcz22_5
        try clear hcz22_6
        try clear hcz22_7
        try clear hcz24_0
        try clear hcz24_1
        try clear hcz24_2
        try clear hcz24_3
        try clear hcz24_4
        try clear hcz24_5
        try clear hcz24_6
        try clear hcz24_7
        try clear hcz27_0
        try clear hcz27_1
        try clear hcz27_2
        try clear hcz27_3
        try clear hcz27_4
        try clear hcz27_5
        try clear hcz27_6
        try clear hcz27_7
        try clear hcz29_0
        try clear hcz29_1
        try clear hcz29_2
        try clear hcz29_3
        try clear hcz29_4
        try clear hcz29_5
        try clear hcz29_6
        try clear hcz29_7
        try clear hcz31_0
        try clear hcz31_1
        try clear hcz31_2
        try clear hcz31_3
        try clear hcz31_4
        try clear hcz31_5
        try clear hcz31_6
        try clear hcz31_7
        try clear hcz33_0
        try clear hcz33_1
        try clear hcz33_2
        try clear hcz33_3
        try clear hcz33_4
        try clear hcz33_5
        try clear hcz33_6
        try clear hcz33_7
        try clear hcz34_0
        try clear hcz34_1
        try clear hcz34_2
        try clear hcz34_3
        try clear hcz34_4
        try clear hcz34_5
        try clear hcz34_6
        try clear hcz34_7
        try clear hcz36_0
        try clear hcz36_1
        try clear hcz36_2
        try clear hcz36_3
        try clear hcz36_4
        try clear hcz36_5
        try clear hcz36_6
        try clear hcz36_7
        try clear hcz38_0
        try clear hcz38_1
        try clear hcz38_2
        try clear hcz38_3
        try clear hcz38_4
        try clear hcz38_5
        try clear hcz38_6
        try clear hcz38_7
        try clear hcz43_0
        try clear hcz43_1
        try clear hcz43_2
        try clear hcz43_3
        try clear hcz43_4
        try clear hcz43_5
        try clear hcz43_6
        try clear hcz43_7
        try clear hcz48_0
        try clear hcz48_1
        try clear hcz48_2
        try clear hcz48_3
        try clear hcz48_4
        try clear hcz48_5
        try clear hcz48_6
        try clear hcz48_7
        try clear hcz51_0
        try clear hcz51_1
        try clear hcz51_2
        try clear hcz51_3
        try clear hcz51_4
        try clear hcz51_5
        try clear hcz51_6
        try clear hcz51_7
        try clear hcz53_0
        try clear hcz53_1
        try clear hcz53_2
        try clear hcz53_3
        try clear hcz53_4
        try clear hcz53_5
        try clear hcz53_6
        try clear hcz53_7
        try clear hcz9_0
        try clear hcz9_1
        try clear hcz9_2
        try clear hcz9_3
        try clear hcz9_4
        try clear hcz9_5
        try clear hcz9_6
        try clear hcz9_7
        try clear hfz13_0
        try clear hfz13_1
        try clear hfz13_2
        try clear hfz13_3
        try clear hfz13_4
        try clear hfz13_5
        try clear hfz13_6
        try clear hfz13_7
        try clear hfz20_0
        try clear hfz20_1
        try clear hfz20_2
        try clear hfz20_3
        try clear hfz20_4
        try clear hfz20_5
        try clear hfz20_6
        try clear hfz20_7
        try clear hfz22_0
        try clear hfz22_1
        try clear hfz22_2
        try clear hfz22_3
        try clear hfz22_4
        try clear hfz22_5
        try clear hfz22_6
        try clear hfz22_7
        try clear hfz24_0
        try clear hfz24_1
        try clear hfz24_2
        try clear hfz24_3
        try clear hfz24_4
        try clear hfz24_5
        try clear hfz24_6
        try clear hfz24_7
        try clear hfz27_0
        try clear hfz27_1
        try clear hfz27_2
        try clear hfz27_3
        try clear hfz27_4
        try clear hfz27_5
        try clear hfz27_6
        try clear hfz27_7
        try clear hfz29_0
        try clear hfz29_1
        try clear hfz29_2
        try clear hfz29_3
        try clear hfz29_4
        try clear hfz29_5
        try clear hfz29_6
        try clear hfz29_7
        try clear hfz31_0
        try clear hfz31_1
        try clear hfz31_2
        try clear hfz31_3
        try clear hfz31_4
        try clear hfz31_5
        try clear hfz31_6
        try clear hfz31_7
        try clear hfz33_0
        try clear hfz33_1
        try clear hfz33_2
        try clear hfz33_3
        try clear hfz33_4
        try clear hfz33_5
        try clear hfz33_6
        try clear hfz33_7
        try clear hfz34_0
        try clear hfz34_1
        try clear hfz34_2
        try clear hfz34_3
        try clear hfz34_4
        try clear hfz34_5
        try clear hfz34_6
        try clear hfz34_7
        try clear hfz36_0
        try clear hfz36_1
        try clear hfz36_2
        try clear hfz36_3
        try clear hfz36_4
        try clear hfz36_5
        try clear hfz36_6
        try clear hfz36_7
        try clear hfz38_0
        try clear hfz38_1
        try clear hfz38_2
        try clear hfz38_3
        try clear hfz38_4
        try clear hfz38_5
        try clear hfz38_6
        try clear hfz38_7
        try clear hfz43_0
        try clear hfz43_1
        try clear hfz43_2
        try clear hfz43_3
        try clear hfz43_4
        try clear hfz43_5
        try clear hfz43_6
        try clear hfz43_7
        try clear hfz48_0
        try clear hfz48_1
        try clear hfz48_2
        try clear hfz48_3
        try clear hfz48_4
        try clear hfz48_5
        try clear hfz48_6
        try clear hfz48_7
        try clear hfz51_0
        try clear hfz51_1
        try clear hfz51_2
        try clear hfz51_3
        try clear hfz51_4
        try clear hfz51_5
        try clear hfz51_6
        try clear hfz51_7
        try clear hfz53_0
        try clear hfz53_1
        try clear hfz53_2
        try clear hfz53_3
        try clear hfz53_4
        try clear hfz53_5
        try clear hfz53_6
        try clear hfz53_7
        try clear hfz9_0
        try clear hfz9_1
        try clear hfz9_2
        try clear hfz9_3
        try clear hfz9_4
        try clear hfz9_5
        try clear hfz9_6
        try clear hfz9_7
        try clear p2
        try clear p6
        obtain ⟨kq, x76_41, rfl, HA, HJ41, BK355, HB⟩ := hcut
        cases kq with
        | zero => exact absurd HA.out (by simp [laws_FnKept.j1])
        | succ kj41 =>
          have H := HA.out
          clear HA
          simp only [laws_FnKept.j1] at H
          by_cases c55 : x76_41 = true
          · subst c55
            have H1 : (some false) = some r := by rw [if_pos rfl] at H; exact H
            clear H
            have H := H1
            clear H1
            obtain rfl := Option.some.inj H
            go_wp2
            go_ret
            exact ⟨by first | rfl | (simp [errW_none, errW_some] <;> rfl) | (simp [*, errW_none, errW_some] <;> rfl), by repeat (first | (with_reducible first | exact HB.out | apply below_alloc | apply pw_below_drewN | apply below_drew1 | refine below_set ?_ GE355.out) | exact HB.out)⟩
          replace c55 := Bool.eq_false_iff.mpr c55
          subst c55
          have H1 : ((spec_DrawNextDue.f kj41 l0).bind fun bt363 => ((impl_NextDue.f kj41 bt363.1 bt363.2).bind fun t367 => ((impl_DueThings.f kj41 bt363.1 bt363.2).bind fun t368 => (laws_FnKept.l0 kj41 bt363.1 bt363.2 t367 t368 0)))) = some r := by rw [if_neg (show ¬ (false = true) by decide)] at H; exact H
          clear H
          have H := H1
          clear H1
          replace H := Option.bind_eq_some_iff.mp H
          obtain ⟨⟨t363, t364⟩, A560, H⟩ := H
          replace H : ((impl_NextDue.f kj41 t363 t364).bind fun t367 => ((impl_DueThings.f kj41 t363 t364).bind fun t368 => (laws_FnKept.l0 kj41 t363 t364 t367 t368 0))) = some r := H
          have A56 := Aside0.mk A560
          clear A560
          replace H := Option.bind_eq_some_iff.mp H
          obtain ⟨t367, A570, H⟩ := H
          replace H : ((impl_DueThings.f kj41 t363 t364).bind fun t368 => (laws_FnKept.l0 kj41 t363 t364 t367 t368 0)) = some r := H
          have A57 := Aside0.mk A570
          clear A570
          replace H := Option.bind_eq_some_iff.mp H
          obtain ⟨t368, A580, H⟩ := H
          replace H : (laws_FnKept.l0 kj41 t363 t364 t367 t368 0) = some r := H
          have A58 := Aside0.mk A580
          clear A580
          have H' := Aside0.mk H
          clear H
          go_wp2_with (first | ((with_reducible refine gate_callee (f := 53) rfl ?_); refine goesL_ (some 79) rfl rfl Try.func53 (by kernel_rfl) rfl #[.slice A0 l0.length c0] rfl (by (try simp only [List.map_toArray, List.map_cons, List.map_nil]); first | done | rfl | (simp only [List.length_drop, List.length_take]; rfl)) ?_; (with_reducible refine (spec_DrawNextDue.calls kj41 _ _ l0 t363 t364 _ ?side1 ?side2 A56.out).mono ?_); (case side1 => repeat (first | exact (Kd.C_below HR0.out HB.out) | (with_reducible refine Kd.C_alloc ?_ _) | (with_reducible refine Kd.C_drewN ?_ _) | (with_reducible refine Kd.C_drew ?_))); (case side2 => exact HC0.out); rintro e w59 ⟨v365, rfl, ho0, hb⟩; refine ⟨_, rfl, ?_⟩; have n0_ := Aside0.mk (Kd.R_lower (Kd.R_newB ho0 (g := gb355) (o := .cells #[.int .i64 t346, .int .i64 t347, .int .i64 t348, .int .i64 t349, .int .i64 t350, .int .i64 t351, .int .i64 t352, .int .i64 t353] 68 (0, 0)) (by (with_reducible repeat (first | refine blk_drewN ?_ _ | refine blk_drew ?_ | refine blk_alloc ?_ _)); exact BK355.out)) (below_size (by repeat (first | (with_reducible first | exact HB.out | apply below_alloc | apply pw_below_drewN | apply below_drew1 | refine below_set ?_ GE355.out) | exact HB.out)))); have n1_ := Aside0.mk (blk_below (g := gb355) (o := .cells #[.int .i64 t346, .int .i64 t347, .int .i64 t348, .int .i64 t349, .int .i64 t350, .int .i64 t351, .int .i64 t352, .int .i64 t353] 68 (0, 0)) (by (with_reducible repeat (first | refine blk_drewN ?_ _ | refine blk_drew ?_ | refine blk_alloc ?_ _)); exact BK355.out) hb); have n2_ := Aside0.mk (below_step (by repeat (first | (with_reducible first | exact HB.out | apply below_alloc | apply pw_below_drewN | apply below_drew1 | refine below_set ?_ GE355.out) | exact HB.out)) hb); clear BK355; clear HB; have HO366 := n0_; have BK355 := n1_; have HB := n2_; clear n0_ n1_ n2_; (try clear hb); (try clear hb2); (try clear hk); (try clear hi); (try clear ho0); obtain ⟨Ao60, co60, eo60⟩ := Kd.R_slice HO366.out; subst eo60) | ((with_reducible refine gate_callee (f := 30) rfl ?_); refine goesL_ (some 84) rfl rfl Try.func30 (by kernel_rfl) rfl #[.slice Ao60 t363.length co60, .int .i64 t364] rfl (by (try simp only [List.map_toArray, List.map_cons, List.map_nil]); first | done | rfl | (simp only [List.length_drop, List.length_take]; rfl)) ?_; (with_reducible refine (impl_NextDue.calls kj41 _ _ t363 t364 t367 _ ?side1 ?side2 A57.out).mono ?_); (case side1 => repeat (first | exact (Kd.R_reads' HO366.out).2.2 | (with_reducible refine Kd.C_alloc ?_ _) | (with_reducible refine Kd.C_drewN ?_ _) | (with_reducible refine Kd.C_drew ?_))); (case side2 => exact (Kd.R_reads' HO366.out).2.1); rintro e w61 ⟨rfl, hb⟩; refine ⟨_, rfl, ?_⟩; have n0_ := Aside0.mk (Kd.R_below (by (with_reducible repeat (first | apply Kd.R_alloc | apply Kd.R_drewN | apply Kd.R_drew)); exact HO366.out) hb); have n1_ := Aside0.mk (blk_below (g := gb355) (o := .cells #[.int .i64 t346, .int .i64 t347, .int .i64 t348, .int .i64 t349, .int .i64 t350, .int .i64 t351, .int .i64 t352, .int .i64 t353] 68 (0, 0)) (by (with_reducible repeat (first | refine blk_drewN ?_ _ | refine blk_drew ?_ | refine blk_alloc ?_ _)); exact BK355.out) hb); have n2_ := Aside0.mk (below_step (by repeat (first | (with_reducible first | exact HB.out | apply below_alloc | apply pw_below_drewN | apply below_drew1 | refine below_set ?_ GE355.out) | exact HB.out)) hb); clear HO366; clear BK355; clear HB; have HO366 := n0_; have BK355 := n1_; have HB := n2_; clear n0_ n1_ n2_; (try clear hb); (try clear hb2); (try clear hk); (try clear hi)) | ((with_reducible refine gate_callee (f := 54) rfl ?_); refine goesL_ (some 87) rfl rfl Try.func54 (by kernel_rfl) rfl #[.slice Ao60 t363.length co60, .int .i64 t364] rfl (by (try simp only [List.map_toArray, List.map_cons, List.map_nil]); first | done | rfl | (simp only [List.length_drop, List.length_take]; rfl)) ?_; (with_reducible refine (impl_DueThings.calls kj41 _ _ t363 t364 t368 _ ?side1 ?side2 A58.out).mono ?_); (case side1 => repeat (first | exact (Kd.R_reads' HO366.out).2.2 | (with_reducible refine Kd.C_alloc ?_ _) | (with_reducible refine Kd.C_drewN ?_ _) | (with_reducible refine Kd.C_drew ?_))); (case side2 => exact (Kd.R_reads' HO366.out).2.1); rintro e w62 ⟨v369, rfl, ho0, hb⟩; refine ⟨_, rfl, ?_⟩; have n0_ := Aside0.mk (Kd.R_below (by (with_reducible repeat (first | apply Kd.R_alloc | apply Kd.R_drewN | apply Kd.R_drew)); exact HO366.out) hb); have n1_ := Aside0.mk (Kd.R_lower ho0 (below_size (by repeat (first | (with_reducible first | exact HB.out | apply below_alloc | apply pw_below_drewN | apply below_drew1 | refine below_set ?_ GE355.out) | exact HB.out)))); have n2_ := Aside0.mk (blk_below (g := gb355) (o := .cells #[.int .i64 t346, .int .i64 t347, .int .i64 t348, .int .i64 t349, .int .i64 t350, .int .i64 t351, .int .i64 t352, .int .i64 t353] 68 (0, 0)) (by (with_reducible repeat (first | refine blk_drewN ?_ _ | refine blk_drew ?_ | refine blk_alloc ?_ _)); exact BK355.out) hb); have n3_ := Aside0.mk (below_step (by repeat (first | (with_reducible first | exact HB.out | apply below_alloc | apply pw_below_drewN | apply below_drew1 | refine below_set ?_ GE355.out) | exact HB.out)) hb); clear HO366; clear BK355; clear HB; have HO366 := n0_; have HO370 := n1_; have BK355 := n2_; have HB := n3_; clear n0_ n1_ n2_ n3_; (try clear hb); (try clear hb2); (try clear hk); (try clear hi); (try clear ho0)))
          go_loopg [11] kj41 (fun kq v11 w' => ∃ (x11_3 : Int), v11 = .int .i64 x11_3 ∧ Aside0 (laws_FnKept.l0 kq t363 t364 t367 t368 x11_3 = some r) ∧ Aside0 (kq ≤ kj41) ∧ Aside0 (Kd.R k68 68 w' w.heap.size (fun k_ => k_ ≠ gb355) (.slice Ao60 t363.length co60) t363) ∧ Aside0 (Kd.R (Kd.int .i64) 3 w' w.heap.size (fun _ => True) v369 t368) ∧ Aside0 (w'.heap[gb355]? = some (.cells #[.int .i64 t346, .int .i64 t347, .int .i64 t348, .int .i64 t349, .int .i64 t350, .int .i64 t351, .int .i64 t352, .int .i64 t353] 68 (0, 0))) ∧ Aside0 (Below w.heap.size w w'))
          case atStart => exact ⟨(0), (by first | rfl | (simp; done) | (simp [*]; done)), H', ⟨Nat.le_refl _⟩, ⟨by (with_reducible repeat (first | apply Kd.R_alloc | apply Kd.R_drewN | apply Kd.R_drew)); exact Kd.R_mono HO366.out (fun _ hk => hk.2)⟩, ⟨by (with_reducible repeat (first | apply Kd.R_alloc | apply Kd.R_drewN | apply Kd.R_drew)); exact HO370.out⟩, ⟨by (with_reducible repeat (first | refine blk_drewN ?_ _ | refine blk_drew ?_ | refine blk_alloc ?_ _)); exact BK355.out⟩, ⟨by repeat (first | (with_reducible first | exact HB.out | apply below_alloc | apply pw_below_drewN | apply below_drew1 | refine below_set ?_ GE355.out) | exact HB.out)⟩⟩
          case round =>
            clear H'
            try clear c1
            try clear p2
            try clear c3
            try clear c4
            try clear c5
            try clear p6
            try clear c9
            try clear c12
            try clear c12b0
            try clear c12b1
            try clear c12b2
            try clear c15
            try clear c15b0
            try clear c17
            try clear c19
            try clear c30
            try clear c32
            try clear c40
            try clear c45
            try clear c45b0
            try clear c47
            try clear c48
            try clear c49
            try clear c50
            try clear c50b0
            try clear c52
            try clear c53
            try clear c54
            try clear c55
            try clear hcz13_0
            try clear hcz13_1
            try clear hcz13_2
            try clear hcz13_3
            try clear hcz13_4
            try clear hcz13_5
            try clear hcz13_6
            try clear hcz13_7
            try clear hcz20_0
            try clear hcz20_1
            try clear hcz20_2
            try clear hcz20_3
            try clear hcz20_4
            try clear hcz20_5
            try clear hcz20_6
            try clear hcz20_7
            try clear hcz22_0
            try clear hcz22_1
            try clear hcz22_2
            try clear hcz22_3
            try clear hcz22_4
            try clear hcz22_5
            try clear hcz22_6
            try clear hcz22_7
            try clear hcz24_0
            try clear hcz24_1
            try clear hcz24_2
            try clear hcz24_3
            try clear hcz24_4
            try clear hcz24_5
            try clear hcz24_6
            try clear hcz24_7
            try clear hcz27_0
            try clear hcz27_1
            try clear hcz27_2
            try clear hcz27_3
            try clear hcz27_4
            try clear hcz27_5
            try clear hcz27_6
            try clear hcz27_7
            try clear hcz29_0
            try clear hcz29_1
            try clear hcz29_2
            try clear hcz29_3
            try clear hcz29_4
            try clear hcz29_5
            try clear hcz29_6
            try clear hcz29_7
            try clear hcz31_0
            try clear hcz31_1
            try clear hcz31_2
            try clear hcz31_3
            try clear hcz31_4
            try clear hcz31_5
            try clear hcz31_6
            try clear hcz31_7
            try clear hcz33_0
            try clear hcz33_1
            try clear hcz33_2
            try clear hcz33_3
            try clear hcz33_4
            try clear hcz33_5
            try clear hcz33_6
            try clear hcz33_7
            try clear hcz34_0
            try clear hcz34_1
            try clear hcz34_2
            try clear hcz34_3
            try clear hcz34_4
            try clear hcz34_5
            try clear hcz34_6
            try clear hcz34_7
            try clear hcz36_0
            try clear hcz36_1
            try clear hcz36_2
            try clear hcz36_3
            try clear hcz36_4
            try clear hcz36_5
            try clear hcz36_6
            try clear hcz36_7
            try clear hcz38_0
            try clear hcz38_1
            try clear hcz38_2
            try clear hcz38_3
            try clear hcz38_4
            try clear hcz38_5
            try clear hcz38_6
            try clear hcz38_7
            try clear hcz43_0
            try clear hcz43_1
            try clear hcz43_2
            try clear hcz43_3
            try clear hcz43_4
            try clear hcz43_5
            try clear hcz43_6
            try clear hcz43_7
            try clear hcz48_0
            try clear hcz48_1
            try clear hcz48_2
            try clear hcz48_3
            try clear hcz48_4
            try clear hcz48_5
            try clear hcz48_6
            try clear hcz48_7
            try clear hcz51_0
            try clear hcz51_1
            try clear hcz51_2
            try clear hcz51_3
            try clear hcz51_4
            try clear hcz51_5
            try clear hcz51_6
            try clear hcz51_7
            try clear hcz53_0
            try clear hcz53_1
            try clear hcz53_2
            try clear hcz53_3
            try clear hcz53_4
            try clear hcz53_5
            try clear hcz53_6
            try clear hcz53_7
            try clear hcz9_0
            try clear hcz9_1
            try clear hcz9_2
            try clear hcz9_3
            try clear hcz9_4
            try clear hcz9_5
            try clear hcz9_6
            try clear hcz9_7
            try clear hfz13_0
            try clear hfz13_1
            try clear hfz13_2
            try clear hfz13_3
            try clear hfz13_4
            try clear hfz13_5
            try clear hfz13_6
            try clear hfz13_7
            try clear hfz20_0
            try clear hfz20_1
            try clear hfz20_2
            try clear hfz20_3
            try clear hfz20_4
            try clear hfz20_5
            try clear hfz20_6
            try clear hfz20_7
            try clear hfz22_0
            try clear hfz22_1
            try clear hfz22_2
            try clear hfz22_3
            try clear hfz22_4
            try clear hfz22_5
            try clear hfz22_6
            try clear hfz22_7
            try clear hfz24_0
            try clear hfz24_1
            try clear hfz24_2
            try clear hfz24_3
            try clear hfz24_4
            try clear hfz24_5
            try clear hfz24_6
            try clear hfz24_7
            try clear hfz27_0
            try clear hfz27_1
            try clear hfz27_2
            try clear hfz27_3
            try clear hfz27_4
            try clear hfz27_5
            try clear hfz27_6
            try clear hfz27_7
            try clear hfz29_0
            try clear hfz29_1
            try clear hfz29_2
            try clear hfz29_3
            try clear hfz29_4
            try clear hfz29_5
            try clear hfz29_6
            try clear hfz29_7
            try clear hfz31_0
            try clear hfz31_1
            try clear hfz31_2
            try clear hfz31_3
            try clear hfz31_4
            try clear hfz31_5
            try clear hfz31_6
            try clear hfz31_7
            try clear hfz33_0
            try clear hfz33_1
            try clear hfz33_2
            try clear hfz33_3
            try clear hfz33_4
            try clear hfz33_5
            try clear hfz33_6
            try clear hfz33_7
            try clear hfz34_0
            try clear hfz34_1
            try clear hfz34_2
            try clear hfz34_3
            try clear hfz34_4
            try clear hfz34_5
            try clear hfz34_6
            try clear hfz34_7
            try clear hfz36_0
            try clear hfz36_1
            try clear hfz36_2
            try clear hfz36_3
            try clear hfz36_4
            try clear hfz36_5
            try clear hfz36_6
            try clear hfz36_7
            try clear hfz38_0
            try clear hfz38_1
            try clear hfz38_2
            try clear hfz38_3
            try clear hfz38_4
            try clear hfz38_5
            try clear hfz38_6
            try clear hfz38_7
            try clear hfz43_0
            try clear hfz43_1
            try clear hfz43_2
            try clear hfz43_3
            try clear hfz43_4
            try clear hfz43_5
            try clear hfz43_6
            try clear hfz43_7
            try clear hfz48_0
            try clear hfz48_1
            try clear hfz48_2
            try clear hfz48_3
            try clear hfz48_4
            try clear hfz48_5
            try clear hfz48_6
            try clear hfz48_7
            try clear hfz51_0
            try clear hfz51_1
            try clear hfz51_2
            try clear hfz51_3
            try clear hfz51_4
            try clear hfz51_5
            try clear hfz51_6
            try clear hfz51_7
            try clear hfz53_0
            try clear hfz53_1
            try clear hfz53_2
            try clear hfz53_3
            try clear hfz53_4
            try clear hfz53_5
            try clear hfz53_6
            try clear hfz53_7
            try clear hfz9_0
            try clear hfz9_1
            try clear hfz9_2
            try clear hfz9_3
            try clear hfz9_4
            try clear hfz9_5
            try clear hfz9_6
            try clear hfz9_7
            try clear p2
            try clear p6
            obtain ⟨x11_3, rfl, HA, HK3, HO_7, HO_10, BK355, HB⟩ := hrel
            cases gk with
            | zero => exact absurd HA.out (by simp [laws_FnKept.l0])
            | succ k3 =>
              have H := HA.out
              clear HA
              simp only [laws_FnKept.l0] at H
              by_cases c63 : x11_3 < (t363.length : Int)
              rotate_left
              · rw [if_neg c63] at H
                have c63b0 : decide (x11_3 < (t363.length : Int)) = false := decide_eq_false c63
                clear c63
                by_cases c129 : t367 = (-1)
                rotate_left
                · rw [if_neg c129] at H
                  have c129b0 : (t367 == (-1)) = false := beq_eq_false_iff_ne.mpr c129
                  have c129b1 : (t367 != (-1)) = true := bne_iff_ne.mpr c129
                  obtain rfl := Option.some.inj H
                  go_wp2
                  go_ret
                  exact ⟨by first | rfl | (simp [errW_none, errW_some] <;> rfl) | (simp [*, errW_none, errW_some] <;> rfl), by repeat (first | (with_reducible first | exact HB.out | apply below_alloc | apply pw_below_drewN | apply below_drew1 | refine below_set ?_ GE355.out) | exact HB.out)⟩

                rw [if_pos c129] at H
                have c129b0 : (t367 == (-1)) = true := beq_iff_eq.mpr c129
                have c129b1 : (t367 != (-1)) = false := bne_eq_false_iff_eq.mpr c129
                clear c129
                obtain rfl := Option.some.inj H
                go_wp2
                go_ret
                exact ⟨by first | rfl | (simp [errW_none, errW_some] <;> rfl) | (simp [*, errW_none, errW_some] <;> rfl), by repeat (first | (with_reducible first | exact HB.out | apply below_alloc | apply pw_below_drewN | apply below_drew1 | refine below_set ?_ GE355.out) | exact HB.out)⟩
              rw [if_pos c63] at H
              have c63b0 : decide (x11_3 < (t363.length : Int)) = true := decide_eq_true c63
              clear c63
              by_cases c64 : 0 ≤ x11_3
              rotate_left
              · rw [if_neg c64] at H
                exact absurd H (by simp)
              rw [if_pos c64] at H
              have c64b0 : decide (0 ≤ x11_3) = true := decide_eq_true c64
              clear c64
              replace H := Option.bind_eq_some_iff.mp H
              obtain ⟨t372, A650, H⟩ := H
              replace H : (if t372 > t364 then (if t372 ≥ 0 then (if t367 < 0 then (some false) else (if t367 > t372 then (some false) else ((laws_contains.f k3 t368 ((rd_T68 t363 x11_3).f0.f0)).bind fun t374 => (if t374 = true then ((impl_AreFinds.f k3 t363).bind fun t375 => (if t375 = true then ((impl_IsDue.f k3 ((rd_T68 t363 x11_3).f0.f0) ((rd_T68 t363 x11_3).f0.f1) ((rd_T68 t363 x11_3).f0.f2) ((rd_T68 t363 x11_3).f0.f3) ((rd_T68 t363 x11_3).f0.f4) ((rd_T68 t363 x11_3).f1) ((rd_T68 t363 x11_3).f2) ((rd_T68 t363 x11_3).f3) t364).bind fun t377 => (if t377 = true then (laws_FnKept.l0 k3 t363 t364 t367 t368 (wrap64 (x11_3 + 1))) else (some false))) else (laws_FnKept.l0 k3 t363 t364 t367 t368 (wrap64 (x11_3 + 1))))) else (laws_FnKept.l0 k3 t363 t364 t367 t368 (wrap64 (x11_3 + 1))))))) else ((laws_contains.f k3 t368 ((rd_T68 t363 x11_3).f0.f0)).bind fun t379 => (if t379 = true then ((impl_AreFinds.f k3 t363).bind fun t380 => (if t380 = true then ((impl_IsDue.f k3 ((rd_T68 t363 x11_3).f0.f0) ((rd_T68 t363 x11_3).f0.f1) ((rd_T68 t363 x11_3).f0.f2) ((rd_T68 t363 x11_3).f0.f3) ((rd_T68 t363 x11_3).f0.f4) ((rd_T68 t363 x11_3).f1) ((rd_T68 t363 x11_3).f2) ((rd_T68 t363 x11_3).f3) t364).bind fun t382 => (if t382 = true then (laws_FnKept.l0 k3 t363 t364 t367 t368 (wrap64 (x11_3 + 1))) else (some false))) else (laws_FnKept.l0 k3 t363 t364 t367 t368 (wrap64 (x11_3 + 1))))) else (laws_FnKept.l0 k3 t363 t364 t367 t368 (wrap64 (x11_3 + 1)))))) else ((laws_contains.f k3 t368 ((rd_T68 t363 x11_3).f0.f0)).bind fun t384 => (if t384 = true then ((impl_AreFinds.f k3 t363).bind fun t385 => (if t385 = true then ((impl_IsDue.f k3 ((rd_T68 t363 x11_3).f0.f0) ((rd_T68 t363 x11_3).f0.f1) ((rd_T68 t363 x11_3).f0.f2) ((rd_T68 t363 x11_3).f0.f3) ((rd_T68 t363 x11_3).f0.f4) ((rd_T68 t363 x11_3).f1) ((rd_T68 t363 x11_3).f2) ((rd_T68 t363 x11_3).f3) t364).bind fun t387 => (if t387 = true then (laws_FnKept.l0 k3 t363 t364 t367 t368 (wrap64 (x11_3 + 1))) else (some false))) else (laws_FnKept.l0 k3 t363 t364 t367 t368 (wrap64 (x11_3 + 1))))) else (laws_FnKept.l0 k3 t363 t364 t367 t368 (wrap64 (x11_3 + 1)))))) = some r := H
              have A65 := Aside0.mk A650
              clear A650
              by_cases c66 : t372 > t364
              rotate_left
              · rw [if_neg c66] at H
                have c66b0 : decide (t364 < t372) = false := decide_eq_false c66
                clear c66
                replace H := Option.bind_eq_some_iff.mp H
                obtain ⟨t384, A1100, H⟩ := H
                replace H : (if t384 = true then ((impl_AreFinds.f k3 t363).bind fun t385 => (if t385 = true then ((impl_IsDue.f k3 ((rd_T68 t363 x11_3).f0.f0) ((rd_T68 t363 x11_3).f0.f1) ((rd_T68 t363 x11_3).f0.f2) ((rd_T68 t363 x11_3).f0.f3) ((rd_T68 t363 x11_3).f0.f4) ((rd_T68 t363 x11_3).f1) ((rd_T68 t363 x11_3).f2) ((rd_T68 t363 x11_3).f3) t364).bind fun t387 => (if t387 = true then (laws_FnKept.l0 k3 t363 t364 t367 t368 (wrap64 (x11_3 + 1))) else (some false))) else (laws_FnKept.l0 k3 t363 t364 t367 t368 (wrap64 (x11_3 + 1))))) else (laws_FnKept.l0 k3 t363 t364 t367 t368 (wrap64 (x11_3 + 1)))) = some r := H
                have A110 := Aside0.mk A1100
                clear A1100
                by_cases c111 : t384 = true
                rotate_left
                · replace c111 := Bool.eq_false_iff.mpr c111
                  subst c111
                  have H1 : (laws_FnKept.l0 k3 t363 t364 t367 t368 (wrap64 (x11_3 + 1))) = some r := by rw [if_neg (show ¬ (false = true) by decide)] at H; exact H
                  clear H
                  have H := H1
                  clear H1
                  have H' := Aside0.mk H
                  clear H
                  have p371 : 0 ≤ (x11_3 : Int) := of_decide_eq_true (by first | (with_reducible assumption) | assumption)
                  have q371 : x11_3 < (t363.length : Int) := of_decide_eq_true (by first | (with_reducible assumption) | assumption)
                  obtain ⟨ad371, e371, hx371_0, hx371_1, hx371_2, hx371_3, hx371_4, hx371_5, hx371_6, hx371_7⟩ := at_T68 (Kd.R_reads' HO_7.out).2.2 x11_3 p371 q371
                  cases e371
                  replace p371 := eq_true p371
                  replace q371 := eq_true q371
                  go_wp2_with (first | ((with_reducible refine gate_callee (f := 48) rfl ?_); refine goesL_ (some 98) rfl rfl Try.func48 (by kernel_rfl) rfl #[.agg #[.int .i64 ((rd_T68 t363 x11_3).f0.f0), .int .i64 ((rd_T68 t363 x11_3).f0.f1), .int .i64 ((rd_T68 t363 x11_3).f0.f2), .int .i64 ((rd_T68 t363 x11_3).f0.f3), .int .i64 ((rd_T68 t363 x11_3).f0.f4), .int .i64 ((rd_T68 t363 x11_3).f1), .int .i64 ((rd_T68 t363 x11_3).f2), .int .i64 ((rd_T68 t363 x11_3).f3)]] rfl (by (try simp only [List.map_toArray, List.map_cons, List.map_nil]); first | done | rfl | (simp only [List.length_drop, List.length_take]; rfl)) ?_; (with_reducible refine (impl_DueHour.calls k3 ((rd_T68 t363 x11_3).f0.f0) ((rd_T68 t363 x11_3).f0.f1) ((rd_T68 t363 x11_3).f0.f2) ((rd_T68 t363 x11_3).f0.f3) ((rd_T68 t363 x11_3).f0.f4) ((rd_T68 t363 x11_3).f1) ((rd_T68 t363 x11_3).f2) ((rd_T68 t363 x11_3).f3) t372 _ A65.out).mono ?_); rintro e w127 ⟨rfl, hb⟩; refine ⟨_, rfl, ?_⟩; have n0_ := Aside0.mk (Kd.R_below (by (with_reducible repeat (first | apply Kd.R_alloc | apply Kd.R_drewN | apply Kd.R_drew)); exact HO_7.out) hb); have n1_ := Aside0.mk (Kd.R_below (by (with_reducible repeat (first | apply Kd.R_alloc | apply Kd.R_drewN | apply Kd.R_drew)); exact HO_10.out) hb); have n2_ := Aside0.mk (blk_below (g := gb355) (o := .cells #[.int .i64 t346, .int .i64 t347, .int .i64 t348, .int .i64 t349, .int .i64 t350, .int .i64 t351, .int .i64 t352, .int .i64 t353] 68 (0, 0)) (by (with_reducible repeat (first | refine blk_drewN ?_ _ | refine blk_drew ?_ | refine blk_alloc ?_ _)); exact BK355.out) hb); have n3_ := Aside0.mk (below_step (by repeat (first | (with_reducible first | exact HB.out | apply below_alloc | apply pw_below_drewN | apply below_drew1 | refine below_set ?_ GE355.out) | exact HB.out)) hb); clear HO_7; clear HO_10; clear BK355; clear HB; have HO_7 := n0_; have HO_10 := n1_; have BK355 := n2_; have HB := n3_; clear n0_ n1_ n2_ n3_; (try clear hb); (try clear hb2); (try clear hk); (try clear hi); have p383 : 0 ≤ (x11_3 : Int) := of_decide_eq_true (by first | (with_reducible assumption) | assumption); have q383 : x11_3 < (t363.length : Int) := of_decide_eq_true (by first | (with_reducible assumption) | assumption); obtain ⟨ad383, e383, hx383_0, hx383_1, hx383_2, hx383_3, hx383_4, hx383_5, hx383_6, hx383_7⟩ := at_T68 (Kd.R_reads' HO_7.out).2.2 x11_3 p383 q383; obtain rfl : ad371 = ad383 := (by injection e383); replace p383 := eq_true p383; replace q383 := eq_true q383; obtain ⟨Ao128, co128, eo128⟩ := Kd.R_slice HO_10.out; subst eo128) | (go_at_call 55; (with_reducible refine (laws_contains.calls k3 _ _ t368 ((rd_T68 t363 x11_3).f0.f0) false _ ?side1 ?side2 A110.out).mono ?_); (case side1 => repeat (first | exact (Kd.R_reads' HO_10.out).2.2 | (with_reducible refine Kd.C_alloc ?_ _) | (with_reducible refine Kd.C_drewN ?_ _) | (with_reducible refine Kd.C_drew ?_))); (case side2 => exact (Kd.R_reads' HO_10.out).2.1); rintro e w' ⟨rfl, ⟨nd, rfl⟩⟩))
                  go_roundg k3
                  case measure => have := HJ5.out; have := HJ41.out; have := HK3.out; omega
                  case rel => exact ⟨(wrap64 (x11_3 + 1)), (by first | rfl | (simp; done) | (simp [*]; done)), H', ⟨by have := HJ5.out; have := HJ41.out; have := HK3.out; omega⟩, ⟨by (with_reducible repeat (first | apply Kd.R_alloc | apply Kd.R_drewN | apply Kd.R_drew)); exact HO_7.out⟩, ⟨by (with_reducible repeat (first | apply Kd.R_alloc | apply Kd.R_drewN | apply Kd.R_drew)); exact HO_10.out⟩, ⟨by (with_reducible repeat (first | refine blk_drewN ?_ _ | refine blk_drew ?_ | refine blk_alloc ?_ _)); exact BK355.out⟩, ⟨by repeat (first | (with_reducible first | exact HB.out | apply below_alloc | apply pw_below_drewN | apply below_drew1 | refine below_set ?_ GE355.out) | exact HB.out)⟩⟩
                subst c111
                have H1 : ((impl_AreFinds.f k3 t363).bind fun t385 => (if t385 = true then ((impl_IsDue.f k3 ((rd_T68 t363 x11_3).f0.f0) ((rd_T68 t363 x11_3).f0.f1) ((rd_T68 t363 x11_3).f0.f2) ((rd_T68 t363 x11_3).f0.f3) ((rd_T68 t363 x11_3).f0.f4) ((rd_T68 t363 x11_3).f1) ((rd_T68 t363 x11_3).f2) ((rd_T68 t363 x11_3).f3) t364).bind fun t387 => (if t387 = true then (laws_FnKept.l0 k3 t363 t364 t367 t368 (wrap64 (x11_3 + 1))) else (some false))) else (laws_FnKept.l0 k3 t363 t364 t367 t368 (wrap64 (x11_3 + 1))))) = some r := by rw [if_pos rfl] at H; exact H
                clear H
                have H := H1
                clear H1
                replace H := Option.bind_eq_some_iff.mp H
                obtain ⟨t385, A1120, H⟩ := H
                replace H : (if t385 = true then ((impl_IsDue.f k3 ((rd_T68 t363 x11_3).f0.f0) ((rd_T68 t363 x11_3).f0.f1) ((rd_T68 t363 x11_3).f0.f2) ((rd_T68 t363 x11_3).f0.f3) ((rd_T68 t363 x11_3).f0.f4) ((rd_T68 t363 x11_3).f1) ((rd_T68 t363 x11_3).f2) ((rd_T68 t363 x11_3).f3) t364).bind fun t387 => (if t387 = true then (laws_FnKept.l0 k3 t363 t364 t367 t368 (wrap64 (x11_3 + 1))) else (some false))) else (laws_FnKept.l0 k3 t363 t364 t367 t368 (wrap64 (x11_3 + 1)))) = some r := H
                have A112 := Aside0.mk A1120
                clear A1120
                by_cases c113 : t385 = true
                rotate_left
                · replace c113 := Bool.eq_false_iff.mpr c113
                  subst c113
                  have H1 : (laws_FnKept.l0 k3 t363 t364 t367 t368 (wrap64 (x11_3 + 1))) = some r := by rw [if_neg (show ¬ (false = true) by decide)] at H; exact H
                  clear H
                  have H := H1
                  clear H1
                  have H' := Aside0.mk H
                  clear H
                  have p371 : 0 ≤ (x11_3 : Int) := of_decide_eq_true (by first | (with_reducible assumption) | assumption)
                  have q371 : x11_3 < (t363.length : Int) := of_decide_eq_true (by first | (with_reducible assumption) | assumption)
                  obtain ⟨ad371, e371, hx371_0, hx371_1, hx371_2, hx371_3, hx371_4, hx371_5, hx371_6, hx371_7⟩ := at_T68 (Kd.R_reads' HO_7.out).2.2 x11_3 p371 q371
                  cases e371
                  replace p371 := eq_true p371
                  replace q371 := eq_true q371
                  go_wp2_with (first | ((with_reducible refine gate_callee (f := 48) rfl ?_); refine goesL_ (some 98) rfl rfl Try.func48 (by kernel_rfl) rfl #[.agg #[.int .i64 ((rd_T68 t363 x11_3).f0.f0), .int .i64 ((rd_T68 t363 x11_3).f0.f1), .int .i64 ((rd_T68 t363 x11_3).f0.f2), .int .i64 ((rd_T68 t363 x11_3).f0.f3), .int .i64 ((rd_T68 t363 x11_3).f0.f4), .int .i64 ((rd_T68 t363 x11_3).f1), .int .i64 ((rd_T68 t363 x11_3).f2), .int .i64 ((rd_T68 t363 x11_3).f3)]] rfl (by (try simp only [List.map_toArray, List.map_cons, List.map_nil]); first | done | rfl | (simp only [List.length_drop, List.length_take]; rfl)) ?_; (with_reducible refine (impl_DueHour.calls k3 ((rd_T68 t363 x11_3).f0.f0) ((rd_T68 t363 x11_3).f0.f1) ((rd_T68 t363 x11_3).f0.f2) ((rd_T68 t363 x11_3).f0.f3) ((rd_T68 t363 x11_3).f0.f4) ((rd_T68 t363 x11_3).f1) ((rd_T68 t363 x11_3).f2) ((rd_T68 t363 x11_3).f3) t372 _ A65.out).mono ?_); rintro e w124 ⟨rfl, hb⟩; refine ⟨_, rfl, ?_⟩; have n0_ := Aside0.mk (Kd.R_below (by (with_reducible repeat (first | apply Kd.R_alloc | apply Kd.R_drewN | apply Kd.R_drew)); exact HO_7.out) hb); have n1_ := Aside0.mk (Kd.R_below (by (with_reducible repeat (first | apply Kd.R_alloc | apply Kd.R_drewN | apply Kd.R_drew)); exact HO_10.out) hb); have n2_ := Aside0.mk (blk_below (g := gb355) (o := .cells #[.int .i64 t346, .int .i64 t347, .int .i64 t348, .int .i64 t349, .int .i64 t350, .int .i64 t351, .int .i64 t352, .int .i64 t353] 68 (0, 0)) (by (with_reducible repeat (first | refine blk_drewN ?_ _ | refine blk_drew ?_ | refine blk_alloc ?_ _)); exact BK355.out) hb); have n3_ := Aside0.mk (below_step (by repeat (first | (with_reducible first | exact HB.out | apply below_alloc | apply pw_below_drewN | apply below_drew1 | refine below_set ?_ GE355.out) | exact HB.out)) hb); clear HO_7; clear HO_10; clear BK355; clear HB; have HO_7 := n0_; have HO_10 := n1_; have BK355 := n2_; have HB := n3_; clear n0_ n1_ n2_ n3_; (try clear hb); (try clear hb2); (try clear hk); (try clear hi); have p383 : 0 ≤ (x11_3 : Int) := of_decide_eq_true (by first | (with_reducible assumption) | assumption); have q383 : x11_3 < (t363.length : Int) := of_decide_eq_true (by first | (with_reducible assumption) | assumption); obtain ⟨ad383, e383, hx383_0, hx383_1, hx383_2, hx383_3, hx383_4, hx383_5, hx383_6, hx383_7⟩ := at_T68 (Kd.R_reads' HO_7.out).2.2 x11_3 p383 q383; obtain rfl : ad371 = ad383 := (by injection e383); replace p383 := eq_true p383; replace q383 := eq_true q383; obtain ⟨Ao125, co125, eo125⟩ := Kd.R_slice HO_10.out; subst eo125) | (go_at_call 55; (with_reducible refine (laws_contains.calls k3 _ _ t368 ((rd_T68 t363 x11_3).f0.f0) true _ ?side1 ?side2 A110.out).mono ?_); (case side1 => repeat (first | exact (Kd.R_reads' HO_10.out).2.2 | (with_reducible refine Kd.C_alloc ?_ _) | (with_reducible refine Kd.C_drewN ?_ _) | (with_reducible refine Kd.C_drew ?_))); (case side2 => exact (Kd.R_reads' HO_10.out).2.1); rintro e w' ⟨rfl, ⟨nd, rfl⟩⟩) | (go_at_call 56; (with_reducible refine (impl_AreFinds.calls k3 _ _ t363 false _ ?side1 ?side2 A112.out).mono ?_); (case side1 => repeat (first | exact (Kd.R_reads' HO_7.out).2.2 | (with_reducible refine Kd.C_alloc ?_ _) | (with_reducible refine Kd.C_drewN ?_ _) | (with_reducible refine Kd.C_drew ?_))); (case side2 => exact (Kd.R_reads' HO_7.out).2.1); rintro e w126 ⟨rfl, hb⟩; have n0_ := Aside0.mk (Kd.R_below (by (with_reducible repeat (first | apply Kd.R_alloc | apply Kd.R_drewN | apply Kd.R_drew)); exact HO_7.out) hb); have n1_ := Aside0.mk (Kd.R_below (by (with_reducible repeat (first | apply Kd.R_alloc | apply Kd.R_drewN | apply Kd.R_drew)); exact HO_10.out) hb); have n2_ := Aside0.mk (blk_below (g := gb355) (o := .cells #[.int .i64 t346, .int .i64 t347, .int .i64 t348, .int .i64 t349, .int .i64 t350, .int .i64 t351, .int .i64 t352, .int .i64 t353] 68 (0, 0)) (by (with_reducible repeat (first | refine blk_drewN ?_ _ | refine blk_drew ?_ | refine blk_alloc ?_ _)); exact BK355.out) hb); have n3_ := Aside0.mk (below_step (by repeat (first | (with_reducible first | exact HB.out | apply below_alloc | apply pw_below_drewN | apply below_drew1 | refine below_set ?_ GE355.out) | exact HB.out)) hb); clear HO_7; clear HO_10; clear BK355; clear HB; have HO_7 := n0_; have HO_10 := n1_; have BK355 := n2_; have HB := n3_; clear n0_ n1_ n2_ n3_; (try clear hb); (try clear hb2); (try clear hk); (try clear hi)))
                  go_roundg k3
                  case measure => have := HJ5.out; have := HJ41.out; have := HK3.out; omega
                  case rel => exact ⟨(wrap64 (x11_3 + 1)), (by first | rfl | (simp; done) | (simp [*]; done)), H', ⟨by have := HJ5.out; have := HJ41.out; have := HK3.out; omega⟩, ⟨by (with_reducible repeat (first | apply Kd.R_alloc | apply Kd.R_drewN | apply Kd.R_drew)); exact HO_7.out⟩, ⟨by (with_reducible repeat (first | apply Kd.R_alloc | apply Kd.R_drewN | apply Kd.R_drew)); exact HO_10.out⟩, ⟨by (with_reducible repeat (first | refine blk_drewN ?_ _ | refine blk_drew ?_ | refine blk_alloc ?_ _)); exact BK355.out⟩, ⟨by repeat (first | (with_reducible first | exact HB.out | apply below_alloc | apply pw_below_drewN | apply below_drew1 | refine below_set ?_ GE355.out) | exact HB.out)⟩⟩
                subst c113
                have H1 : ((impl_IsDue.f k3 ((rd_T68 t363 x11_3).f0.f0) ((rd_T68 t363 x11_3).f0.f1) ((rd_T68 t363 x11_3).f0.f2) ((rd_T68 t363 x11_3).f0.f3) ((rd_T68 t363 x11_3).f0.f4) ((rd_T68 t363 x11_3).f1) ((rd_T68 t363 x11_3).f2) ((rd_T68 t363 x11_3).f3) t364).bind fun t387 => (if t387 = true then (laws_FnKept.l0 k3 t363 t364 t367 t368 (wrap64 (x11_3 + 1))) else (some false))) = some r := by rw [if_pos rfl] at H; exact H
                clear H
                have H := H1
                clear H1
                replace H := Option.bind_eq_some_iff.mp H
                obtain ⟨t387, A1140, H⟩ := H
                replace H : (if t387 = true then (laws_FnKept.l0 k3 t363 t364 t367 t368 (wrap64 (x11_3 + 1))) else (some false)) = some r := H
                have A114 := Aside0.mk A1140
                clear A1140
                by_cases c115 : t387 = true
                rotate_left
                · replace c115 := Bool.eq_false_iff.mpr c115
                  subst c115
                  have H1 : (some false) = some r := by rw [if_neg (show ¬ (false = true) by decide)] at H; exact H
                  clear H
                  have H := H1
                  clear H1
                  obtain rfl := Option.some.inj H
                  have p371 : 0 ≤ (x11_3 : Int) := of_decide_eq_true (by first | (with_reducible assumption) | assumption)
                  have q371 : x11_3 < (t363.length : Int) := of_decide_eq_true (by first | (with_reducible assumption) | assumption)
                  obtain ⟨ad371, e371, hx371_0, hx371_1, hx371_2, hx371_3, hx371_4, hx371_5, hx371_6, hx371_7⟩ := at_T68 (Kd.R_reads' HO_7.out).2.2 x11_3 p371 q371
                  cases e371
                  replace p371 := eq_true p371
                  replace q371 := eq_true q371
                  go_wp2_with (first | ((with_reducible refine gate_callee (f := 48) rfl ?_); refine goesL_ (some 98) rfl rfl Try.func48 (by kernel_rfl) rfl #[.agg #[.int .i64 ((rd_T68 t363 x11_3).f0.f0), .int .i64 ((rd_T68 t363 x11_3).f0.f1), .int .i64 ((rd_T68 t363 x11_3).f0.f2), .int .i64 ((rd_T68 t363 x11_3).f0.f3), .int .i64 ((rd_T68 t363 x11_3).f0.f4), .int .i64 ((rd_T68 t363 x11_3).f1), .int .i64 ((rd_T68 t363 x11_3).f2), .int .i64 ((rd_T68 t363 x11_3).f3)]] rfl (by (try simp only [List.map_toArray, List.map_cons, List.map_nil]); first | done | rfl | (simp only [List.length_drop, List.length_take]; rfl)) ?_; (with_reducible refine (impl_DueHour.calls k3 ((rd_T68 t363 x11_3).f0.f0) ((rd_T68 t363 x11_3).f0.f1) ((rd_T68 t363 x11_3).f0.f2) ((rd_T68 t363 x11_3).f0.f3) ((rd_T68 t363 x11_3).f0.f4) ((rd_T68 t363 x11_3).f1) ((rd_T68 t363 x11_3).f2) ((rd_T68 t363 x11_3).f3) t372 _ A65.out).mono ?_); rintro e w120 ⟨rfl, hb⟩; refine ⟨_, rfl, ?_⟩; have n0_ := Aside0.mk (Kd.R_below (by (with_reducible repeat (first | apply Kd.R_alloc | apply Kd.R_drewN | apply Kd.R_drew)); exact HO_7.out) hb); have n1_ := Aside0.mk (Kd.R_below (by (with_reducible repeat (first | apply Kd.R_alloc | apply Kd.R_drewN | apply Kd.R_drew)); exact HO_10.out) hb); have n2_ := Aside0.mk (blk_below (g := gb355) (o := .cells #[.int .i64 t346, .int .i64 t347, .int .i64 t348, .int .i64 t349, .int .i64 t350, .int .i64 t351, .int .i64 t352, .int .i64 t353] 68 (0, 0)) (by (with_reducible repeat (first | refine blk_drewN ?_ _ | refine blk_drew ?_ | refine blk_alloc ?_ _)); exact BK355.out) hb); have n3_ := Aside0.mk (below_step (by repeat (first | (with_reducible first | exact HB.out | apply below_alloc | apply pw_below_drewN | apply below_drew1 | refine below_set ?_ GE355.out) | exact HB.out)) hb); clear HO_7; clear HO_10; clear BK355; clear HB; have HO_7 := n0_; have HO_10 := n1_; have BK355 := n2_; have HB := n3_; clear n0_ n1_ n2_ n3_; (try clear hb); (try clear hb2); (try clear hk); (try clear hi); have p383 : 0 ≤ (x11_3 : Int) := of_decide_eq_true (by first | (with_reducible assumption) | assumption); have q383 : x11_3 < (t363.length : Int) := of_decide_eq_true (by first | (with_reducible assumption) | assumption); obtain ⟨ad383, e383, hx383_0, hx383_1, hx383_2, hx383_3, hx383_4, hx383_5, hx383_6, hx383_7⟩ := at_T68 (Kd.R_reads' HO_7.out).2.2 x11_3 p383 q383; obtain rfl : ad371 = ad383 := (by injection e383); replace p383 := eq_true p383; replace q383 := eq_true q383; obtain ⟨Ao121, co121, eo121⟩ := Kd.R_slice HO_10.out; subst eo121) | (go_at_call 55; (with_reducible refine (laws_contains.calls k3 _ _ t368 ((rd_T68 t363 x11_3).f0.f0) true _ ?side1 ?side2 A110.out).mono ?_); (case side1 => repeat (first | exact (Kd.R_reads' HO_10.out).2.2 | (with_reducible refine Kd.C_alloc ?_ _) | (with_reducible refine Kd.C_drewN ?_ _) | (with_reducible refine Kd.C_drew ?_))); (case side2 => exact (Kd.R_reads' HO_10.out).2.1); rintro e w' ⟨rfl, ⟨nd, rfl⟩⟩) | (go_at_call 56; (with_reducible refine (impl_AreFinds.calls k3 _ _ t363 true _ ?side1 ?side2 A112.out).mono ?_); (case side1 => repeat (first | exact (Kd.R_reads' HO_7.out).2.2 | (with_reducible refine Kd.C_alloc ?_ _) | (with_reducible refine Kd.C_drewN ?_ _) | (with_reducible refine Kd.C_drew ?_))); (case side2 => exact (Kd.R_reads' HO_7.out).2.1); rintro e w122 ⟨rfl, hb⟩; have n0_ := Aside0.mk (Kd.R_below (by (with_reducible repeat (first | apply Kd.R_alloc | apply Kd.R_drewN | apply Kd.R_drew)); exact HO_7.out) hb); have n1_ := Aside0.mk (Kd.R_below (by (with_reducible repeat (first | apply Kd.R_alloc | apply Kd.R_drewN | apply Kd.R_drew)); exact HO_10.out) hb); have n2_ := Aside0.mk (blk_below (g := gb355) (o := .cells #[.int .i64 t346, .int .i64 t347, .int .i64 t348, .int .i64 t349, .int .i64 t350, .int .i64 t351, .int .i64 t352, .int .i64 t353] 68 (0, 0)) (by (with_reducible repeat (first | refine blk_drewN ?_ _ | refine blk_drew ?_ | refine blk_alloc ?_ _)); exact BK355.out) hb); have n3_ := Aside0.mk (below_step (by repeat (first | (with_reducible first | exact HB.out | apply below_alloc | apply pw_below_drewN | apply below_drew1 | refine below_set ?_ GE355.out) | exact HB.out)) hb); clear HO_7; clear HO_10; clear BK355; clear HB; have HO_7 := n0_; have HO_10 := n1_; have BK355 := n2_; have HB := n3_; clear n0_ n1_ n2_ n3_; (try clear hb); (try clear hb2); (try clear hk); (try clear hi); have p386 : 0 ≤ (x11_3 : Int) := of_decide_eq_true (by first | (with_reducible assumption) | assumption); have q386 : x11_3 < (t363.length : Int) := of_decide_eq_true (by first | (with_reducible assumption) | assumption); obtain ⟨ad386, e386, hx386_0, hx386_1, hx386_2, hx386_3, hx386_4, hx386_5, hx386_6, hx386_7⟩ := at_T68 (Kd.R_reads' HO_7.out).2.2 x11_3 p386 q386; obtain rfl : ad371 = ad386 := (by injection e386); replace p386 := eq_true p386; replace q386 := eq_true q386) | (go_at_call 50; (with_reducible refine (impl_IsDue.calls k3 ((rd_T68 t363 x11_3).f0.f0) ((rd_T68 t363 x11_3).f0.f1) ((rd_T68 t363 x11_3).f0.f2) ((rd_T68 t363 x11_3).f0.f3) ((rd_T68 t363 x11_3).f0.f4) ((rd_T68 t363 x11_3).f1) ((rd_T68 t363 x11_3).f2) ((rd_T68 t363 x11_3).f3) t364 false _ A114.out).mono ?_); rintro e w123 ⟨rfl, hb⟩; have n0_ := Aside0.mk (Kd.R_below (by (with_reducible repeat (first | apply Kd.R_alloc | apply Kd.R_drewN | apply Kd.R_drew)); exact HO_7.out) hb); have n1_ := Aside0.mk (Kd.R_below (by (with_reducible repeat (first | apply Kd.R_alloc | apply Kd.R_drewN | apply Kd.R_drew)); exact HO_10.out) hb); have n2_ := Aside0.mk (blk_below (g := gb355) (o := .cells #[.int .i64 t346, .int .i64 t347, .int .i64 t348, .int .i64 t349, .int .i64 t350, .int .i64 t351, .int .i64 t352, .int .i64 t353] 68 (0, 0)) (by (with_reducible repeat (first | refine blk_drewN ?_ _ | refine blk_drew ?_ | refine blk_alloc ?_ _)); exact BK355.out) hb); have n3_ := Aside0.mk (below_step (by repeat (first | (with_reducible first | exact HB.out | apply below_alloc | apply pw_below_drewN | apply below_drew1 | refine below_set ?_ GE355.out) | exact HB.out)) hb); clear HO_7; clear HO_10; clear BK355; clear HB; have HO_7 := n0_; have HO_10 := n1_; have BK355 := n2_; have HB := n3_; clear n0_ n1_ n2_ n3_; (try clear hb); (try clear hb2); (try clear hk); (try clear hi)))
                  go_ret
                  exact ⟨by first | rfl | (simp [errW_none, errW_some] <;> rfl) | (simp [*, errW_none, errW_some] <;> rfl), by repeat (first | (with_reducible first | exact HB.out | apply below_alloc | apply pw_below_drewN | apply below_drew1 | refine below_set ?_ GE355.out) | exact HB.out)⟩
                subst c115
                have H1 : (laws_FnKept.l0 k3 t363 t364 t367 t368 (wrap64 (x11_3 + 1))) = some r := by rw [if_pos rfl] at H; exact H
                clear H
                have H := H1
                clear H1
                have H' := Aside0.mk H
                clear H
                have p371 : 0 ≤ (x11_3 : Int) := of_decide_eq_true (by first | (with_reducible assumption) | assumption)
                have q371 : x11_3 < (t363.length : Int) := of_decide_eq_true (by first | (with_reducible assumption) | assumption)
                obtain ⟨ad371, e371, hx371_0, hx371_1, hx371_2, hx371_3, hx371_4, hx371_5, hx371_6, hx371_7⟩ := at_T68 (Kd.R_reads' HO_7.out).2.2 x11_3 p371 q371
                cases e371
                replace p371 := eq_true p371
                replace q371 := eq_true q371
                go_wp2_with (first | ((with_reducible refine gate_callee (f := 48) rfl ?_); refine goesL_ (some 98) rfl rfl Try.func48 (by kernel_rfl) rfl #[.agg #[.int .i64 ((rd_T68 t363 x11_3).f0.f0), .int .i64 ((rd_T68 t363 x11_3).f0.f1), .int .i64 ((rd_T68 t363 x11_3).f0.f2), .int .i64 ((rd_T68 t363 x11_3).f0.f3), .int .i64 ((rd_T68 t363 x11_3).f0.f4), .int .i64 ((rd_T68 t363 x11_3).f1), .int .i64 ((rd_T68 t363 x11_3).f2), .int .i64 ((rd_T68 t363 x11_3).f3)]] rfl (by (try simp only [List.map_toArray, List.map_cons, List.map_nil]); first | done | rfl | (simp only [List.length_drop, List.length_take]; rfl)) ?_; (with_reducible refine (impl_DueHour.calls k3 ((rd_T68 t363 x11_3).f0.f0) ((rd_T68 t363 x11_3).f0.f1) ((rd_T68 t363 x11_3).f0.f2) ((rd_T68 t363 x11_3).f0.f3) ((rd_T68 t363 x11_3).f0.f4) ((rd_T68 t363 x11_3).f1) ((rd_T68 t363 x11_3).f2) ((rd_T68 t363 x11_3).f3) t372 _ A65.out).mono ?_); rintro e w116 ⟨rfl, hb⟩; refine ⟨_, rfl, ?_⟩; have n0_ := Aside0.mk (Kd.R_below (by (with_reducible repeat (first | apply Kd.R_alloc | apply Kd.R_drewN | apply Kd.R_drew)); exact HO_7.out) hb); have n1_ := Aside0.mk (Kd.R_below (by (with_reducible repeat (first | apply Kd.R_alloc | apply Kd.R_drewN | apply Kd.R_drew)); exact HO_10.out) hb); have n2_ := Aside0.mk (blk_below (g := gb355) (o := .cells #[.int .i64 t346, .int .i64 t347, .int .i64 t348, .int .i64 t349, .int .i64 t350, .int .i64 t351, .int .i64 t352, .int .i64 t353] 68 (0, 0)) (by (with_reducible repeat (first | refine blk_drewN ?_ _ | refine blk_drew ?_ | refine blk_alloc ?_ _)); exact BK355.out) hb); have n3_ := Aside0.mk (below_step (by repeat (first | (with_reducible first | exact HB.out | apply below_alloc | apply pw_below_drewN | apply below_drew1 | refine below_set ?_ GE355.out) | exact HB.out)) hb); clear HO_7; clear HO_10; clear BK355; clear HB; have HO_7 := n0_; have HO_10 := n1_; have BK355 := n2_; have HB := n3_; clear n0_ n1_ n2_ n3_; (try clear hb); (try clear hb2); (try clear hk); (try clear hi); have p383 : 0 ≤ (x11_3 : Int) := of_decide_eq_true (by first | (with_reducible assumption) | assumption); have q383 : x11_3 < (t363.length : Int) := of_decide_eq_true (by first | (with_reducible assumption) | assumption); obtain ⟨ad383, e383, hx383_0, hx383_1, hx383_2, hx383_3, hx383_4, hx383_5, hx383_6, hx383_7⟩ := at_T68 (Kd.R_reads' HO_7.out).2.2 x11_3 p383 q383; obtain rfl : ad371 = ad383 := (by injection e383); replace p383 := eq_true p383; replace q383 := eq_true q383; obtain ⟨Ao117, co117, eo117⟩ := Kd.R_slice HO_10.out; subst eo117) | (go_at_call 55; (with_reducible refine (laws_contains.calls k3 _ _ t368 ((rd_T68 t363 x11_3).f0.f0) true _ ?side1 ?side2 A110.out).mono ?_); (case side1 => repeat (first | exact (Kd.R_reads' HO_10.out).2.2 | (with_reducible refine Kd.C_alloc ?_ _) | (with_reducible refine Kd.C_drewN ?_ _) | (with_reducible refine Kd.C_drew ?_))); (case side2 => exact (Kd.R_reads' HO_10.out).2.1); rintro e w' ⟨rfl, ⟨nd, rfl⟩⟩) | (go_at_call 56; (with_reducible refine (impl_AreFinds.calls k3 _ _ t363 true _ ?side1 ?side2 A112.out).mono ?_); (case side1 => repeat (first | exact (Kd.R_reads' HO_7.out).2.2 | (with_reducible refine Kd.C_alloc ?_ _) | (with_reducible refine Kd.C_drewN ?_ _) | (with_reducible refine Kd.C_drew ?_))); (case side2 => exact (Kd.R_reads' HO_7.out).2.1); rintro e w118 ⟨rfl, hb⟩; have n0_ := Aside0.mk (Kd.R_below (by (with_reducible repeat (first | apply Kd.R_alloc | apply Kd.R_drewN | apply Kd.R_drew)); exact HO_7.out) hb); have n1_ := Aside0.mk (Kd.R_below (by (with_reducible repeat (first | apply Kd.R_alloc | apply Kd.R_drewN | apply Kd.R_drew)); exact HO_10.out) hb); have n2_ := Aside0.mk (blk_below (g := gb355) (o := .cells #[.int .i64 t346, .int .i64 t347, .int .i64 t348, .int .i64 t349, .int .i64 t350, .int .i64 t351, .int .i64 t352, .int .i64 t353] 68 (0, 0)) (by (with_reducible repeat (first | refine blk_drewN ?_ _ | refine blk_drew ?_ | refine blk_alloc ?_ _)); exact BK355.out) hb); have n3_ := Aside0.mk (below_step (by repeat (first | (with_reducible first | exact HB.out | apply below_alloc | apply pw_below_drewN | apply below_drew1 | refine below_set ?_ GE355.out) | exact HB.out)) hb); clear HO_7; clear HO_10; clear BK355; clear HB; have HO_7 := n0_; have HO_10 := n1_; have BK355 := n2_; have HB := n3_; clear n0_ n1_ n2_ n3_; (try clear hb); (try clear hb2); (try clear hk); (try clear hi); have p386 : 0 ≤ (x11_3 : Int) := of_decide_eq_true (by first | (with_reducible assumption) | assumption); have q386 : x11_3 < (t363.length : Int) := of_decide_eq_true (by first | (with_reducible assumption) | assumption); obtain ⟨ad386, e386, hx386_0, hx386_1, hx386_2, hx386_3, hx386_4, hx386_5, hx386_6, hx386_7⟩ := at_T68 (Kd.R_reads' HO_7.out).2.2 x11_3 p386 q386; obtain rfl : ad371 = ad386 := (by injection e386); replace p386 := eq_true p386; replace q386 := eq_true q386) | (go_at_call 50; (with_reducible refine (impl_IsDue.calls k3 ((rd_T68 t363 x11_3).f0.f0) ((rd_T68 t363 x11_3).f0.f1) ((rd_T68 t363 x11_3).f0.f2) ((rd_T68 t363 x11_3).f0.f3) ((rd_T68 t363 x11_3).f0.f4) ((rd_T68 t363 x11_3).f1) ((rd_T68 t363 x11_3).f2) ((rd_T68 t363 x11_3).f3) t364 true _ A114.out).mono ?_); rintro e w119 ⟨rfl, hb⟩; have n0_ := Aside0.mk (Kd.R_below (by (with_reducible repeat (first | apply Kd.R_alloc | apply Kd.R_drewN | apply Kd.R_drew)); exact HO_7.out) hb); have n1_ := Aside0.mk (Kd.R_below (by (with_reducible repeat (first | apply Kd.R_alloc | apply Kd.R_drewN | apply Kd.R_drew)); exact HO_10.out) hb); have n2_ := Aside0.mk (blk_below (g := gb355) (o := .cells #[.int .i64 t346, .int .i64 t347, .int .i64 t348, .int .i64 t349, .int .i64 t350, .int .i64 t351, .int .i64 t352, .int .i64 t353] 68 (0, 0)) (by (with_reducible repeat (first | refine blk_drewN ?_ _ | refine blk_drew ?_ | refine blk_alloc ?_ _)); exact BK355.out) hb); have n3_ := Aside0.mk (below_step (by repeat (first | (with_reducible first | exact HB.out | apply below_alloc | apply pw_below_drewN | apply below_drew1 | refine below_set ?_ GE355.out) | exact HB.out)) hb); clear HO_7; clear HO_10; clear BK355; clear HB; have HO_7 := n0_; have HO_10 := n1_; have BK355 := n2_; have HB := n3_; clear n0_ n1_ n2_ n3_; (try clear hb); (try clear hb2); (try clear hk); (try clear hi)))
                go_roundg k3
                case measure => have := HJ5.out; have := HJ41.out; have := HK3.out; omega
                case rel => exact ⟨(wrap64 (x11_3 + 1)), (by first | rfl | (simp; done) | (simp [*]; done)), H', ⟨by have := HJ5.out; have := HJ41.out; have := HK3.out; omega⟩, ⟨by (with_reducible repeat (first | apply Kd.R_alloc | apply Kd.R_drewN | apply Kd.R_drew)); exact HO_7.out⟩, ⟨by (with_reducible repeat (first | apply Kd.R_alloc | apply Kd.R_drewN | apply Kd.R_drew)); exact HO_10.out⟩, ⟨by (with_reducible repeat (first | refine blk_drewN ?_ _ | refine blk_drew ?_ | refine blk_alloc ?_ _)); exact BK355.out⟩, ⟨by repeat (first | (with_reducible first | exact HB.out | apply below_alloc | apply pw_below_drewN | apply below_drew1 | refine below_set ?_ GE355.out) | exact HB.out)⟩⟩
              rw [if_pos c66] at H
              have c66b0 : decide (t364 < t372) = true := decide_eq_true c66
              clear c66
              by_cases c67 : t372 ≥ 0
              rotate_left
              · rw [if_neg c67] at H
                have c67b0 : decide (0 ≤ t372) = false := decide_eq_false c67
                clear c67
                replace H := Option.bind_eq_some_iff.mp H
                obtain ⟨t379, A910, H⟩ := H
                replace H : (if t379 = true then ((impl_AreFinds.f k3 t363).bind fun t380 => (if t380 = true then ((impl_IsDue.f k3 ((rd_T68 t363 x11_3).f0.f0) ((rd_T68 t363 x11_3).f0.f1) ((rd_T68 t363 x11_3).f0.f2) ((rd_T68 t363 x11_3).f0.f3) ((rd_T68 t363 x11_3).f0.f4) ((rd_T68 t363 x11_3).f1) ((rd_T68 t363 x11_3).f2) ((rd_T68 t363 x11_3).f3) t364).bind fun t382 => (if t382 = true then (laws_FnKept.l0 k3 t363 t364 t367 t368 (wrap64 (x11_3 + 1))) else (some false))) else (laws_FnKept.l0 k3 t363 t364 t367 t368 (wrap64 (x11_3 + 1))))) else (laws_FnKept.l0 k3 t363 t364 t367 t368 (wrap64 (x11_3 + 1)))) = some r := H
                have A91 := Aside0.mk A910
                clear A910
                by_cases c92 : t379 = true
                rotate_left
                · replace c92 := Bool.eq_false_iff.mpr c92
                  subst c92
                  have H1 : (laws_FnKept.l0 k3 t363 t364 t367 t368 (wrap64 (x11_3 + 1))) = some r := by rw [if_neg (show ¬ (false = true) by decide)] at H; exact H
                  clear H
                  have H := H1
                  clear H1
                  have H' := Aside0.mk H
                  clear H
                  have p371 : 0 ≤ (x11_3 : Int) := of_decide_eq_true (by first | (with_reducible assumption) | assumption)
                  have q371 : x11_3 < (t363.length : Int) := of_decide_eq_true (by first | (with_reducible assumption) | assumption)
                  obtain ⟨ad371, e371, hx371_0, hx371_1, hx371_2, hx371_3, hx371_4, hx371_5, hx371_6, hx371_7⟩ := at_T68 (Kd.R_reads' HO_7.out).2.2 x11_3 p371 q371
                  cases e371
                  replace p371 := eq_true p371
                  replace q371 := eq_true q371
                  go_wp2_with (first | ((with_reducible refine gate_callee (f := 48) rfl ?_); refine goesL_ (some 98) rfl rfl Try.func48 (by kernel_rfl) rfl #[.agg #[.int .i64 ((rd_T68 t363 x11_3).f0.f0), .int .i64 ((rd_T68 t363 x11_3).f0.f1), .int .i64 ((rd_T68 t363 x11_3).f0.f2), .int .i64 ((rd_T68 t363 x11_3).f0.f3), .int .i64 ((rd_T68 t363 x11_3).f0.f4), .int .i64 ((rd_T68 t363 x11_3).f1), .int .i64 ((rd_T68 t363 x11_3).f2), .int .i64 ((rd_T68 t363 x11_3).f3)]] rfl (by (try simp only [List.map_toArray, List.map_cons, List.map_nil]); first | done | rfl | (simp only [List.length_drop, List.length_take]; rfl)) ?_; (with_reducible refine (impl_DueHour.calls k3 ((rd_T68 t363 x11_3).f0.f0) ((rd_T68 t363 x11_3).f0.f1) ((rd_T68 t363 x11_3).f0.f2) ((rd_T68 t363 x11_3).f0.f3) ((rd_T68 t363 x11_3).f0.f4) ((rd_T68 t363 x11_3).f1) ((rd_T68 t363 x11_3).f2) ((rd_T68 t363 x11_3).f3) t372 _ A65.out).mono ?_); rintro e w108 ⟨rfl, hb⟩; refine ⟨_, rfl, ?_⟩; have n0_ := Aside0.mk (Kd.R_below (by (with_reducible repeat (first | apply Kd.R_alloc | apply Kd.R_drewN | apply Kd.R_drew)); exact HO_7.out) hb); have n1_ := Aside0.mk (Kd.R_below (by (with_reducible repeat (first | apply Kd.R_alloc | apply Kd.R_drewN | apply Kd.R_drew)); exact HO_10.out) hb); have n2_ := Aside0.mk (blk_below (g := gb355) (o := .cells #[.int .i64 t346, .int .i64 t347, .int .i64 t348, .int .i64 t349, .int .i64 t350, .int .i64 t351, .int .i64 t352, .int .i64 t353] 68 (0, 0)) (by (with_reducible repeat (first | refine blk_drewN ?_ _ | refine blk_drew ?_ | refine blk_alloc ?_ _)); exact BK355.out) hb); have n3_ := Aside0.mk (below_step (by repeat (first | (with_reducible first | exact HB.out | apply below_alloc | apply pw_below_drewN | apply below_drew1 | refine below_set ?_ GE355.out) | exact HB.out)) hb); clear HO_7; clear HO_10; clear BK355; clear HB; have HO_7 := n0_; have HO_10 := n1_; have BK355 := n2_; have HB := n3_; clear n0_ n1_ n2_ n3_; (try clear hb); (try clear hb2); (try clear hk); (try clear hi); have p378 : 0 ≤ (x11_3 : Int) := of_decide_eq_true (by first | (with_reducible assumption) | assumption); have q378 : x11_3 < (t363.length : Int) := of_decide_eq_true (by first | (with_reducible assumption) | assumption); obtain ⟨ad378, e378, hx378_0, hx378_1, hx378_2, hx378_3, hx378_4, hx378_5, hx378_6, hx378_7⟩ := at_T68 (Kd.R_reads' HO_7.out).2.2 x11_3 p378 q378; obtain rfl : ad371 = ad378 := (by injection e378); replace p378 := eq_true p378; replace q378 := eq_true q378; obtain ⟨Ao109, co109, eo109⟩ := Kd.R_slice HO_10.out; subst eo109) | (go_at_call 55; (with_reducible refine (laws_contains.calls k3 _ _ t368 ((rd_T68 t363 x11_3).f0.f0) false _ ?side1 ?side2 A91.out).mono ?_); (case side1 => repeat (first | exact (Kd.R_reads' HO_10.out).2.2 | (with_reducible refine Kd.C_alloc ?_ _) | (with_reducible refine Kd.C_drewN ?_ _) | (with_reducible refine Kd.C_drew ?_))); (case side2 => exact (Kd.R_reads' HO_10.out).2.1); rintro e w' ⟨rfl, ⟨nd, rfl⟩⟩))
                  go_roundg k3
                  case measure => have := HJ5.out; have := HJ41.out; have := HK3.out; omega
                  case rel => exact ⟨(wrap64 (x11_3 + 1)), (by first | rfl | (simp; done) | (simp [*]; done)), H', ⟨by have := HJ5.out; have := HJ41.out; have := HK3.out; omega⟩, ⟨by (with_reducible repeat (first | apply Kd.R_alloc | apply Kd.R_drewN | apply Kd.R_drew)); exact HO_7.out⟩, ⟨by (with_reducible repeat (first | apply Kd.R_alloc | apply Kd.R_drewN | apply Kd.R_drew)); exact HO_10.out⟩, ⟨by (with_reducible repeat (first | refine blk_drewN ?_ _ | refine blk_drew ?_ | refine blk_alloc ?_ _)); exact BK355.out⟩, ⟨by repeat (first | (with_reducible first | exact HB.out | apply below_alloc | apply pw_below_drewN | apply below_drew1 | refine below_set ?_ GE355.out) | exact HB.out)⟩⟩
                subst c92
                have H1 : ((impl_AreFinds.f k3 t363).bind fun t380 => (if t380 = true then ((impl_IsDue.f k3 ((rd_T68 t363 x11_3).f0.f0) ((rd_T68 t363 x11_3).f0.f1) ((rd_T68 t363 x11_3).f0.f2) ((rd_T68 t363 x11_3).f0.f3) ((rd_T68 t363 x11_3).f0.f4) ((rd_T68 t363 x11_3).f1) ((rd_T68 t363 x11_3).f2) ((rd_T68 t363 x11_3).f3) t364).bind fun t382 => (if t382 = true then (laws_FnKept.l0 k3 t363 t364 t367 t368 (wrap64 (x11_3 + 1))) else (some false))) else (laws_FnKept.l0 k3 t363 t364 t367 t368 (wrap64 (x11_3 + 1))))) = some r := by rw [if_pos rfl] at H; exact H
                clear H
                have H := H1
                clear H1
                replace H := Option.bind_eq_some_iff.mp H
                obtain ⟨t380, A930, H⟩ := H
                replace H : (if t380 = true then ((impl_IsDue.f k3 ((rd_T68 t363 x11_3).f0.f0) ((rd_T68 t363 x11_3).f0.f1) ((rd_T68 t363 x11_3).f0.f2) ((rd_T68 t363 x11_3).f0.f3) ((rd_T68 t363 x11_3).f0.f4) ((rd_T68 t363 x11_3).f1) ((rd_T68 t363 x11_3).f2) ((rd_T68 t363 x11_3).f3) t364).bind fun t382 => (if t382 = true then (laws_FnKept.l0 k3 t363 t364 t367 t368 (wrap64 (x11_3 + 1))) else (some false))) else (laws_FnKept.l0 k3 t363 t364 t367 t368 (wrap64 (x11_3 + 1)))) = some r := H
                have A93 := Aside0.mk A930
                clear A930
                by_cases c94 : t380 = true
                rotate_left
                · replace c94 := Bool.eq_false_iff.mpr c94
                  subst c94
                  have H1 : (laws_FnKept.l0 k3 t363 t364 t367 t368 (wrap64 (x11_3 + 1))) = some r := by rw [if_neg (show ¬ (false = true) by decide)] at H; exact H
                  clear H
                  have H := H1
                  clear H1
                  have H' := Aside0.mk H
                  clear H
                  have p371 : 0 ≤ (x11_3 : Int) := of_decide_eq_true (by first | (with_reducible assumption) | assumption)
                  have q371 : x11_3 < (t363.length : Int) := of_decide_eq_true (by first | (with_reducible assumption) | assumption)
                  obtain ⟨ad371, e371, hx371_0, hx371_1, hx371_2, hx371_3, hx371_4, hx371_5, hx371_6, hx371_7⟩ := at_T68 (Kd.R_reads' HO_7.out).2.2 x11_3 p371 q371
                  cases e371
                  replace p371 := eq_true p371
                  replace q371 := eq_true q371
                  go_wp2_with (first | ((with_reducible refine gate_callee (f := 48) rfl ?_); refine goesL_ (some 98) rfl rfl Try.func48 (by kernel_rfl) rfl #[.agg #[.int .i64 ((rd_T68 t363 x11_3).f0.f0), .int .i64 ((rd_T68 t363 x11_3).f0.f1), .int .i64 ((rd_T68 t363 x11_3).f0.f2), .int .i64 ((rd_T68 t363 x11_3).f0.f3), .int .i64 ((rd_T68 t363 x11_3).f0.f4), .int .i64 ((rd_T68 t363 x11_3).f1), .int .i64 ((rd_T68 t363 x11_3).f2), .int .i64 ((rd_T68 t363 x11_3).f3)]] rfl (by (try simp only [List.map_toArray, List.map_cons, List.map_nil]); first | done | rfl | (simp only [List.length_drop, List.length_take]; rfl)) ?_; (with_reducible refine (impl_DueHour.calls k3 ((rd_T68 t363 x11_3).f0.f0) ((rd_T68 t363 x11_3).f0.f1) ((rd_T68 t363 x11_3).f0.f2) ((rd_T68 t363 x11_3).f0.f3) ((rd_T68 t363 x11_3).f0.f4) ((rd_T68 t363 x11_3).f1) ((rd_T68 t363 x11_3).f2) ((rd_T68 t363 x11_3).f3) t372 _ A65.out).mono ?_); rintro e w105 ⟨rfl, hb⟩; refine ⟨_, rfl, ?_⟩; have n0_ := Aside0.mk (Kd.R_below (by (with_reducible repeat (first | apply Kd.R_alloc | apply Kd.R_drewN | apply Kd.R_drew)); exact HO_7.out) hb); have n1_ := Aside0.mk (Kd.R_below (by (with_reducible repeat (first | apply Kd.R_alloc | apply Kd.R_drewN | apply Kd.R_drew)); exact HO_10.out) hb); have n2_ := Aside0.mk (blk_below (g := gb355) (o := .cells #[.int .i64 t346, .int .i64 t347, .int .i64 t348, .int .i64 t349, .int .i64 t350, .int .i64 t351, .int .i64 t352, .int .i64 t353] 68 (0, 0)) (by (with_reducible repeat (first | refine blk_drewN ?_ _ | refine blk_drew ?_ | refine blk_alloc ?_ _)); exact BK355.out) hb); have n3_ := Aside0.mk (below_step (by repeat (first | (with_reducible first | exact HB.out | apply below_alloc | apply pw_below_drewN | apply below_drew1 | refine below_set ?_ GE355.out) | exact HB.out)) hb); clear HO_7; clear HO_10; clear BK355; clear HB; have HO_7 := n0_; have HO_10 := n1_; have BK355 := n2_; have HB := n3_; clear n0_ n1_ n2_ n3_; (try clear hb); (try clear hb2); (try clear hk); (try clear hi); have p378 : 0 ≤ (x11_3 : Int) := of_decide_eq_true (by first | (with_reducible assumption) | assumption); have q378 : x11_3 < (t363.length : Int) := of_decide_eq_true (by first | (with_reducible assumption) | assumption); obtain ⟨ad378, e378, hx378_0, hx378_1, hx378_2, hx378_3, hx378_4, hx378_5, hx378_6, hx378_7⟩ := at_T68 (Kd.R_reads' HO_7.out).2.2 x11_3 p378 q378; obtain rfl : ad371 = ad378 := (by injection e378); replace p378 := eq_true p378; replace q378 := eq_true q378; obtain ⟨Ao106, co106, eo106⟩ := Kd.R_slice HO_10.out; subst eo106) | (go_at_call 55; (with_reducible refine (laws_contains.calls k3 _ _ t368 ((rd_T68 t363 x11_3).f0.f0) true _ ?side1 ?side2 A91.out).mono ?_); (case side1 => repeat (first | exact (Kd.R_reads' HO_10.out).2.2 | (with_reducible refine Kd.C_alloc ?_ _) | (with_reducible refine Kd.C_drewN ?_ _) | (with_reducible refine Kd.C_drew ?_))); (case side2 => exact (Kd.R_reads' HO_10.out).2.1); rintro e w' ⟨rfl, ⟨nd, rfl⟩⟩) | (go_at_call 56; (with_reducible refine (impl_AreFinds.calls k3 _ _ t363 false _ ?side1 ?side2 A93.out).mono ?_); (case side1 => repeat (first | exact (Kd.R_reads' HO_7.out).2.2 | (with_reducible refine Kd.C_alloc ?_ _) | (with_reducible refine Kd.C_drewN ?_ _) | (with_reducible refine Kd.C_drew ?_))); (case side2 => exact (Kd.R_reads' HO_7.out).2.1); rintro e w107 ⟨rfl, hb⟩; have n0_ := Aside0.mk (Kd.R_below (by (with_reducible repeat (first | apply Kd.R_alloc | apply Kd.R_drewN | apply Kd.R_drew)); exact HO_7.out) hb); have n1_ := Aside0.mk (Kd.R_below (by (with_reducible repeat (first | apply Kd.R_alloc | apply Kd.R_drewN | apply Kd.R_drew)); exact HO_10.out) hb); have n2_ := Aside0.mk (blk_below (g := gb355) (o := .cells #[.int .i64 t346, .int .i64 t347, .int .i64 t348, .int .i64 t349, .int .i64 t350, .int .i64 t351, .int .i64 t352, .int .i64 t353] 68 (0, 0)) (by (with_reducible repeat (first | refine blk_drewN ?_ _ | refine blk_drew ?_ | refine blk_alloc ?_ _)); exact BK355.out) hb); have n3_ := Aside0.mk (below_step (by repeat (first | (with_reducible first | exact HB.out | apply below_alloc | apply pw_below_drewN | apply below_drew1 | refine below_set ?_ GE355.out) | exact HB.out)) hb); clear HO_7; clear HO_10; clear BK355; clear HB; have HO_7 := n0_; have HO_10 := n1_; have BK355 := n2_; have HB := n3_; clear n0_ n1_ n2_ n3_; (try clear hb); (try clear hb2); (try clear hk); (try clear hi)))
                  go_roundg k3
                  case measure => have := HJ5.out; have := HJ41.out; have := HK3.out; omega
                  case rel => exact ⟨(wrap64 (x11_3 + 1)), (by first | rfl | (simp; done) | (simp [*]; done)), H', ⟨by have := HJ5.out; have := HJ41.out; have := HK3.out; omega⟩, ⟨by (with_reducible repeat (first | apply Kd.R_alloc | apply Kd.R_drewN | apply Kd.R_drew)); exact HO_7.out⟩, ⟨by (with_reducible repeat (first | apply Kd.R_alloc | apply Kd.R_drewN | apply Kd.R_drew)); exact HO_10.out⟩, ⟨by (with_reducible repeat (first | refine blk_drewN ?_ _ | refine blk_drew ?_ | refine blk_alloc ?_ _)); exact BK355.out⟩, ⟨by repeat (first | (with_reducible first | exact HB.out | apply below_alloc | apply pw_below_drewN | apply below_drew1 | refine below_set ?_ GE355.out) | exact HB.out)⟩⟩
                subst c94
                have H1 : ((impl_IsDue.f k3 ((rd_T68 t363 x11_3).f0.f0) ((rd_T68 t363 x11_3).f0.f1) ((rd_T68 t363 x11_3).f0.f2) ((rd_T68 t363 x11_3).f0.f3) ((rd_T68 t363 x11_3).f0.f4) ((rd_T68 t363 x11_3).f1) ((rd_T68 t363 x11_3).f2) ((rd_T68 t363 x11_3).f3) t364).bind fun t382 => (if t382 = true then (laws_FnKept.l0 k3 t363 t364 t367 t368 (wrap64 (x11_3 + 1))) else (some false))) = some r := by rw [if_pos rfl] at H; exact H
                clear H
                have H := H1
                clear H1
                replace H := Option.bind_eq_some_iff.mp H
                obtain ⟨t382, A950, H⟩ := H
                replace H : (if t382 = true then (laws_FnKept.l0 k3 t363 t364 t367 t368 (wrap64 (x11_3 + 1))) else (some false)) = some r := H
                have A95 := Aside0.mk A950
                clear A950
                by_cases c96 : t382 = true
                rotate_left
                · replace c96 := Bool.eq_false_iff.mpr c96
                  subst c96
                  have H1 : (some false) = some r := by rw [if_neg (show ¬ (false = true) by decide)] at H; exact H
                  clear H
                  have H := H1
                  clear H1
                  obtain rfl := Option.some.inj H
                  have p371 : 0 ≤ (x11_3 : Int) := of_decide_eq_true (by first | (with_reducible assumption) | assumption)
                  have q371 : x11_3 < (t363.length : Int) := of_decide_eq_true (by first | (with_reducible assumption) | assumption)
                  obtain ⟨ad371, e371, hx371_0, hx371_1, hx371_2, hx371_3, hx371_4, hx371_5, hx371_6, hx371_7⟩ := at_T68 (Kd.R_reads' HO_7.out).2.2 x11_3 p371 q371
                  cases e371
                  replace p371 := eq_true p371
                  replace q371 := eq_true q371
                  go_wp2_with (first | ((with_reducible refine gate_callee (f := 48) rfl ?_); refine goesL_ (some 98) rfl rfl Try.func48 (by kernel_rfl) rfl #[.agg #[.int .i64 ((rd_T68 t363 x11_3).f0.f0), .int .i64 ((rd_T68 t363 x11_3).f0.f1), .int .i64 ((rd_T68 t363 x11_3).f0.f2), .int .i64 ((rd_T68 t363 x11_3).f0.f3), .int .i64 ((rd_T68 t363 x11_3).f0.f4), .int .i64 ((rd_T68 t363 x11_3).f1), .int .i64 ((rd_T68 t363 x11_3).f2), .int .i64 ((rd_T68 t363 x11_3).f3)]] rfl (by (try simp only [List.map_toArray, List.map_cons, List.map_nil]); first | done | rfl | (simp only [List.length_drop, List.length_take]; rfl)) ?_; (with_reducible refine (impl_DueHour.calls k3 ((rd_T68 t363 x11_3).f0.f0) ((rd_T68 t363 x11_3).f0.f1) ((rd_T68 t363 x11_3).f0.f2) ((rd_T68 t363 x11_3).f0.f3) ((rd_T68 t363 x11_3).f0.f4) ((rd_T68 t363 x11_3).f1) ((rd_T68 t363 x11_3).f2) ((rd_T68 t363 x11_3).f3) t372 _ A65.out).mono ?_); rintro e w101 ⟨rfl, hb⟩; refine ⟨_, rfl, ?_⟩; have n0_ := Aside0.mk (Kd.R_below (by (with_reducible repeat (first | apply Kd.R_alloc | apply Kd.R_drewN | apply Kd.R_drew)); exact HO_7.out) hb); have n1_ := Aside0.mk (Kd.R_below (by (with_reducible repeat (first | apply Kd.R_alloc | apply Kd.R_drewN | apply Kd.R_drew)); exact HO_10.out) hb); have n2_ := Aside0.mk (blk_below (g := gb355) (o := .cells #[.int .i64 t346, .int .i64 t347, .int .i64 t348, .int .i64 t349, .int .i64 t350, .int .i64 t351, .int .i64 t352, .int .i64 t353] 68 (0, 0)) (by (with_reducible repeat (first | refine blk_drewN ?_ _ | refine blk_drew ?_ | refine blk_alloc ?_ _)); exact BK355.out) hb); have n3_ := Aside0.mk (below_step (by repeat (first | (with_reducible first | exact HB.out | apply below_alloc | apply pw_below_drewN | apply below_drew1 | refine below_set ?_ GE355.out) | exact HB.out)) hb); clear HO_7; clear HO_10; clear BK355; clear HB; have HO_7 := n0_; have HO_10 := n1_; have BK355 := n2_; have HB := n3_; clear n0_ n1_ n2_ n3_; (try clear hb); (try clear hb2); (try clear hk); (try clear hi); have p378 : 0 ≤ (x11_3 : Int) := of_decide_eq_true (by first | (with_reducible assumption) | assumption); have q378 : x11_3 < (t363.length : Int) := of_decide_eq_true (by first | (with_reducible assumption) | assumption); obtain ⟨ad378, e378, hx378_0, hx378_1, hx378_2, hx378_3, hx378_4, hx378_5, hx378_6, hx378_7⟩ := at_T68 (Kd.R_reads' HO_7.out).2.2 x11_3 p378 q378; obtain rfl : ad371 = ad378 := (by injection e378); replace p378 := eq_true p378; replace q378 := eq_true q378; obtain ⟨Ao102, co102, eo102⟩ := Kd.R_slice HO_10.out; subst eo102) | (go_at_call 55; (with_reducible refine (laws_contains.calls k3 _ _ t368 ((rd_T68 t363 x11_3).f0.f0) true _ ?side1 ?side2 A91.out).mono ?_); (case side1 => repeat (first | exact (Kd.R_reads' HO_10.out).2.2 | (with_reducible refine Kd.C_alloc ?_ _) | (with_reducible refine Kd.C_drewN ?_ _) | (with_reducible refine Kd.C_drew ?_))); (case side2 => exact (Kd.R_reads' HO_10.out).2.1); rintro e w' ⟨rfl, ⟨nd, rfl⟩⟩) | (go_at_call 56; (with_reducible refine (impl_AreFinds.calls k3 _ _ t363 true _ ?side1 ?side2 A93.out).mono ?_); (case side1 => repeat (first | exact (Kd.R_reads' HO_7.out).2.2 | (with_reducible refine Kd.C_alloc ?_ _) | (with_reducible refine Kd.C_drewN ?_ _) | (with_reducible refine Kd.C_drew ?_))); (case side2 => exact (Kd.R_reads' HO_7.out).2.1); rintro e w103 ⟨rfl, hb⟩; have n0_ := Aside0.mk (Kd.R_below (by (with_reducible repeat (first | apply Kd.R_alloc | apply Kd.R_drewN | apply Kd.R_drew)); exact HO_7.out) hb); have n1_ := Aside0.mk (Kd.R_below (by (with_reducible repeat (first | apply Kd.R_alloc | apply Kd.R_drewN | apply Kd.R_drew)); exact HO_10.out) hb); have n2_ := Aside0.mk (blk_below (g := gb355) (o := .cells #[.int .i64 t346, .int .i64 t347, .int .i64 t348, .int .i64 t349, .int .i64 t350, .int .i64 t351, .int .i64 t352, .int .i64 t353] 68 (0, 0)) (by (with_reducible repeat (first | refine blk_drewN ?_ _ | refine blk_drew ?_ | refine blk_alloc ?_ _)); exact BK355.out) hb); have n3_ := Aside0.mk (below_step (by repeat (first | (with_reducible first | exact HB.out | apply below_alloc | apply pw_below_drewN | apply below_drew1 | refine below_set ?_ GE355.out) | exact HB.out)) hb); clear HO_7; clear HO_10; clear BK355; clear HB; have HO_7 := n0_; have HO_10 := n1_; have BK355 := n2_; have HB := n3_; clear n0_ n1_ n2_ n3_; (try clear hb); (try clear hb2); (try clear hk); (try clear hi); have p381 : 0 ≤ (x11_3 : Int) := of_decide_eq_true (by first | (with_reducible assumption) | assumption); have q381 : x11_3 < (t363.length : Int) := of_decide_eq_true (by first | (with_reducible assumption) | assumption); obtain ⟨ad381, e381, hx381_0, hx381_1, hx381_2, hx381_3, hx381_4, hx381_5, hx381_6, hx381_7⟩ := at_T68 (Kd.R_reads' HO_7.out).2.2 x11_3 p381 q381; obtain rfl : ad371 = ad381 := (by injection e381); replace p381 := eq_true p381; replace q381 := eq_true q381) | (go_at_call 50; (with_reducible refine (impl_IsDue.calls k3 ((rd_T68 t363 x11_3).f0.f0) ((rd_T68 t363 x11_3).f0.f1) ((rd_T68 t363 x11_3).f0.f2) ((rd_T68 t363 x11_3).f0.f3) ((rd_T68 t363 x11_3).f0.f4) ((rd_T68 t363 x11_3).f1) ((rd_T68 t363 x11_3).f2) ((rd_T68 t363 x11_3).f3) t364 false _ A95.out).mono ?_); rintro e w104 ⟨rfl, hb⟩; have n0_ := Aside0.mk (Kd.R_below (by (with_reducible repeat (first | apply Kd.R_alloc | apply Kd.R_drewN | apply Kd.R_drew)); exact HO_7.out) hb); have n1_ := Aside0.mk (Kd.R_below (by (with_reducible repeat (first | apply Kd.R_alloc | apply Kd.R_drewN | apply Kd.R_drew)); exact HO_10.out) hb); have n2_ := Aside0.mk (blk_below (g := gb355) (o := .cells #[.int .i64 t346, .int .i64 t347, .int .i64 t348, .int .i64 t349, .int .i64 t350, .int .i64 t351, .int .i64 t352, .int .i64 t353] 68 (0, 0)) (by (with_reducible repeat (first | refine blk_drewN ?_ _ | refine blk_drew ?_ | refine blk_alloc ?_ _)); exact BK355.out) hb); have n3_ := Aside0.mk (below_step (by repeat (first | (with_reducible first | exact HB.out | apply below_alloc | apply pw_below_drewN | apply below_drew1 | refine below_set ?_ GE355.out) | exact HB.out)) hb); clear HO_7; clear HO_10; clear BK355; clear HB; have HO_7 := n0_; have HO_10 := n1_; have BK355 := n2_; have HB := n3_; clear n0_ n1_ n2_ n3_; (try clear hb); (try clear hb2); (try clear hk); (try clear hi)))
                  go_ret
                  exact ⟨by first | rfl | (simp [errW_none, errW_some] <;> rfl) | (simp [*, errW_none, errW_some] <;> rfl), by repeat (first | (with_reducible first | exact HB.out | apply below_alloc | apply pw_below_drewN | apply below_drew1 | refine below_set ?_ GE355.out) | exact HB.out)⟩
                subst c96
                have H1 : (laws_FnKept.l0 k3 t363 t364 t367 t368 (wrap64 (x11_3 + 1))) = some r := by rw [if_pos rfl] at H; exact H
                clear H
                have H := H1
                clear H1
                have H' := Aside0.mk H
                clear H
                have p371 : 0 ≤ (x11_3 : Int) := of_decide_eq_true (by first | (with_reducible assumption) | assumption)
                have q371 : x11_3 < (t363.length : Int) := of_decide_eq_true (by first | (with_reducible assumption) | assumption)
                obtain ⟨ad371, e371, hx371_0, hx371_1, hx371_2, hx371_3, hx371_4, hx371_5, hx371_6, hx371_7⟩ := at_T68 (Kd.R_reads' HO_7.out).2.2 x11_3 p371 q371
                cases e371
                replace p371 := eq_true p371
                replace q371 := eq_true q371
                go_wp2_with (first | ((with_reducible refine gate_callee (f := 48) rfl ?_); refine goesL_ (some 98) rfl rfl Try.func48 (by kernel_rfl) rfl #[.agg #[.int .i64 ((rd_T68 t363 x11_3).f0.f0), .int .i64 ((rd_T68 t363 x11_3).f0.f1), .int .i64 ((rd_T68 t363 x11_3).f0.f2), .int .i64 ((rd_T68 t363 x11_3).f0.f3), .int .i64 ((rd_T68 t363 x11_3).f0.f4), .int .i64 ((rd_T68 t363 x11_3).f1), .int .i64 ((rd_T68 t363 x11_3).f2), .int .i64 ((rd_T68 t363 x11_3).f3)]] rfl (by (try simp only [List.map_toArray, List.map_cons, List.map_nil]); first | done | rfl | (simp only [List.length_drop, List.length_take]; rfl)) ?_; (with_reducible refine (impl_DueHour.calls k3 ((rd_T68 t363 x11_3).f0.f0) ((rd_T68 t363 x11_3).f0.f1) ((rd_T68 t363 x11_3).f0.f2) ((rd_T68 t363 x11_3).f0.f3) ((rd_T68 t363 x11_3).f0.f4) ((rd_T68 t363 x11_3).f1) ((rd_T68 t363 x11_3).f2) ((rd_T68 t363 x11_3).f3) t372 _ A65.out).mono ?_); rintro e w97 ⟨rfl, hb⟩; refine ⟨_, rfl, ?_⟩; have n0_ := Aside0.mk (Kd.R_below (by (with_reducible repeat (first | apply Kd.R_alloc | apply Kd.R_drewN | apply Kd.R_drew)); exact HO_7.out) hb); have n1_ := Aside0.mk (Kd.R_below (by (with_reducible repeat (first | apply Kd.R_alloc | apply Kd.R_drewN | apply Kd.R_drew)); exact HO_10.out) hb); have n2_ := Aside0.mk (blk_below (g := gb355) (o := .cells #[.int .i64 t346, .int .i64 t347, .int .i64 t348, .int .i64 t349, .int .i64 t350, .int .i64 t351, .int .i64 t352, .int .i64 t353] 68 (0, 0)) (by (with_reducible repeat (first | refine blk_drewN ?_ _ | refine blk_drew ?_ | refine blk_alloc ?_ _)); exact BK355.out) hb); have n3_ := Aside0.mk (below_step (by repeat (first | (with_reducible first | exact HB.out | apply below_alloc | apply pw_below_drewN | apply below_drew1 | refine below_set ?_ GE355.out) | exact HB.out)) hb); clear HO_7; clear HO_10; clear BK355; clear HB; have HO_7 := n0_; have HO_10 := n1_; have BK355 := n2_; have HB := n3_; clear n0_ n1_ n2_ n3_; (try clear hb); (try clear hb2); (try clear hk); (try clear hi); have p378 : 0 ≤ (x11_3 : Int) := of_decide_eq_true (by first | (with_reducible assumption) | assumption); have q378 : x11_3 < (t363.length : Int) := of_decide_eq_true (by first | (with_reducible assumption) | assumption); obtain ⟨ad378, e378, hx378_0, hx378_1, hx378_2, hx378_3, hx378_4, hx378_5, hx378_6, hx378_7⟩ := at_T68 (Kd.R_reads' HO_7.out).2.2 x11_3 p378 q378; obtain rfl : ad371 = ad378 := (by injection e378); replace p378 := eq_true p378; replace q378 := eq_true q378; obtain ⟨Ao98, co98, eo98⟩ := Kd.R_slice HO_10.out; subst eo98) | (go_at_call 55; (with_reducible refine (laws_contains.calls k3 _ _ t368 ((rd_T68 t363 x11_3).f0.f0) true _ ?side1 ?side2 A91.out).mono ?_); (case side1 => repeat (first | exact (Kd.R_reads' HO_10.out).2.2 | (with_reducible refine Kd.C_alloc ?_ _) | (with_reducible refine Kd.C_drewN ?_ _) | (with_reducible refine Kd.C_drew ?_))); (case side2 => exact (Kd.R_reads' HO_10.out).2.1); rintro e w' ⟨rfl, ⟨nd, rfl⟩⟩) | (go_at_call 56; (with_reducible refine (impl_AreFinds.calls k3 _ _ t363 true _ ?side1 ?side2 A93.out).mono ?_); (case side1 => repeat (first | exact (Kd.R_reads' HO_7.out).2.2 | (with_reducible refine Kd.C_alloc ?_ _) | (with_reducible refine Kd.C_drewN ?_ _) | (with_reducible refine Kd.C_drew ?_))); (case side2 => exact (Kd.R_reads' HO_7.out).2.1); rintro e w99 ⟨rfl, hb⟩; have n0_ := Aside0.mk (Kd.R_below (by (with_reducible repeat (first | apply Kd.R_alloc | apply Kd.R_drewN | apply Kd.R_drew)); exact HO_7.out) hb); have n1_ := Aside0.mk (Kd.R_below (by (with_reducible repeat (first | apply Kd.R_alloc | apply Kd.R_drewN | apply Kd.R_drew)); exact HO_10.out) hb); have n2_ := Aside0.mk (blk_below (g := gb355) (o := .cells #[.int .i64 t346, .int .i64 t347, .int .i64 t348, .int .i64 t349, .int .i64 t350, .int .i64 t351, .int .i64 t352, .int .i64 t353] 68 (0, 0)) (by (with_reducible repeat (first | refine blk_drewN ?_ _ | refine blk_drew ?_ | refine blk_alloc ?_ _)); exact BK355.out) hb); have n3_ := Aside0.mk (below_step (by repeat (first | (with_reducible first | exact HB.out | apply below_alloc | apply pw_below_drewN | apply below_drew1 | refine below_set ?_ GE355.out) | exact HB.out)) hb); clear HO_7; clear HO_10; clear BK355; clear HB; have HO_7 := n0_; have HO_10 := n1_; have BK355 := n2_; have HB := n3_; clear n0_ n1_ n2_ n3_; (try clear hb); (try clear hb2); (try clear hk); (try clear hi); have p381 : 0 ≤ (x11_3 : Int) := of_decide_eq_true (by first | (with_reducible assumption) | assumption); have q381 : x11_3 < (t363.length : Int) := of_decide_eq_true (by first | (with_reducible assumption) | assumption); obtain ⟨ad381, e381, hx381_0, hx381_1, hx381_2, hx381_3, hx381_4, hx381_5, hx381_6, hx381_7⟩ := at_T68 (Kd.R_reads' HO_7.out).2.2 x11_3 p381 q381; obtain rfl : ad371 = ad381 := (by injection e381); replace p381 := eq_true p381; replace q381 := eq_true q381) | (go_at_call 50; (with_reducible refine (impl_IsDue.calls k3 ((rd_T68 t363 x11_3).f0.f0) ((rd_T68 t363 x11_3).f0.f1) ((rd_T68 t363 x11_3).f0.f2) ((rd_T68 t363 x11_3).f0.f3) ((rd_T68 t363 x11_3).f0.f4) ((rd_T68 t363 x11_3).f1) ((rd_T68 t363 x11_3).f2) ((rd_T68 t363 x11_3).f3) t364 true _ A95.out).mono ?_); rintro e w100 ⟨rfl, hb⟩; have n0_ := Aside0.mk (Kd.R_below (by (with_reducible repeat (first | apply Kd.R_alloc | apply Kd.R_drewN | apply Kd.R_drew)); exact HO_7.out) hb); have n1_ := Aside0.mk (Kd.R_below (by (with_reducible repeat (first | apply Kd.R_alloc | apply Kd.R_drewN | apply Kd.R_drew)); exact HO_10.out) hb); have n2_ := Aside0.mk (blk_below (g := gb355) (o := .cells #[.int .i64 t346, .int .i64 t347, .int .i64 t348, .int .i64 t349, .int .i64 t350, .int .i64 t351, .int .i64 t352, .int .i64 t353] 68 (0, 0)) (by (with_reducible repeat (first | refine blk_drewN ?_ _ | refine blk_drew ?_ | refine blk_alloc ?_ _)); exact BK355.out) hb); have n3_ := Aside0.mk (below_step (by repeat (first | (with_reducible first | exact HB.out | apply below_alloc | apply pw_below_drewN | apply below_drew1 | refine below_set ?_ GE355.out) | exact HB.out)) hb); clear HO_7; clear HO_10; clear BK355; clear HB; have HO_7 := n0_; have HO_10 := n1_; have BK355 := n2_; have HB := n3_; clear n0_ n1_ n2_ n3_; (try clear hb); (try clear hb2); (try clear hk); (try clear hi)))
                go_roundg k3
                case measure => have := HJ5.out; have := HJ41.out; have := HK3.out; omega
                case rel => exact ⟨(wrap64 (x11_3 + 1)), (by first | rfl | (simp; done) | (simp [*]; done)), H', ⟨by have := HJ5.out; have := HJ41.out; have := HK3.out; omega⟩, ⟨by (with_reducible repeat (first | apply Kd.R_alloc | apply Kd.R_drewN | apply Kd.R_drew)); exact HO_7.out⟩, ⟨by (with_reducible repeat (first | apply Kd.R_alloc | apply Kd.R_drewN | apply Kd.R_drew)); exact HO_10.out⟩, ⟨by (with_reducible repeat (first | refine blk_drewN ?_ _ | refine blk_drew ?_ | refine blk_alloc ?_ _)); exact BK355.out⟩, ⟨by repeat (first | (with_reducible first | exact HB.out | apply below_alloc | apply pw_below_drewN | apply below_drew1 | refine below_set ?_ GE355.out) | exact HB.out)⟩⟩
              rw [if_pos c67] at H
              have c67b0 : decide (0 ≤ t372) = true := decide_eq_true c67
              clear c67
              by_cases c68 : t367 < 0
              · rw [if_pos c68] at H
                have c68b0 : decide (t367 < 0) = true := decide_eq_true c68
                clear c68
                obtain rfl := Option.some.inj H
                have p371 : 0 ≤ (x11_3 : Int) := of_decide_eq_true (by first | (with_reducible assumption) | assumption)
                have q371 : x11_3 < (t363.length : Int) := of_decide_eq_true (by first | (with_reducible assumption) | assumption)
                obtain ⟨ad371, e371, hx371_0, hx371_1, hx371_2, hx371_3, hx371_4, hx371_5, hx371_6, hx371_7⟩ := at_T68 (Kd.R_reads' HO_7.out).2.2 x11_3 p371 q371
                cases e371
                replace p371 := eq_true p371
                replace q371 := eq_true q371
                go_wp2_with (first | ((with_reducible refine gate_callee (f := 48) rfl ?_); refine goesL_ (some 98) rfl rfl Try.func48 (by kernel_rfl) rfl #[.agg #[.int .i64 ((rd_T68 t363 x11_3).f0.f0), .int .i64 ((rd_T68 t363 x11_3).f0.f1), .int .i64 ((rd_T68 t363 x11_3).f0.f2), .int .i64 ((rd_T68 t363 x11_3).f0.f3), .int .i64 ((rd_T68 t363 x11_3).f0.f4), .int .i64 ((rd_T68 t363 x11_3).f1), .int .i64 ((rd_T68 t363 x11_3).f2), .int .i64 ((rd_T68 t363 x11_3).f3)]] rfl (by (try simp only [List.map_toArray, List.map_cons, List.map_nil]); first | done | rfl | (simp only [List.length_drop, List.length_take]; rfl)) ?_; (with_reducible refine (impl_DueHour.calls k3 ((rd_T68 t363 x11_3).f0.f0) ((rd_T68 t363 x11_3).f0.f1) ((rd_T68 t363 x11_3).f0.f2) ((rd_T68 t363 x11_3).f0.f3) ((rd_T68 t363 x11_3).f0.f4) ((rd_T68 t363 x11_3).f1) ((rd_T68 t363 x11_3).f2) ((rd_T68 t363 x11_3).f3) t372 _ A65.out).mono ?_); rintro e w69 ⟨rfl, hb⟩; refine ⟨_, rfl, ?_⟩; have n0_ := Aside0.mk (Kd.R_below (by (with_reducible repeat (first | apply Kd.R_alloc | apply Kd.R_drewN | apply Kd.R_drew)); exact HO_7.out) hb); have n1_ := Aside0.mk (Kd.R_below (by (with_reducible repeat (first | apply Kd.R_alloc | apply Kd.R_drewN | apply Kd.R_drew)); exact HO_10.out) hb); have n2_ := Aside0.mk (blk_below (g := gb355) (o := .cells #[.int .i64 t346, .int .i64 t347, .int .i64 t348, .int .i64 t349, .int .i64 t350, .int .i64 t351, .int .i64 t352, .int .i64 t353] 68 (0, 0)) (by (with_reducible repeat (first | refine blk_drewN ?_ _ | refine blk_drew ?_ | refine blk_alloc ?_ _)); exact BK355.out) hb); have n3_ := Aside0.mk (below_step (by repeat (first | (with_reducible first | exact HB.out | apply below_alloc | apply pw_below_drewN | apply below_drew1 | refine below_set ?_ GE355.out) | exact HB.out)) hb); clear HO_7; clear HO_10; clear BK355; clear HB; have HO_7 := n0_; have HO_10 := n1_; have BK355 := n2_; have HB := n3_; clear n0_ n1_ n2_ n3_; (try clear hb); (try clear hb2); (try clear hk); (try clear hi)))
                go_ret
                exact ⟨by first | rfl | (simp [errW_none, errW_some] <;> rfl) | (simp [*, errW_none, errW_some] <;> rfl), by repeat (first | (with_reducible first | exact HB.out | apply below_alloc | apply pw_below_drewN | apply below_drew1 | refine below_set ?_ GE355.out) | exact HB.out)⟩
              rw [if_neg c68] at H
              have c68b0 : decide (t367 < 0) = false := decide_eq_false c68
              clear c68
              by_cases c70 : t367 > t372
              · rw [if_pos c70] at H
                have c70b0 : decide (t372 < t367) = true := decide_eq_true c70
                clear c70
                obtain rfl := Option.some.inj H
                have p371 : 0 ≤ (x11_3 : Int) := of_decide_eq_true (by first | (with_reducible assumption) | assumption)
                have q371 : x11_3 < (t363.length : Int) := of_decide_eq_true (by first | (with_reducible assumption) | assumption)
                obtain ⟨ad371, e371, hx371_0, hx371_1, hx371_2, hx371_3, hx371_4, hx371_5, hx371_6, hx371_7⟩ := at_T68 (Kd.R_reads' HO_7.out).2.2 x11_3 p371 q371
                cases e371
                replace p371 := eq_true p371
                replace q371 := eq_true q371
                go_wp2_with (first | ((with_reducible refine gate_callee (f := 48) rfl ?_); refine goesL_ (some 98) rfl rfl Try.func48 (by kernel_rfl) rfl #[.agg #[.int .i64 ((rd_T68 t363 x11_3).f0.f0), .int .i64 ((rd_T68 t363 x11_3).f0.f1), .int .i64 ((rd_T68 t363 x11_3).f0.f2), .int .i64 ((rd_T68 t363 x11_3).f0.f3), .int .i64 ((rd_T68 t363 x11_3).f0.f4), .int .i64 ((rd_T68 t363 x11_3).f1), .int .i64 ((rd_T68 t363 x11_3).f2), .int .i64 ((rd_T68 t363 x11_3).f3)]] rfl (by (try simp only [List.map_toArray, List.map_cons, List.map_nil]); first | done | rfl | (simp only [List.length_drop, List.length_take]; rfl)) ?_; (with_reducible refine (impl_DueHour.calls k3 ((rd_T68 t363 x11_3).f0.f0) ((rd_T68 t363 x11_3).f0.f1) ((rd_T68 t363 x11_3).f0.f2) ((rd_T68 t363 x11_3).f0.f3) ((rd_T68 t363 x11_3).f0.f4) ((rd_T68 t363 x11_3).f1) ((rd_T68 t363 x11_3).f2) ((rd_T68 t363 x11_3).f3) t372 _ A65.out).mono ?_); rintro e w71 ⟨rfl, hb⟩; refine ⟨_, rfl, ?_⟩; have n0_ := Aside0.mk (Kd.R_below (by (with_reducible repeat (first | apply Kd.R_alloc | apply Kd.R_drewN | apply Kd.R_drew)); exact HO_7.out) hb); have n1_ := Aside0.mk (Kd.R_below (by (with_reducible repeat (first | apply Kd.R_alloc | apply Kd.R_drewN | apply Kd.R_drew)); exact HO_10.out) hb); have n2_ := Aside0.mk (blk_below (g := gb355) (o := .cells #[.int .i64 t346, .int .i64 t347, .int .i64 t348, .int .i64 t349, .int .i64 t350, .int .i64 t351, .int .i64 t352, .int .i64 t353] 68 (0, 0)) (by (with_reducible repeat (first | refine blk_drewN ?_ _ | refine blk_drew ?_ | refine blk_alloc ?_ _)); exact BK355.out) hb); have n3_ := Aside0.mk (below_step (by repeat (first | (with_reducible first | exact HB.out | apply below_alloc | apply pw_below_drewN | apply below_drew1 | refine below_set ?_ GE355.out) | exact HB.out)) hb); clear HO_7; clear HO_10; clear BK355; clear HB; have HO_7 := n0_; have HO_10 := n1_; have BK355 := n2_; have HB := n3_; clear n0_ n1_ n2_ n3_; (try clear hb); (try clear hb2); (try clear hk); (try clear hi)))
                go_ret
                exact ⟨by first | rfl | (simp [errW_none, errW_some] <;> rfl) | (simp [*, errW_none, errW_some] <;> rfl), by repeat (first | (with_reducible first | exact HB.out | apply below_alloc | apply pw_below_drewN | apply below_drew1 | refine below_set ?_ GE355.out) | exact HB.out)⟩
              rw [if_neg c70] at H
              have c70b0 : decide (t372 < t367) = false := decide_eq_false c70
              clear c70
              replace H := Option.bind_eq_some_iff.mp H
              obtain ⟨t374, A720, H⟩ := H
              replace H : (if t374 = true then ((impl_AreFinds.f k3 t363).bind fun t375 => (if t375 = true then ((impl_IsDue.f k3 ((rd_T68 t363 x11_3).f0.f0) ((rd_T68 t363 x11_3).f0.f1) ((rd_T68 t363 x11_3).f0.f2) ((rd_T68 t363 x11_3).f0.f3) ((rd_T68 t363 x11_3).f0.f4) ((rd_T68 t363 x11_3).f1) ((rd_T68 t363 x11_3).f2) ((rd_T68 t363 x11_3).f3) t364).bind fun t377 => (if t377 = true then (laws_FnKept.l0 k3 t363 t364 t367 t368 (wrap64 (x11_3 + 1))) else (some false))) else (laws_FnKept.l0 k3 t363 t364 t367 t368 (wrap64 (x11_3 + 1))))) else (laws_FnKept.l0 k3 t363 t364 t367 t368 (wrap64 (x11_3 + 1)))) = some r := H
              have A72 := Aside0.mk A720
              clear A720
              by_cases c73 : t374 = true
              rotate_left
              · replace c73 := Bool.eq_false_iff.mpr c73
                subst c73
                have H1 : (laws_FnKept.l0 k3 t363 t364 t367 t368 (wrap64 (x11_3 + 1))) = some r := by rw [if_neg (show ¬ (false = true) by decide)] at H; exact H
                clear H
                have H := H1
                clear H1
                have H' := Aside0.mk H
                clear H
                have p371 : 0 ≤ (x11_3 : Int) := of_decide_eq_true (by first | (with_reducible assumption) | assumption)
                have q371 : x11_3 < (t363.length : Int) := of_decide_eq_true (by first | (with_reducible assumption) | assumption)
                obtain ⟨ad371, e371, hx371_0, hx371_1, hx371_2, hx371_3, hx371_4, hx371_5, hx371_6, hx371_7⟩ := at_T68 (Kd.R_reads' HO_7.out).2.2 x11_3 p371 q371
                cases e371
                replace p371 := eq_true p371
                replace q371 := eq_true q371
                go_wp2_with (first | ((with_reducible refine gate_callee (f := 48) rfl ?_); refine goesL_ (some 98) rfl rfl Try.func48 (by kernel_rfl) rfl #[.agg #[.int .i64 ((rd_T68 t363 x11_3).f0.f0), .int .i64 ((rd_T68 t363 x11_3).f0.f1), .int .i64 ((rd_T68 t363 x11_3).f0.f2), .int .i64 ((rd_T68 t363 x11_3).f0.f3), .int .i64 ((rd_T68 t363 x11_3).f0.f4), .int .i64 ((rd_T68 t363 x11_3).f1), .int .i64 ((rd_T68 t363 x11_3).f2), .int .i64 ((rd_T68 t363 x11_3).f3)]] rfl (by (try simp only [List.map_toArray, List.map_cons, List.map_nil]); first | done | rfl | (simp only [List.length_drop, List.length_take]; rfl)) ?_; (with_reducible refine (impl_DueHour.calls k3 ((rd_T68 t363 x11_3).f0.f0) ((rd_T68 t363 x11_3).f0.f1) ((rd_T68 t363 x11_3).f0.f2) ((rd_T68 t363 x11_3).f0.f3) ((rd_T68 t363 x11_3).f0.f4) ((rd_T68 t363 x11_3).f1) ((rd_T68 t363 x11_3).f2) ((rd_T68 t363 x11_3).f3) t372 _ A65.out).mono ?_); rintro e w89 ⟨rfl, hb⟩; refine ⟨_, rfl, ?_⟩; have n0_ := Aside0.mk (Kd.R_below (by (with_reducible repeat (first | apply Kd.R_alloc | apply Kd.R_drewN | apply Kd.R_drew)); exact HO_7.out) hb); have n1_ := Aside0.mk (Kd.R_below (by (with_reducible repeat (first | apply Kd.R_alloc | apply Kd.R_drewN | apply Kd.R_drew)); exact HO_10.out) hb); have n2_ := Aside0.mk (blk_below (g := gb355) (o := .cells #[.int .i64 t346, .int .i64 t347, .int .i64 t348, .int .i64 t349, .int .i64 t350, .int .i64 t351, .int .i64 t352, .int .i64 t353] 68 (0, 0)) (by (with_reducible repeat (first | refine blk_drewN ?_ _ | refine blk_drew ?_ | refine blk_alloc ?_ _)); exact BK355.out) hb); have n3_ := Aside0.mk (below_step (by repeat (first | (with_reducible first | exact HB.out | apply below_alloc | apply pw_below_drewN | apply below_drew1 | refine below_set ?_ GE355.out) | exact HB.out)) hb); clear HO_7; clear HO_10; clear BK355; clear HB; have HO_7 := n0_; have HO_10 := n1_; have BK355 := n2_; have HB := n3_; clear n0_ n1_ n2_ n3_; (try clear hb); (try clear hb2); (try clear hk); (try clear hi); have p373 : 0 ≤ (x11_3 : Int) := of_decide_eq_true (by first | (with_reducible assumption) | assumption); have q373 : x11_3 < (t363.length : Int) := of_decide_eq_true (by first | (with_reducible assumption) | assumption); obtain ⟨ad373, e373, hx373_0, hx373_1, hx373_2, hx373_3, hx373_4, hx373_5, hx373_6, hx373_7⟩ := at_T68 (Kd.R_reads' HO_7.out).2.2 x11_3 p373 q373; obtain rfl : ad371 = ad373 := (by injection e373); replace p373 := eq_true p373; replace q373 := eq_true q373; obtain ⟨Ao90, co90, eo90⟩ := Kd.R_slice HO_10.out; subst eo90) | (go_at_call 55; (with_reducible refine (laws_contains.calls k3 _ _ t368 ((rd_T68 t363 x11_3).f0.f0) false _ ?side1 ?side2 A72.out).mono ?_); (case side1 => repeat (first | exact (Kd.R_reads' HO_10.out).2.2 | (with_reducible refine Kd.C_alloc ?_ _) | (with_reducible refine Kd.C_drewN ?_ _) | (with_reducible refine Kd.C_drew ?_))); (case side2 => exact (Kd.R_reads' HO_10.out).2.1); rintro e w' ⟨rfl, ⟨nd, rfl⟩⟩))
                go_roundg k3
                case measure => have := HJ5.out; have := HJ41.out; have := HK3.out; omega
                case rel => exact ⟨(wrap64 (x11_3 + 1)), (by first | rfl | (simp; done) | (simp [*]; done)), H', ⟨by have := HJ5.out; have := HJ41.out; have := HK3.out; omega⟩, ⟨by (with_reducible repeat (first | apply Kd.R_alloc | apply Kd.R_drewN | apply Kd.R_drew)); exact HO_7.out⟩, ⟨by (with_reducible repeat (first | apply Kd.R_alloc | apply Kd.R_drewN | apply Kd.R_drew)); exact HO_10.out⟩, ⟨by (with_reducible repeat (first | refine blk_drewN ?_ _ | refine blk_drew ?_ | refine blk_alloc ?_ _)); exact BK355.out⟩, ⟨by repeat (first | (with_reducible first | exact HB.out | apply below_alloc | apply pw_below_drewN | apply below_drew1 | refine below_set ?_ GE355.out) | exact HB.out)⟩⟩
              subst c73
              have H1 : ((impl_AreFinds.f k3 t363).bind fun t375 => (if t375 = true then ((impl_IsDue.f k3 ((rd_T68 t363 x11_3).f0.f0) ((rd_T68 t363 x11_3).f0.f1) ((rd_T68 t363 x11_3).f0.f2) ((rd_T68 t363 x11_3).f0.f3) ((rd_T68 t363 x11_3).f0.f4) ((rd_T68 t363 x11_3).f1) ((rd_T68 t363 x11_3).f2) ((rd_T68 t363 x11_3).f3) t364).bind fun t377 => (if t377 = true then (laws_FnKept.l0 k3 t363 t364 t367 t368 (wrap64 (x11_3 + 1))) else (some false))) else (laws_FnKept.l0 k3 t363 t364 t367 t368 (wrap64 (x11_3 + 1))))) = some r := by rw [if_pos rfl] at H; exact H
              clear H
              have H := H1
              clear H1
              replace H := Option.bind_eq_some_iff.mp H
              obtain ⟨t375, A740, H⟩ := H
              replace H : (if t375 = true then ((impl_IsDue.f k3 ((rd_T68 t363 x11_3).f0.f0) ((rd_T68 t363 x11_3).f0.f1) ((rd_T68 t363 x11_3).f0.f2) ((rd_T68 t363 x11_3).f0.f3) ((rd_T68 t363 x11_3).f0.f4) ((rd_T68 t363 x11_3).f1) ((rd_T68 t363 x11_3).f2) ((rd_T68 t363 x11_3).f3) t364).bind fun t377 => (if t377 = true then (laws_FnKept.l0 k3 t363 t364 t367 t368 (wrap64 (x11_3 + 1))) else (some false))) else (laws_FnKept.l0 k3 t363 t364 t367 t368 (wrap64 (x11_3 + 1)))) = some r := H
              have A74 := Aside0.mk A740
              clear A740
              by_cases c75 : t375 = true
              rotate_left
              · replace c75 := Bool.eq_false_iff.mpr c75
                subst c75
                have H1 : (laws_FnKept.l0 k3 t363 t364 t367 t368 (wrap64 (x11_3 + 1))) = some r := by rw [if_neg (show ¬ (false = true) by decide)] at H; exact H
                clear H
                have H := H1
                clear H1
                have H' := Aside0.mk H
                clear H
                have p371 : 0 ≤ (x11_3 : Int) := of_decide_eq_true (by first | (with_reducible assumption) | assumption)
                have q371 : x11_3 < (t363.length : Int) := of_decide_eq_true (by first | (with_reducible assumption) | assumption)
                obtain ⟨ad371, e371, hx371_0, hx371_1, hx371_2, hx371_3, hx371_4, hx371_5, hx371_6, hx371_7⟩ := at_T68 (Kd.R_reads' HO_7.out).2.2 x11_3 p371 q371
                cases e371
                replace p371 := eq_true p371
                replace q371 := eq_true q371
                go_wp2_with (first | ((with_reducible refine gate_callee (f := 48) rfl ?_); refine goesL_ (some 98) rfl rfl Try.func48 (by kernel_rfl) rfl #[.agg #[.int .i64 ((rd_T68 t363 x11_3).f0.f0), .int .i64 ((rd_T68 t363 x11_3).f0.f1), .int .i64 ((rd_T68 t363 x11_3).f0.f2), .int .i64 ((rd_T68 t363 x11_3).f0.f3), .int .i64 ((rd_T68 t363 x11_3).f0.f4), .int .i64 ((rd_T68 t363 x11_3).f1), .int .i64 ((rd_T68 t363 x11_3).f2), .int .i64 ((rd_T68 t363 x11_3).f3)]] rfl (by (try simp only [List.map_toArray, List.map_cons, List.map_nil]); first | done | rfl | (simp only [List.length_drop, List.length_take]; rfl)) ?_; (with_reducible refine (impl_DueHour.calls k3 ((rd_T68 t363 x11_3).f0.f0) ((rd_T68 t363 x11_3).f0.f1) ((rd_T68 t363 x11_3).f0.f2) ((rd_T68 t363 x11_3).f0.f3) ((rd_T68 t363 x11_3).f0.f4) ((rd_T68 t363 x11_3).f1) ((rd_T68 t363 x11_3).f2) ((rd_T68 t363 x11_3).f3) t372 _ A65.out).mono ?_); rintro e w86 ⟨rfl, hb⟩; refine ⟨_, rfl, ?_⟩; have n0_ := Aside0.mk (Kd.R_below (by (with_reducible repeat (first | apply Kd.R_alloc | apply Kd.R_drewN | apply Kd.R_drew)); exact HO_7.out) hb); have n1_ := Aside0.mk (Kd.R_below (by (with_reducible repeat (first | apply Kd.R_alloc | apply Kd.R_drewN | apply Kd.R_drew)); exact HO_10.out) hb); have n2_ := Aside0.mk (blk_below (g := gb355) (o := .cells #[.int .i64 t346, .int .i64 t347, .int .i64 t348, .int .i64 t349, .int .i64 t350, .int .i64 t351, .int .i64 t352, .int .i64 t353] 68 (0, 0)) (by (with_reducible repeat (first | refine blk_drewN ?_ _ | refine blk_drew ?_ | refine blk_alloc ?_ _)); exact BK355.out) hb); have n3_ := Aside0.mk (below_step (by repeat (first | (with_reducible first | exact HB.out | apply below_alloc | apply pw_below_drewN | apply below_drew1 | refine below_set ?_ GE355.out) | exact HB.out)) hb); clear HO_7; clear HO_10; clear BK355; clear HB; have HO_7 := n0_; have HO_10 := n1_; have BK355 := n2_; have HB := n3_; clear n0_ n1_ n2_ n3_; (try clear hb); (try clear hb2); (try clear hk); (try clear hi); have p373 : 0 ≤ (x11_3 : Int) := of_decide_eq_true (by first | (with_reducible assumption) | assumption); have q373 : x11_3 < (t363.length : Int) := of_decide_eq_true (by first | (with_reducible assumption) | assumption); obtain ⟨ad373, e373, hx373_0, hx373_1, hx373_2, hx373_3, hx373_4, hx373_5, hx373_6, hx373_7⟩ := at_T68 (Kd.R_reads' HO_7.out).2.2 x11_3 p373 q373; obtain rfl : ad371 = ad373 := (by injection e373); replace p373 := eq_true p373; replace q373 := eq_true q373; obtain ⟨Ao87, co87, eo87⟩ := Kd.R_slice HO_10.out; subst eo87) | (go_at_call 55; (with_reducible refine (laws_contains.calls k3 _ _ t368 ((rd_T68 t363 x11_3).f0.f0) true _ ?side1 ?side2 A72.out).mono ?_); (case side1 => repeat (first | exact (Kd.R_reads' HO_10.out).2.2 | (with_reducible refine Kd.C_alloc ?_ _) | (with_reducible refine Kd.C_drewN ?_ _) | (with_reducible refine Kd.C_drew ?_))); (case side2 => exact (Kd.R_reads' HO_10.out).2.1); rintro e w' ⟨rfl, ⟨nd, rfl⟩⟩) | (go_at_call 56; (with_reducible refine (impl_AreFinds.calls k3 _ _ t363 false _ ?side1 ?side2 A74.out).mono ?_); (case side1 => repeat (first | exact (Kd.R_reads' HO_7.out).2.2 | (with_reducible refine Kd.C_alloc ?_ _) | (with_reducible refine Kd.C_drewN ?_ _) | (with_reducible refine Kd.C_drew ?_))); (case side2 => exact (Kd.R_reads' HO_7.out).2.1); rintro e w88 ⟨rfl, hb⟩; have n0_ := Aside0.mk (Kd.R_below (by (with_reducible repeat (first | apply Kd.R_alloc | apply Kd.R_drewN | apply Kd.R_drew)); exact HO_7.out) hb); have n1_ := Aside0.mk (Kd.R_below (by (with_reducible repeat (first | apply Kd.R_alloc | apply Kd.R_drewN | apply Kd.R_drew)); exact HO_10.out) hb); have n2_ := Aside0.mk (blk_below (g := gb355) (o := .cells #[.int .i64 t346, .int .i64 t347, .int .i64 t348, .int .i64 t349, .int .i64 t350, .int .i64 t351, .int .i64 t352, .int .i64 t353] 68 (0, 0)) (by (with_reducible repeat (first | refine blk_drewN ?_ _ | refine blk_drew ?_ | refine blk_alloc ?_ _)); exact BK355.out) hb); have n3_ := Aside0.mk (below_step (by repeat (first | (with_reducible first | exact HB.out | apply below_alloc | apply pw_below_drewN | apply below_drew1 | refine below_set ?_ GE355.out) | exact HB.out)) hb); clear HO_7; clear HO_10; clear BK355; clear HB; have HO_7 := n0_; have HO_10 := n1_; have BK355 := n2_; have HB := n3_; clear n0_ n1_ n2_ n3_; (try clear hb); (try clear hb2); (try clear hk); (try clear hi)))
                go_roundg k3
                case measure => have := HJ5.out; have := HJ41.out; have := HK3.out; omega
                case rel => exact ⟨(wrap64 (x11_3 + 1)), (by first | rfl | (simp; done) | (simp [*]; done)), H', ⟨by have := HJ5.out; have := HJ41.out; have := HK3.out; omega⟩, ⟨by (with_reducible repeat (first | apply Kd.R_alloc | apply Kd.R_drewN | apply Kd.R_drew)); exact HO_7.out⟩, ⟨by (with_reducible repeat (first | apply Kd.R_alloc | apply Kd.R_drewN | apply Kd.R_drew)); exact HO_10.out⟩, ⟨by (with_reducible repeat (first | refine blk_drewN ?_ _ | refine blk_drew ?_ | refine blk_alloc ?_ _)); exact BK355.out⟩, ⟨by repeat (first | (with_reducible first | exact HB.out | apply below_alloc | apply pw_below_drewN | apply below_drew1 | refine below_set ?_ GE355.out) | exact HB.out)⟩⟩
              subst c75
              have H1 : ((impl_IsDue.f k3 ((rd_T68 t363 x11_3).f0.f0) ((rd_T68 t363 x11_3).f0.f1) ((rd_T68 t363 x11_3).f0.f2) ((rd_T68 t363 x11_3).f0.f3) ((rd_T68 t363 x11_3).f0.f4) ((rd_T68 t363 x11_3).f1) ((rd_T68 t363 x11_3).f2) ((rd_T68 t363 x11_3).f3) t364).bind fun t377 => (if t377 = true then (laws_FnKept.l0 k3 t363 t364 t367 t368 (wrap64 (x11_3 + 1))) else (some false))) = some r := by rw [if_pos rfl] at H; exact H
              clear H
              have H := H1
              clear H1
              replace H := Option.bind_eq_some_iff.mp H
              obtain ⟨t377, A760, H⟩ := H
              replace H : (if t377 = true then (laws_FnKept.l0 k3 t363 t364 t367 t368 (wrap64 (x11_3 + 1))) else (some false)) = some r := H
              have A76 := Aside0.mk A760
              clear A760
              by_cases c77 : t377 = true
              rotate_left
              · replace c77 := Bool.eq_false_iff.mpr c77
                subst c77
                have H1 : (some false) = some r := by rw [if_neg (show ¬ (false = true) by decide)] at H; exact H
                clear H
                have H := H1
                clear H1
                obtain rfl := Option.some.inj H
                have p371 : 0 ≤ (x11_3 : Int) := of_decide_eq_true (by first | (with_reducible assumption) | assumption)
                have q371 : x11_3 < (t363.length : Int) := of_decide_eq_true (by first | (with_reducible assumption) | assumption)
                obtain ⟨ad371, e371, hx371_0, hx371_1, hx371_2, hx371_3, hx371_4, hx371_5, hx371_6, hx371_7⟩ := at_T68 (Kd.R_reads' HO_7.out).2.2 x11_3 p371 q371
                cases e371
                replace p371 := eq_true p371
                replace q371 := eq_true q371
                go_wp2_with (first | ((with_reducible refine gate_callee (f := 48) rfl ?_); refine goesL_ (some 98) rfl rfl Try.func48 (by kernel_rfl) rfl #[.agg #[.int .i64 ((rd_T68 t363 x11_3).f0.f0), .int .i64 ((rd_T68 t363 x11_3).f0.f1), .int .i64 ((rd_T68 t363 x11_3).f0.f2), .int .i64 ((rd_T68 t363 x11_3).f0.f3), .int .i64 ((rd_T68 t363 x11_3).f0.f4), .int .i64 ((rd_T68 t363 x11_3).f1), .int .i64 ((rd_T68 t363 x11_3).f2), .int .i64 ((rd_T68 t363 x11_3).f3)]] rfl (by (try simp only [List.map_toArray, List.map_cons, List.map_nil]); first | done | rfl | (simp only [List.length_drop, List.length_take]; rfl)) ?_; (with_reducible refine (impl_DueHour.calls k3 ((rd_T68 t363 x11_3).f0.f0) ((rd_T68 t363 x11_3).f0.f1) ((rd_T68 t363 x11_3).f0.f2) ((rd_T68 t363 x11_3).f0.f3) ((rd_T68 t363 x11_3).f0.f4) ((rd_T68 t363 x11_3).f1) ((rd_T68 t363 x11_3).f2) ((rd_T68 t363 x11_3).f3) t372 _ A65.out).mono ?_); rintro e w82 ⟨rfl, hb⟩; refine ⟨_, rfl, ?_⟩; have n0_ := Aside0.mk (Kd.R_below (by (with_reducible repeat (first | apply Kd.R_alloc | apply Kd.R_drewN | apply Kd.R_drew)); exact HO_7.out) hb); have n1_ := Aside0.mk (Kd.R_below (by (with_reducible repeat (first | apply Kd.R_alloc | apply Kd.R_drewN | apply Kd.R_drew)); exact HO_10.out) hb); have n2_ := Aside0.mk (blk_below (g := gb355) (o := .cells #[.int .i64 t346, .int .i64 t347, .int .i64 t348, .int .i64 t349, .int .i64 t350, .int .i64 t351, .int .i64 t352, .int .i64 t353] 68 (0, 0)) (by (with_reducible repeat (first | refine blk_drewN ?_ _ | refine blk_drew ?_ | refine blk_alloc ?_ _)); exact BK355.out) hb); have n3_ := Aside0.mk (below_step (by repeat (first | (with_reducible first | exact HB.out | apply below_alloc | apply pw_below_drewN | apply below_drew1 | refine below_set ?_ GE355.out) | exact HB.out)) hb); clear HO_7; clear HO_10; clear BK355; clear HB; have HO_7 := n0_; have HO_10 := n1_; have BK355 := n2_; have HB := n3_; clear n0_ n1_ n2_ n3_; (try clear hb); (try clear hb2); (try clear hk); (try clear hi); have p373 : 0 ≤ (x11_3 : Int) := of_decide_eq_true (by first | (with_reducible assumption) | assumption); have q373 : x11_3 < (t363.length : Int) := of_decide_eq_true (by first | (with_reducible assumption) | assumption); obtain ⟨ad373, e373, hx373_0, hx373_1, hx373_2, hx373_3, hx373_4, hx373_5, hx373_6, hx373_7⟩ := at_T68 (Kd.R_reads' HO_7.out).2.2 x11_3 p373 q373; obtain rfl : ad371 = ad373 := (by injection e373); replace p373 := eq_true p373; replace q373 := eq_true q373; obtain ⟨Ao83, co83, eo83⟩ := Kd.R_slice HO_10.out; subst eo83) | (go_at_call 55; (with_reducible refine (laws_contains.calls k3 _ _ t368 ((rd_T68 t363 x11_3).f0.f0) true _ ?side1 ?side2 A72.out).mono ?_); (case side1 => repeat (first | exact (Kd.R_reads' HO_10.out).2.2 | (with_reducible refine Kd.C_alloc ?_ _) | (with_reducible refine Kd.C_drewN ?_ _) | (with_reducible refine Kd.C_drew ?_))); (case side2 => exact (Kd.R_reads' HO_10.out).2.1); rintro e w' ⟨rfl, ⟨nd, rfl⟩⟩) | (go_at_call 56; (with_reducible refine (impl_AreFinds.calls k3 _ _ t363 true _ ?side1 ?side2 A74.out).mono ?_); (case side1 => repeat (first | exact (Kd.R_reads' HO_7.out).2.2 | (with_reducible refine Kd.C_alloc ?_ _) | (with_reducible refine Kd.C_drewN ?_ _) | (with_reducible refine Kd.C_drew ?_))); (case side2 => exact (Kd.R_reads' HO_7.out).2.1); rintro e w84 ⟨rfl, hb⟩; have n0_ := Aside0.mk (Kd.R_below (by (with_reducible repeat (first | apply Kd.R_alloc | apply Kd.R_drewN | apply Kd.R_drew)); exact HO_7.out) hb); have n1_ := Aside0.mk (Kd.R_below (by (with_reducible repeat (first | apply Kd.R_alloc | apply Kd.R_drewN | apply Kd.R_drew)); exact HO_10.out) hb); have n2_ := Aside0.mk (blk_below (g := gb355) (o := .cells #[.int .i64 t346, .int .i64 t347, .int .i64 t348, .int .i64 t349, .int .i64 t350, .int .i64 t351, .int .i64 t352, .int .i64 t353] 68 (0, 0)) (by (with_reducible repeat (first | refine blk_drewN ?_ _ | refine blk_drew ?_ | refine blk_alloc ?_ _)); exact BK355.out) hb); have n3_ := Aside0.mk (below_step (by repeat (first | (with_reducible first | exact HB.out | apply below_alloc | apply pw_below_drewN | apply below_drew1 | refine below_set ?_ GE355.out) | exact HB.out)) hb); clear HO_7; clear HO_10; clear BK355; clear HB; have HO_7 := n0_; have HO_10 := n1_; have BK355 := n2_; have HB := n3_; clear n0_ n1_ n2_ n3_; (try clear hb); (try clear hb2); (try clear hk); (try clear hi); have p376 : 0 ≤ (x11_3 : Int) := of_decide_eq_true (by first | (with_reducible assumption) | assumption); have q376 : x11_3 < (t363.length : Int) := of_decide_eq_true (by first | (with_reducible assumption) | assumption); obtain ⟨ad376, e376, hx376_0, hx376_1, hx376_2, hx376_3, hx376_4, hx376_5, hx376_6, hx376_7⟩ := at_T68 (Kd.R_reads' HO_7.out).2.2 x11_3 p376 q376; obtain rfl : ad371 = ad376 := (by injection e376); replace p376 := eq_true p376; replace q376 := eq_true q376) | (go_at_call 50; (with_reducible refine (impl_IsDue.calls k3 ((rd_T68 t363 x11_3).f0.f0) ((rd_T68 t363 x11_3).f0.f1) ((rd_T68 t363 x11_3).f0.f2) ((rd_T68 t363 x11_3).f0.f3) ((rd_T68 t363 x11_3).f0.f4) ((rd_T68 t363 x11_3).f1) ((rd_T68 t363 x11_3).f2) ((rd_T68 t363 x11_3).f3) t364 false _ A76.out).mono ?_); rintro e w85 ⟨rfl, hb⟩; have n0_ := Aside0.mk (Kd.R_below (by (with_reducible repeat (first | apply Kd.R_alloc | apply Kd.R_drewN | apply Kd.R_drew)); exact HO_7.out) hb); have n1_ := Aside0.mk (Kd.R_below (by (with_reducible repeat (first | apply Kd.R_alloc | apply Kd.R_drewN | apply Kd.R_drew)); exact HO_10.out) hb); have n2_ := Aside0.mk (blk_below (g := gb355) (o := .cells #[.int .i64 t346, .int .i64 t347, .int .i64 t348, .int .i64 t349, .int .i64 t350, .int .i64 t351, .int .i64 t352, .int .i64 t353] 68 (0, 0)) (by (with_reducible repeat (first | refine blk_drewN ?_ _ | refine blk_drew ?_ | refine blk_alloc ?_ _)); exact BK355.out) hb); have n3_ := Aside0.mk (below_step (by repeat (first | (with_reducible first | exact HB.out | apply below_alloc | apply pw_below_drewN | apply below_drew1 | refine below_set ?_ GE355.out) | exact HB.out)) hb); clear HO_7; clear HO_10; clear BK355; clear HB; have HO_7 := n0_; have HO_10 := n1_; have BK355 := n2_; have HB := n3_; clear n0_ n1_ n2_ n3_; (try clear hb); (try clear hb2); (try clear hk); (try clear hi)))
                go_ret
                exact ⟨by first | rfl | (simp [errW_none, errW_some] <;> rfl) | (simp [*, errW_none, errW_some] <;> rfl), by repeat (first | (with_reducible first | exact HB.out | apply below_alloc | apply pw_below_drewN | apply below_drew1 | refine below_set ?_ GE355.out) | exact HB.out)⟩
              subst c77
              have H1 : (laws_FnKept.l0 k3 t363 t364 t367 t368 (wrap64 (x11_3 + 1))) = some r := by rw [if_pos rfl] at H; exact H
              clear H
              have H := H1
              clear H1
              have H' := Aside0.mk H
              clear H
              have p371 : 0 ≤ (x11_3 : Int) := of_decide_eq_true (by first | (with_reducible assumption) | assumption)
              have q371 : x11_3 < (t363.length : Int) := of_decide_eq_true (by first | (with_reducible assumption) | assumption)
              obtain ⟨ad371, e371, hx371_0, hx371_1, hx371_2, hx371_3, hx371_4, hx371_5, hx371_6, hx371_7⟩ := at_T68 (Kd.R_reads' HO_7.out).2.2 x11_3 p371 q371
              cases e371
              replace p371 := eq_true p371
              replace q371 := eq_true q371
              go_wp2_with (first | ((with_reducible refine gate_callee (f := 48) rfl ?_); refine goesL_ (some 98) rfl rfl Try.func48 (by kernel_rfl) rfl #[.agg #[.int .i64 ((rd_T68 t363 x11_3).f0.f0), .int .i64 ((rd_T68 t363 x11_3).f0.f1), .int .i64 ((rd_T68 t363 x11_3).f0.f2), .int .i64 ((rd_T68 t363 x11_3).f0.f3), .int .i64 ((rd_T68 t363 x11_3).f0.f4), .int .i64 ((rd_T68 t363 x11_3).f1), .int .i64 ((rd_T68 t363 x11_3).f2), .int .i64 ((rd_T68 t363 x11_3).f3)]] rfl (by (try simp only [List.map_toArray, List.map_cons, List.map_nil]); first | done | rfl | (simp only [List.length_drop, List.length_take]; rfl)) ?_; (with_reducible refine (impl_DueHour.calls k3 ((rd_T68 t363 x11_3).f0.f0) ((rd_T68 t363 x11_3).f0.f1) ((rd_T68 t363 x11_3).f0.f2) ((rd_T68 t363 x11_3).f0.f3) ((rd_T68 t363 x11_3).f0.f4) ((rd_T68 t363 x11_3).f1) ((rd_T68 t363 x11_3).f2) ((rd_T68 t363 x11_3).f3) t372 _ A65.out).mono ?_); rintro e w78 ⟨rfl, hb⟩; refine ⟨_, rfl, ?_⟩; have n0_ := Aside0.mk (Kd.R_below (by (with_reducible repeat (first | apply Kd.R_alloc | apply Kd.R_drewN | apply Kd.R_drew)); exact HO_7.out) hb); have n1_ := Aside0.mk (Kd.R_below (by (with_reducible repeat (first | apply Kd.R_alloc | apply Kd.R_drewN | apply Kd.R_drew)); exact HO_10.out) hb); have n2_ := Aside0.mk (blk_below (g := gb355) (o := .cells #[.int .i64 t346, .int .i64 t347, .int .i64 t348, .int .i64 t349, .int .i64 t350, .int .i64 t351, .int .i64 t352, .int .i64 t353] 68 (0, 0)) (by (with_reducible repeat (first | refine blk_drewN ?_ _ | refine blk_drew ?_ | refine blk_alloc ?_ _)); exact BK355.out) hb); have n3_ := Aside0.mk (below_step (by repeat (first | (with_reducible first | exact HB.out | apply below_alloc | apply pw_below_drewN | apply below_drew1 | refine below_set ?_ GE355.out) | exact HB.out)) hb); clear HO_7; clear HO_10; clear BK355; clear HB; have HO_7 := n0_; have HO_10 := n1_; have BK355 := n2_; have HB := n3_; clear n0_ n1_ n2_ n3_; (try clear hb); (try clear hb2); (try clear hk); (try clear hi); have p373 : 0 ≤ (x11_3 : Int) := of_decide_eq_true (by first | (with_reducible assumption) | assumption); have q373 : x11_3 < (t363.length : Int) := of_decide_eq_true (by first | (with_reducible assumption) | assumption); obtain ⟨ad373, e373, hx373_0, hx373_1, hx373_2, hx373_3, hx373_4, hx373_5, hx373_6, hx373_7⟩ := at_T68 (Kd.R_reads' HO_7.out).2.2 x11_3 p373 q373; obtain rfl : ad371 = ad373 := (by injection e373); replace p373 := eq_true p373; replace q373 := eq_true q373; obtain ⟨Ao79, co79, eo79⟩ := Kd.R_slice HO_10.out; subst eo79) | (go_at_call 55; (with_reducible refine (laws_contains.calls k3 _ _ t368 ((rd_T68 t363 x11_3).f0.f0) true _ ?side1 ?side2 A72.out).mono ?_); (case side1 => repeat (first | exact (Kd.R_reads' HO_10.out).2.2 | (with_reducible refine Kd.C_alloc ?_ _) | (with_reducible refine Kd.C_drewN ?_ _) | (with_reducible refine Kd.C_drew ?_))); (case side2 => exact (Kd.R_reads' HO_10.out).2.1); rintro e w' ⟨rfl, ⟨nd, rfl⟩⟩) | (go_at_call 56; (with_reducible refine (impl_AreFinds.calls k3 _ _ t363 true _ ?side1 ?side2 A74.out).mono ?_); (case side1 => repeat (first | exact (Kd.R_reads' HO_7.out).2.2 | (with_reducible refine Kd.C_alloc ?_ _) | (with_reducible refine Kd.C_drewN ?_ _) | (with_reducible refine Kd.C_drew ?_))); (case side2 => exact (Kd.R_reads' HO_7.out).2.1); rintro e w80 ⟨rfl, hb⟩; have n0_ := Aside0.mk (Kd.R_below (by (with_reducible repeat (first | apply Kd.R_alloc | apply Kd.R_drewN | apply Kd.R_drew)); exact HO_7.out) hb); have n1_ := Aside0.mk (Kd.R_below (by (with_reducible repeat (first | apply Kd.R_alloc | apply Kd.R_drewN | apply Kd.R_drew)); exact HO_10.out) hb); have n2_ := Aside0.mk (blk_below (g := gb355) (o := .cells #[.int .i64 t346, .int .i64 t347, .int .i64 t348, .int .i64 t349, .int .i64 t350, .int .i64 t351, .int .i64 t352, .int .i64 t353] 68 (0, 0)) (by (with_reducible repeat (first | refine blk_drewN ?_ _ | refine blk_drew ?_ | refine blk_alloc ?_ _)); exact BK355.out) hb); have n3_ := Aside0.mk (below_step (by repeat (first | (with_reducible first | exact HB.out | apply below_alloc | apply pw_below_drewN | apply below_drew1 | refine below_set ?_ GE355.out) | exact HB.out)) hb); clear HO_7; clear HO_10; clear BK355; clear HB; have HO_7 := n0_; have HO_10 := n1_; have BK355 := n2_; have HB := n3_; clear n0_ n1_ n2_ n3_; (try clear hb); (try clear hb2); (try clear hk); (try clear hi); have p376 : 0 ≤ (x11_3 : Int) := of_decide_eq_true (by first | (with_reducible assumption) | assumption); have q376 : x11_3 < (t363.length : Int) := of_decide_eq_true (by first | (with_reducible assumption) | assumption); obtain ⟨ad376, e376, hx376_0, hx376_1, hx376_2, hx376_3, hx376_4, hx376_5, hx376_6, hx376_7⟩ := at_T68 (Kd.R_reads' HO_7.out).2.2 x11_3 p376 q376; obtain rfl : ad371 = ad376 := (by injection e376); replace p376 := eq_true p376; replace q376 := eq_true q376) | (go_at_call 50; (with_reducible refine (impl_IsDue.calls k3 ((rd_T68 t363 x11_3).f0.f0) ((rd_T68 t363 x11_3).f0.f1) ((rd_T68 t363 x11_3).f0.f2) ((rd_T68 t363 x11_3).f0.f3) ((rd_T68 t363 x11_3).f0.f4) ((rd_T68 t363 x11_3).f1) ((rd_T68 t363 x11_3).f2) ((rd_T68 t363 x11_3).f3) t364 true _ A76.out).mono ?_); rintro e w81 ⟨rfl, hb⟩; have n0_ := Aside0.mk (Kd.R_below (by (with_reducible repeat (first | apply Kd.R_alloc | apply Kd.R_drewN | apply Kd.R_drew)); exact HO_7.out) hb); have n1_ := Aside0.mk (Kd.R_below (by (with_reducible repeat (first | apply Kd.R_alloc | apply Kd.R_drewN | apply Kd.R_drew)); exact HO_10.out) hb); have n2_ := Aside0.mk (blk_below (g := gb355) (o := .cells #[.int .i64 t346, .int .i64 t347, .int .i64 t348, .int .i64 t349, .int .i64 t350, .int .i64 t351, .int .i64 t352, .int .i64 t353] 68 (0, 0)) (by (with_reducible repeat (first | refine blk_drewN ?_ _ | refine blk_drew ?_ | refine blk_alloc ?_ _)); exact BK355.out) hb); have n3_ := Aside0.mk (below_step (by repeat (first | (with_reducible first | exact HB.out | apply below_alloc | apply pw_below_drewN | apply below_drew1 | refine below_set ?_ GE355.out) | exact HB.out)) hb); clear HO_7; clear HO_10; clear BK355; clear HB; have HO_7 := n0_; have HO_10 := n1_; have BK355 := n2_; have HB := n3_; clear n0_ n1_ n2_ n3_; (try clear hb); (try clear hb2); (try clear hk); (try clear hi)))
              go_roundg k3
              case measure => have := HJ5.out; have := HJ41.out; have := HK3.out; omega
              case rel => exact ⟨(wrap64 (x11_3 + 1)), (by first | rfl | (simp; done) | (simp [*]; done)), H', ⟨by have := HJ5.out; have := HJ41.out; have := HK3.out; omega⟩, ⟨by (with_reducible repeat (first | apply Kd.R_alloc | apply Kd.R_drewN | apply Kd.R_drew)); exact HO_7.out⟩, ⟨by (with_reducible repeat (first | apply Kd.R_alloc | apply Kd.R_drewN | apply Kd.R_drew)); exact HO_10.out⟩, ⟨by (with_reducible repeat (first | refine blk_drewN ?_ _ | refine blk_drew ?_ | refine blk_alloc ?_ _)); exact BK355.out⟩, ⟨by repeat (first | (with_reducible first | exact HB.out | apply below_alloc | apply pw_below_drewN | apply below_drew1 | refine below_set ?_ GE355.out) | exact HB.out)⟩⟩
/-- THE ONE PURE STATEMENT of laws_FnKept: yours. -/
def laws_FnKept.Pure : Prop := ∀ (l0 : List Int), l0.length ≤ maxLen → l0.length * 1 ≤ 140737488351232 → (∀ x ∈ l0, (Lit.int .u8 x).wf = true) → ∃ k, laws_FnKept.f k l0 = some true
theorem laws_FnKept.walk (P : laws_FnKept.Pure) (a0 : Option Addr) (len0 cap0 : Nat) (z0 : List Int) (w : World) (w0 : (a0 = none ∧ len0 = 0 ∧ cap0 = 0 ∧ z0 = []) ∨ ∃ x, a0 = some x ∧ len0 ≤ cap0 ∧ cap0 ≤ maxLen ∧ z0.length = cap0 ∧ (∀ i, i < z0.length → w.cell? (x.add i) = some (.int .u8 (z0.getD i 0))) ∧ ∀ n ∈ z0, (Lit.int .u8 n).wf = true) (y0 : len0 * 1 ≤ 140737488351232) :
    Calls Try.prog 9 #[.slice a0 len0 cap0] w fun e w' => e = .returned (.bool true) ∧ Below w.heap.size w w' := by
  obtain ⟨l0, rfl, hr0, hm0, hw0, hc0⟩ := ReadsInt.ofRowC w0
  obtain ⟨k, h⟩ := P l0 hm0 y0 hw0
  refine (laws_FnKept.calls k _ _ l0 true w (Kd.C_of_reads (d := (0 : Int)) (h1 := fun _ => rfl) hr0) hc0 h).mono ?_
  rintro e w' ⟨rfl, hd⟩
  exact ⟨rfl, hd⟩

end Go.Proofs.Ytbfpdakodcegjaa.PFnKept
