/- FnExactIsParcel: for every input the law returns true, and its arguments read afterwards as before. No conditions. -/
import Derived.Test.YtoemmbagjjjimaaRows
import Derived.Test.YtoemmbagjjjimaaPFnExactIsParcelx2
import Derived.Test.YtoemmbagjjjimaaDefFnExactIsParcel
import Derived.Test.YtoemmbagjjjimaaPfFnExactIsParcel
import Derived.WalkKit
import Derived.ProofKit
import Derived.OpenShut
import Derived.ShutString
import Derived.ChangeOld
import Derived.Below
import Derived.SizedLaws
namespace Go.Proofs.Ytoemmbagjjjimaa.fnExactIsParcel
open Go.ChangeShapes Go.WideShapes Go.ChangeAt Go.RowKit
open Go.Proofs.Ytoemmbagjjjimaa.PFnExactIsParcel Go.Proofs.Ytoemmbagjjjimaa.Opening Go.Proofs.YtoemmbagjjjimaaW.PrintWords
set_option linter.unusedVariables false
theorem own : ownKnob Try.prog.godebug = none := by kernel_rfl
theorem laidOut : laidOutB Try.prog = true := by kernel_rfl
set_option maxRecDepth 100000 in
theorem lifted (os : Os) (started : os.Started) (H : Type) (enc : TypeId × Value → H) :
    ReturnsInHanded {} Try.checked os 6 .any (Rows.fnExactIsParcelSpec.pre6 enc Try.prog Try.f6 Rows.fnExactIsParcelRow.domain false) (Rows.fnExactIsParcelSpec.post enc Try.prog Try.f6 false true false false) := by
  refine returnsInHanded_of_change_sized (C := Try.checked) own started (by kernel_rfl) Try.func6
    (ChangeSpec.witness6 (enc := enc) (C := Try.checked) false ⟨#[], #[.agg #[.int .i64 0, .int .i64 0, .slice none 0 0, .int .i64 0]], []⟩ 8 (by kernel_rfl) (by kernel_rfl) (by kernel_rfl) (by kernel_rfl)) ?_
  intro W base args ds gs before hval0 hW hcnd hsz0 _
  have hval : ∀ (j : Nat) t v, Try.f6.params[j]? = some t → args[j]? = some v → Value.okWide Try.prog W .any base t v := hval0
  have hW' := hW
  obtain ⟨p, q, hA0, hV, rfl, hfz, hnd⟩ := hW
  have hA : DataW.TrodAll enc Try.prog W 0 (fun _ => true) true Try.f6.params.toList args.toList ds p := hA0
  rw [Try.params6] at hA hval
  obtain ⟨v0, vs0, d0, ds0, p0, q0, hargs, rfl, rfl, h0, r0⟩ := trodAll_cons hA
  obtain ⟨rfl, rfl, rfl⟩ := trodAll_nil r0
  obtain rfl : args = #[v0] := by cases args; simp_all
  obtain ⟨rfl, rfl⟩ := trodVars_none hV
  have k0_ := h0
  have lt0 : ∀ x ∈ p0, x.block < W.heap.size := by obtain ⟨m, hm⟩ := k0_; exact DataW.trod_lt m _ _ _ hm
  obtain ⟨cs0, y0, rfl, hK0, hq0⟩ := in_struct Try.underlying48 opens48 (hval 0 48 v0 rfl rfl) h0
  obtain ⟨A0_2, c0_2, e0, hc0_2, hr0_2⟩ := o48 hK0
  obtain rfl : cs0 = #[.int .i64 y0.f0, .int .i64 y0.f1, .slice A0_2 y0.f2.length c0_2, .int .i64 y0.f3] := Array.toList_inj.1 e0
  obtain ⟨k, h⟩ := Pf.FnExactIsParcel y0 hq0
  refine (laws_FnExactIsParcel.calls (k := k) (a0_0 := y0.f0) (a0_1 := y0.f1) (A0_2 := A0_2) (c0_2 := c0_2) (l0_2 := y0.f2) (hr0_2 := hr0_2) (hc0_2 := hc0_2) (a0_3 := y0.f3) (r := true) (w := W) (h := h)).mono fun e W' ⟨he, bel⟩ => ?_
  subst he
  exact ⟨_, rfl, _, _, _, [], _, [], hW', trodAll_mk1 (shut_bool Try.underlying4 _), (trodAll_cons_mk (Below.trod laidOut (by kernel_rfl) (of_decide_eq_true (by kernel_rfl)) k0_ bel lt0) trodAll_mk0), rfl, bel.frame _, fun h => by cases h⟩
theorem over : Rows.fnExactIsParcelRow.holds Try.pinned (OpenSpec.ofChange Rows.fnExactIsParcelSpec) :=
  OpenClaim.holds_of_wide 6 Try.f6 rfl rfl rfl rfl rfl rfl rfl ⟨rfl, rfl, rfl, rfl, rfl⟩ rfl rfl rfl rfl rfl (by kernel_rfl) Try.func6 (by kernel_rfl)
    (of_decide_eq_true (by kernel_rfl)) (by unfold Func.isWrapper; first | (rw [if_pos (by decide +kernel)]; kernel_rfl) | (rw [if_neg (by decide +kernel)]; exact ⟨rfl, rfl⟩))
    (fun os started H enc _ => lifted os started H enc)
theorem proved : Rows.FnExactIsParcelSaid := over
#print axioms proved
end Go.Proofs.Ytoemmbagjjjimaa.fnExactIsParcel
namespace Go.Proofs.Ytoemmbagjjjimaa
/-- The row, under a short name, for the claim. -/
theorem fnExactIsParcel_holds : Rows.FnExactIsParcelSaid := fnExactIsParcel.proved
end Go.Proofs.Ytoemmbagjjjimaa
