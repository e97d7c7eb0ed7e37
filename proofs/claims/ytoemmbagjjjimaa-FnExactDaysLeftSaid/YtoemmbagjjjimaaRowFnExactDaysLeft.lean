/- FnExactDaysLeft: for every input the law returns true, and its arguments read afterwards as before. No conditions. -/
import Derived.Test.YtoemmbagjjjimaaRows
import Derived.Test.YtoemmbagjjjimaaPFnExactDaysLeftx2
import Derived.Test.YtoemmbagjjjimaaDefFnExactDaysLeft
import Derived.Test.YtoemmbagjjjimaaPfFnExactDaysLeft
import Derived.WalkKit
import Derived.ProofKit
import Derived.OpenShut
import Derived.ShutString
import Derived.ChangeOld
import Derived.Below
import Derived.SizedLaws
namespace Go.Proofs.Ytoemmbagjjjimaa.fnExactDaysLeft
open Go.ChangeShapes Go.WideShapes Go.ChangeAt Go.RowKit
open Go.Proofs.Ytoemmbagjjjimaa.PFnExactDaysLeft Go.Proofs.Ytoemmbagjjjimaa.Opening Go.Proofs.YtoemmbagjjjimaaW.PrintWords
set_option linter.unusedVariables false
theorem own : ownKnob Try.prog.godebug = none := by kernel_rfl
theorem laidOut : laidOutB Try.prog = true := by kernel_rfl
set_option maxRecDepth 100000 in
theorem lifted (os : Os) (started : os.Started) (H : Type) (enc : TypeId × Value → H) :
    ReturnsInHanded {} Try.checked os 11 .any (Rows.fnExactDaysLeftSpec.pre6 enc Try.prog Try.f11 Rows.fnExactDaysLeftRow.domain false) (Rows.fnExactDaysLeftSpec.post enc Try.prog Try.f11 false true false false) := by
  refine returnsInHanded_of_change_sized (C := Try.checked) own started (by kernel_rfl) Try.func11
    (ChangeSpec.witness6 (enc := enc) (C := Try.checked) false ⟨#[], #[.agg #[.int .i64 0, .int .i64 0, .int .i64 0, .int .i64 0, .int .i64 0, .int .i64 0, .int .i64 0, .int .i64 0], .int .i64 0], []⟩ 8 (by kernel_rfl) (by kernel_rfl) (by kernel_rfl) (by kernel_rfl)) ?_
  intro W base args ds gs before hval0 hW hcnd hsz0 _
  have hval : ∀ (j : Nat) t v, Try.f11.params[j]? = some t → args[j]? = some v → Value.okWide Try.prog W .any base t v := hval0
  have hW' := hW
  obtain ⟨p, q, hA0, hV, rfl, hfz, hnd⟩ := hW
  have hA : DataW.TrodAll enc Try.prog W 0 (fun _ => true) true Try.f11.params.toList args.toList ds p := hA0
  rw [Try.params11] at hA hval
  obtain ⟨v0, vs0, d0, ds0, p0, q0, hargs, rfl, rfl, h0, r0⟩ := trodAll_cons hA
  obtain ⟨v1, vs1, d1, ds1, p1, q1, rfl, rfl, rfl, h1, r1⟩ := trodAll_cons r0
  obtain ⟨rfl, rfl, rfl⟩ := trodAll_nil r1
  obtain rfl : args = #[v0, v1] := by cases args; simp_all
  obtain ⟨rfl, rfl⟩ := trodVars_none hV
  have k0_ := h0
  have lt0 : ∀ x ∈ p0, x.block < W.heap.size := by obtain ⟨m, hm⟩ := k0_; exact DataW.trod_lt m _ _ _ hm
  obtain ⟨cs0, y0, rfl, hK0, hq0⟩ := in_struct Try.underlying32 opens32 (hval 0 32 v0 rfl rfl) h0
  have e0 := o32 hK0
  obtain rfl : cs0 = #[.int .i64 y0.f0.f0, .int .i64 y0.f0.f1, .int .i64 y0.f0.f2, .int .i64 y0.f0.f3, .int .i64 y0.f0.f4, .int .i64 y0.f1, .int .i64 y0.f2, .int .i64 y0.f3] := Array.toList_inj.1 e0
  have k1_ := h1
  have lt1 : ∀ x ∈ p1, x.block < W.heap.size := by obtain ⟨m, hm⟩ := k1_; exact DataW.trod_lt m _ _ _ hm
  obtain ⟨a1, rfl, rfl, rfl, w1⟩ := open_int Try.underlying3 (hval 1 3 v1 rfl rfl) h1
  obtain ⟨k, h⟩ := Pf.FnExactDaysLeft y0 a1 hq0 w1
  refine (laws_FnExactDaysLeft.calls (k := k) (a0_0 := y0.f0.f0) (a0_1 := y0.f0.f1) (a0_2 := y0.f0.f2) (a0_3 := y0.f0.f3) (a0_4 := y0.f0.f4) (a0_5 := y0.f1) (a0_6 := y0.f2) (a0_7 := y0.f3) (a1 := a1) (r := true) (w := W) (h := h)).mono fun e W' ⟨he, bel⟩ => ?_
  subst he
  exact ⟨_, rfl, _, _, _, [], _, [], hW', trodAll_mk1 (shut_bool Try.underlying4 _), (trodAll_cons_mk (Below.trod laidOut (by kernel_rfl) (of_decide_eq_true (by kernel_rfl)) k0_ bel lt0) (trodAll_cons_mk (Below.trod laidOut (by kernel_rfl) (of_decide_eq_true (by kernel_rfl)) k1_ bel lt1) trodAll_mk0)), rfl, bel.frame _, fun h => by cases h⟩
theorem over : Rows.fnExactDaysLeftRow.holds Try.pinned (OpenSpec.ofChange Rows.fnExactDaysLeftSpec) :=
  OpenClaim.holds_of_wide 11 Try.f11 rfl rfl rfl rfl rfl rfl rfl ⟨rfl, rfl, rfl, rfl, rfl⟩ rfl rfl rfl rfl rfl (by kernel_rfl) Try.func11 (by kernel_rfl)
    (of_decide_eq_true (by kernel_rfl)) (by unfold Func.isWrapper; first | (rw [if_pos (by decide +kernel)]; kernel_rfl) | (rw [if_neg (by decide +kernel)]; exact ⟨rfl, rfl⟩))
    (fun os started H enc _ => lifted os started H enc)
theorem proved : Rows.FnExactDaysLeftSaid := over
#print axioms proved
end Go.Proofs.Ytoemmbagjjjimaa.fnExactDaysLeft
namespace Go.Proofs.Ytoemmbagjjjimaa
/-- The row, under a short name, for the claim. -/
theorem fnExactDaysLeft_holds : Rows.FnExactDaysLeftSaid := fnExactDaysLeft.proved
end Go.Proofs.Ytoemmbagjjjimaa
