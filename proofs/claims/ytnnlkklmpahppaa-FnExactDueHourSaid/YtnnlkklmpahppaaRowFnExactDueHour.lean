/- FnExactDueHour: for every input the law returns true, and its arguments read afterwards as before. No conditions. -/
import Derived.Test.YtnnlkklmpahppaaRows
import Derived.Test.YtnnlkklmpahppaaPFnExactDueHourx1
import Derived.Test.YtnnlkklmpahppaaDefFnExactDueHour
import Derived.Test.YtnnlkklmpahppaaPfFnExactDueHour
import Derived.WalkKit
import Derived.ProofKit
import Derived.OpenShut
import Derived.ShutString
import Derived.ChangeOld
import Derived.Below
import Derived.SizedLaws
namespace Go.Proofs.Ytnnlkklmpahppaa.fnExactDueHour
open Go.ChangeShapes Go.WideShapes Go.ChangeAt Go.RowKit
open Go.Proofs.Ytnnlkklmpahppaa.PFnExactDueHour Go.Proofs.Ytnnlkklmpahppaa.Opening Go.Proofs.YtnnlkklmpahppaaW.PrintWords
set_option linter.unusedVariables false
theorem own : ownKnob Try.prog.godebug = none := by kernel_rfl
theorem laidOut : laidOutB Try.prog = true := by kernel_rfl
set_option maxRecDepth 100000 in
theorem lifted (os : Os) (started : os.Started) (H : Type) (enc : TypeId × Value → H) :
    ReturnsInHanded {} Try.checked os 14 .any (Rows.fnExactDueHourSpec.pre6 enc Try.prog Try.f14 Rows.fnExactDueHourRow.domain false) (Rows.fnExactDueHourSpec.post enc Try.prog Try.f14 false true false false) := by
  refine returnsInHanded_of_change_sized (C := Try.checked) own started (by kernel_rfl) Try.func14
    (ChangeSpec.witness6 (enc := enc) (C := Try.checked) false ⟨#[], #[.agg #[.int .i64 0, .int .i64 0, .int .i64 0, .int .i64 0, .int .i64 0, .int .i64 0, .int .i64 0, .int .i64 0]], []⟩ 8 (by kernel_rfl) (by kernel_rfl) (by kernel_rfl) (by kernel_rfl)) ?_
  intro W base args ds gs before hval0 hW hcnd hsz0 _
  have hval : ∀ (j : Nat) t v, Try.f14.params[j]? = some t → args[j]? = some v → Value.okWide Try.prog W .any base t v := hval0
  have hW' := hW
  obtain ⟨p, q, hA0, hV, rfl, hfz, hnd⟩ := hW
  have hA : DataW.TrodAll enc Try.prog W 0 (fun _ => true) true Try.f14.params.toList args.toList ds p := hA0
  rw [Try.params14] at hA hval
  obtain ⟨v0, vs0, d0, ds0, p0, q0, hargs, rfl, rfl, h0, r0⟩ := trodAll_cons hA
  obtain ⟨rfl, rfl, rfl⟩ := trodAll_nil r0
  obtain rfl : args = #[v0] := by cases args; simp_all
  obtain ⟨rfl, rfl⟩ := trodVars_none hV
  have k0_ := h0
  have lt0 : ∀ x ∈ p0, x.block < W.heap.size := by obtain ⟨m, hm⟩ := k0_; exact DataW.trod_lt m _ _ _ hm
  obtain ⟨cs0, y0, rfl, hK0, hq0⟩ := in_struct Try.underlying60 opens60 (hval 0 60 v0 rfl rfl) h0
  have e0 := o60 hK0
  obtain rfl : cs0 = #[.int .i64 y0.f0.f0, .int .i64 y0.f0.f1, .int .i64 y0.f0.f2, .int .i64 y0.f0.f3, .int .i64 y0.f0.f4, .int .i64 y0.f1, .int .i64 y0.f2, .int .i64 y0.f3] := Array.toList_inj.1 e0
  obtain ⟨k, h⟩ := Pf.FnExactDueHour y0 hq0
  refine (laws_FnExactDueHour.calls (k := k) (a0_0 := y0.f0.f0) (a0_1 := y0.f0.f1) (a0_2 := y0.f0.f2) (a0_3 := y0.f0.f3) (a0_4 := y0.f0.f4) (a0_5 := y0.f1) (a0_6 := y0.f2) (a0_7 := y0.f3) (r := true) (w := W) (h := h)).mono fun e W' ⟨he, bel⟩ => ?_
  subst he
  exact ⟨_, rfl, _, _, _, [], _, [], hW', trodAll_mk1 (shut_bool Try.underlying4 _), (trodAll_cons_mk (Below.trod laidOut (by kernel_rfl) (of_decide_eq_true (by kernel_rfl)) k0_ bel lt0) trodAll_mk0), rfl, bel.frame _, fun h => by cases h⟩
theorem over : Rows.fnExactDueHourRow.holds Try.pinned (OpenSpec.ofChange Rows.fnExactDueHourSpec) :=
  OpenClaim.holds_of_wide 14 Try.f14 rfl rfl rfl rfl rfl rfl rfl ⟨rfl, rfl, rfl, rfl, rfl⟩ rfl rfl rfl rfl rfl (by kernel_rfl) Try.func14 (by kernel_rfl)
    (of_decide_eq_true (by kernel_rfl)) (by unfold Func.isWrapper; first | (rw [if_pos (by decide +kernel)]; kernel_rfl) | (rw [if_neg (by decide +kernel)]; exact ⟨rfl, rfl⟩))
    (fun os started H enc _ => lifted os started H enc)
theorem proved : Rows.FnExactDueHourSaid := over
#print axioms proved
end Go.Proofs.Ytnnlkklmpahppaa.fnExactDueHour
namespace Go.Proofs.Ytnnlkklmpahppaa
/-- The row, under a short name, for the claim. -/
theorem fnExactDueHour_holds : Rows.FnExactDueHourSaid := fnExactDueHour.proved
end Go.Proofs.Ytnnlkklmpahppaa
