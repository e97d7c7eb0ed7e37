/- FnExactAskHouses: for every input the law returns true, and its arguments read afterwards as before. No conditions. -/
import Derived.Test.YtejhjenlodclpaaRows
import Derived.Test.YtejhjenlodclpaaPFnExactAskHousesx10
import Derived.Test.YtejhjenlodclpaaDefFnExactAskHouses
import Derived.Test.YtejhjenlodclpaaPfFnExactAskHouses
import Derived.WalkKit
import Derived.ProofKit
import Derived.OpenShut
import Derived.ShutString
import Derived.ChangeOld
import Derived.Below
import Derived.SizedLaws
namespace Go.Proofs.Ytejhjenlodclpaa.fnExactAskHouses
open Go.ChangeShapes Go.WideShapes Go.ChangeAt Go.RowKit
open Go.Proofs.Ytejhjenlodclpaa.PFnExactAskHouses Go.Proofs.Ytejhjenlodclpaa.Opening Go.Proofs.YtejhjenlodclpaaW.PrintWords
set_option linter.unusedVariables false
theorem own : ownKnob Try.prog.godebug = none := by kernel_rfl
theorem laidOut : laidOutB Try.prog = true := by kernel_rfl
set_option maxRecDepth 100000 in
theorem lifted (os : Os) (started : os.Started) (H : Type) (enc : TypeId × Value → H) :
    ReturnsInHanded {} Try.checked os 7 .any (Rows.fnExactAskHousesSpec.pre6 enc Try.prog Try.f7 Rows.fnExactAskHousesRow.domain false) (Rows.fnExactAskHousesSpec.post enc Try.prog Try.f7 false true false false) := by
  refine returnsInHanded_of_change_sized (C := Try.checked) own started (by kernel_rfl) Try.func7
    (ChangeSpec.witness6 (enc := enc) (C := Try.checked) false ⟨#[], #[.agg #[.int .i64 0, .int .i64 0, .slice none 0 0, .int .i64 0, .int .i64 0, .slice none 0 0, .int .i64 0, .int .i64 0], .slice none 0 0, .int .i64 0], []⟩ 8 (by kernel_rfl) (by kernel_rfl) (by kernel_rfl) (by kernel_rfl)) ?_
  intro W base args ds gs before hval0 hW hcnd hsz0 _
  have hval : ∀ (j : Nat) t v, Try.f7.params[j]? = some t → args[j]? = some v → Value.okWide Try.prog W .any base t v := hval0
  have hW' := hW
  obtain ⟨p, q, hA0, hV, rfl, hfz, hnd⟩ := hW
  have hA : DataW.TrodAll enc Try.prog W 0 (fun _ => true) true Try.f7.params.toList args.toList ds p := hA0
  rw [Try.params7] at hA hval
  obtain ⟨v0, vs0, d0, ds0, p0, q0, hargs, rfl, rfl, h0, r0⟩ := trodAll_cons hA
  obtain ⟨v1, vs1, d1, ds1, p1, q1, rfl, rfl, rfl, h1, r1⟩ := trodAll_cons r0
  obtain ⟨v2, vs2, d2, ds2, p2, q2, rfl, rfl, rfl, h2, r2⟩ := trodAll_cons r1
  obtain ⟨rfl, rfl, rfl⟩ := trodAll_nil r2
  obtain rfl : args = #[v0, v1, v2] := by cases args; simp_all
  obtain ⟨rfl, rfl⟩ := trodVars_none hV
  have k0_ := h0
  have lt0 : ∀ x ∈ p0, x.block < W.heap.size := by obtain ⟨m, hm⟩ := k0_; exact DataW.trod_lt m _ _ _ hm
  obtain ⟨cs0, y0, rfl, hK0, hq0⟩ := in_struct Try.underlying36 opens36 (hval 0 36 v0 rfl rfl) h0
  obtain ⟨A0_2, c0_2, A0_5, c0_5, e0, hc0_2, hr0_2, hc0_5, hr0_5⟩ := o36 hK0
  obtain rfl : cs0 = #[.int .i64 y0.f0, .int .i64 y0.f1, .slice A0_2 y0.f2.length c0_2, .int .i64 y0.f3, .int .i64 y0.f4, .slice A0_5 y0.f5.length c0_5, .int .i64 y0.f6.f0, .int .i64 y0.f6.f1] := Array.toList_inj.1 e0
  have k1_ := h1
  have lt1 : ∀ x ∈ p1, x.block < W.heap.size := by obtain ⟨m, hm⟩ := k1_; exact DataW.trod_lt m _ _ _ hm
  obtain ⟨A1, c1, l1, rfl, hc1, hr1, hm1, hq1⟩ := in_slice Try.underlying67 (opens_slice Try.underlying67 (by kernel_rfl) (opens_slice Try.underlying24 (by kernel_rfl) (opens_int Try.underlying3 (by kernel_rfl)))) (hval 1 67 v1 rfl rfl) h1
  have k2_ := h2
  have lt2 : ∀ x ∈ p2, x.block < W.heap.size := by obtain ⟨m, hm⟩ := k2_; exact DataW.trod_lt m _ _ _ hm
  obtain ⟨a2, rfl, rfl, rfl, w2⟩ := open_int Try.underlying3 (hval 2 3 v2 rfl rfl) h2
  obtain ⟨k, h⟩ := Pf.FnExactAskHouses y0 l1 a2 hq0 hm1 hq1 w2
  refine (laws_FnExactAskHouses.calls (k := k) (a0_0 := y0.f0) (a0_1 := y0.f1) (A0_2 := A0_2) (c0_2 := c0_2) (l0_2 := y0.f2) (hr0_2 := hr0_2) (hc0_2 := hc0_2) (a0_3 := y0.f3) (a0_4 := y0.f4) (A0_5 := A0_5) (c0_5 := c0_5) (l0_5 := y0.f5) (hr0_5 := hr0_5) (hc0_5 := hc0_5) (a0_6 := y0.f6.f0) (a0_7 := y0.f6.f1) (A1 := A1) (c1 := c1) (l1 := l1) (hr1 := hr1) (hc1 := hc1) (a2 := a2) (r := true) (w := W) (h := h)).mono fun e W' ⟨he, bel⟩ => ?_
  subst he
  exact ⟨_, rfl, _, _, _, [], _, [], hW', trodAll_mk1 (shut_bool Try.underlying4 _), (trodAll_cons_mk (Below.trod laidOut (by kernel_rfl) (of_decide_eq_true (by kernel_rfl)) k0_ bel lt0) (trodAll_cons_mk (Below.trod laidOut (by kernel_rfl) (of_decide_eq_true (by kernel_rfl)) k1_ bel lt1) (trodAll_cons_mk (Below.trod laidOut (by kernel_rfl) (of_decide_eq_true (by kernel_rfl)) k2_ bel lt2) trodAll_mk0))), rfl, bel.frame _, fun h => by cases h⟩
theorem over : Rows.fnExactAskHousesRow.holds Try.pinned (OpenSpec.ofChange Rows.fnExactAskHousesSpec) :=
  OpenClaim.holds_of_wide 7 Try.f7 rfl rfl rfl rfl rfl rfl rfl ⟨rfl, rfl, rfl, rfl, rfl⟩ rfl rfl rfl rfl rfl (by kernel_rfl) Try.func7 (by kernel_rfl)
    (of_decide_eq_true (by kernel_rfl)) (by unfold Func.isWrapper; first | (rw [if_pos (by decide +kernel)]; kernel_rfl) | (rw [if_neg (by decide +kernel)]; exact ⟨rfl, rfl⟩))
    (fun os started H enc _ => lifted os started H enc)
theorem proved : Rows.FnExactAskHousesSaid := over
#print axioms proved
end Go.Proofs.Ytejhjenlodclpaa.fnExactAskHouses
namespace Go.Proofs.Ytejhjenlodclpaa
/-- The row, under a short name, for the claim. -/
theorem fnExactAskHouses_holds : Rows.FnExactAskHousesSaid := fnExactAskHouses.proved
end Go.Proofs.Ytejhjenlodclpaa
