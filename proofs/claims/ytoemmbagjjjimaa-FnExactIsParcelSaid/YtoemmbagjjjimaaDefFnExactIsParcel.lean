/- The plain statement of FnExactIsParcel, and how its arguments' types are read. -/
import Derived.Test.YtoemmbagjjjimaaPFnExactIsParcelx2
import Derived.Test.YtoemmbagjjjimaaOpen
import Derived.KernelRfl
namespace Go.Proofs.Ytoemmbagjjjimaa.PFnExactIsParcel
open Go.RowKit Go.Proofs.YtoemmbagjjjimaaW.PrintWords Go.Proofs.Ytoemmbagjjjimaa.Opening
structure S48 where
  f0 : Int
  f1 : Int
  f2 : List (Int)
  f3 : Int
def k48 : Kd S48 := Kd.iso (Kd.pair (Kd.int .i64) (Kd.pair (Kd.int .i64) (Kd.pair (Kd.slice 3 (Kd.int .i64)) (Kd.int .i64)))) (fun x : S48 => (x.f0, x.f1, x.f2, x.f3))
def Q48 (x : S48) : Prop := (Lit.int .i64 x.f0).wf = true ∧ (Lit.int .i64 x.f1).wf = true ∧ (x.f2.length ≤ 9223372036854775807 ∧ ∀ y ∈ x.f2, (Lit.int .i64 y).wf = true) ∧ (Lit.int .i64 x.f3).wf = true
theorem opens48 : Opens Try.prog 48 k48 Q48 :=
  opens_iso _ (fun p => ⟨p.1, p.2.1, p.2.2.1, p.2.2.2⟩) (fun _ => rfl) (opens_struct Try.underlying48 (by kernel_rfl) (opensF_cons rfl (opens_int Try.underlying3 (by kernel_rfl)) (opensF_cons rfl (opens_int Try.underlying3 (by kernel_rfl)) (opensF_cons rfl (opens_slice Try.underlying46 (by kernel_rfl) (opens_int Try.underlying3 (by kernel_rfl))) (opensF_one rfl (opens_int Try.underlying3 (by kernel_rfl)))))))
theorem o48 {w : World} {x : S48} {cs : List Value} (h : k48.K w x cs) : ∃ (A2 : Option Addr) (c2 : Nat), cs = [.int .i64 x.f0, .int .i64 x.f1, .slice A2 x.f2.length c2, .int .i64 x.f3] ∧ x.f2.length ≤ c2 ∧ Kd.C (Kd.int .i64) w A2 x.f2.length x.f2 := by
  obtain ⟨_, _, rfl, rfl, ⟨_, _, rfl, rfl, ⟨_, _, rfl, h2, rfl⟩⟩⟩ := h
  obtain ⟨A2, c2, rfl, hl2, hC2⟩ := h2
  exact ⟨A2, c2, rfl, hl2, hC2⟩
/-- What is to be proved of plain values. -/
def FnExactIsParcelLaw : Prop := ∀ (y0 : S48), (Q48 y0) → ∃ k, laws_FnExactIsParcel.f k y0.f0 y0.f1 y0.f2 y0.f3 = some true
end Go.Proofs.Ytoemmbagjjjimaa.PFnExactIsParcel
