/- The plain statement of FnExactAskHouses, and how its arguments' types are read. -/
import Derived.Test.YtejhjenlodclpaaPFnExactAskHousesx10
import Derived.Test.YtejhjenlodclpaaOpenFnExactAskHouses
import Derived.KernelRfl
namespace Go.Proofs.Ytejhjenlodclpaa.PFnExactAskHouses
open Go.RowKit Go.Proofs.YtejhjenlodclpaaW.PrintWords Go.Proofs.Ytejhjenlodclpaa.Opening
structure S34 where
  f0 : Int
  f1 : Int
def k34 : Kd S34 := Kd.iso (Kd.pair (Kd.int .i64) (Kd.int .i64)) (fun x : S34 => (x.f0, x.f1))
def Q34 (x : S34) : Prop := (Lit.int .i64 x.f0).wf = true ∧ (Lit.int .i64 x.f1).wf = true
theorem opens34 : Opens Try.prog 34 k34 Q34 :=
  opens_iso _ (fun p => ⟨p.1, p.2⟩) (fun _ => rfl) (opens_struct Try.underlying34 (by kernel_rfl) (opensF_cons rfl (opens_int Try.underlying3 (by kernel_rfl)) (opensF_one rfl (opens_int Try.underlying3 (by kernel_rfl)))))
theorem o34 {w : World} {x : S34} {cs : List Value} (h : k34.K w x cs) : cs = [.int .i64 x.f0, .int .i64 x.f1] := by
  obtain ⟨_, _, rfl, rfl, rfl⟩ := h
  exact rfl
structure S36 where
  f0 : Int
  f1 : Int
  f2 : List (Int)
  f3 : Int
  f4 : Int
  f5 : List (Int)
  f6 : S34
def k36 : Kd S36 := Kd.iso (Kd.pair (Kd.int .i64) (Kd.pair (Kd.int .i64) (Kd.pair (Kd.slice 3 (Kd.int .i64)) (Kd.pair (Kd.int .i64) (Kd.pair (Kd.int .i64) (Kd.pair (Kd.slice 3 (Kd.int .i64)) k34)))))) (fun x : S36 => (x.f0, x.f1, x.f2, x.f3, x.f4, x.f5, x.f6))
def Q36 (x : S36) : Prop := (Lit.int .i64 x.f0).wf = true ∧ (Lit.int .i64 x.f1).wf = true ∧ (x.f2.length ≤ 9223372036854775807 ∧ ∀ y ∈ x.f2, (Lit.int .i64 y).wf = true) ∧ (Lit.int .i64 x.f3).wf = true ∧ (Lit.int .i64 x.f4).wf = true ∧ (x.f5.length ≤ 9223372036854775807 ∧ ∀ y ∈ x.f5, (Lit.int .i64 y).wf = true) ∧ (Q34 x.f6)
theorem opens36 : Opens Try.prog 36 k36 Q36 :=
  opens_iso _ (fun p => ⟨p.1, p.2.1, p.2.2.1, p.2.2.2.1, p.2.2.2.2.1, p.2.2.2.2.2.1, p.2.2.2.2.2.2⟩) (fun _ => rfl) (opens_struct Try.underlying36 (by kernel_rfl) (opensF_cons rfl (opens_int Try.underlying3 (by kernel_rfl)) (opensF_cons rfl (opens_int Try.underlying3 (by kernel_rfl)) (opensF_cons rfl (opens_slice Try.underlying24 (by kernel_rfl) (opens_int Try.underlying3 (by kernel_rfl))) (opensF_cons rfl (opens_int Try.underlying3 (by kernel_rfl)) (opensF_cons rfl (opens_int Try.underlying3 (by kernel_rfl)) (opensF_cons rfl (opens_slice Try.underlying24 (by kernel_rfl) (opens_int Try.underlying3 (by kernel_rfl))) (opensF_one rfl opens34))))))))
theorem o36 {w : World} {x : S36} {cs : List Value} (h : k36.K w x cs) : ∃ (A2 : Option Addr) (c2 : Nat) (A5 : Option Addr) (c5 : Nat), cs = [.int .i64 x.f0, .int .i64 x.f1, .slice A2 x.f2.length c2, .int .i64 x.f3, .int .i64 x.f4, .slice A5 x.f5.length c5, .int .i64 x.f6.f0, .int .i64 x.f6.f1] ∧ x.f2.length ≤ c2 ∧ Kd.C (Kd.int .i64) w A2 x.f2.length x.f2 ∧ x.f5.length ≤ c5 ∧ Kd.C (Kd.int .i64) w A5 x.f5.length x.f5 := by
  obtain ⟨_, _, rfl, rfl, ⟨_, _, rfl, rfl, ⟨_, _, rfl, h2, ⟨_, _, rfl, rfl, ⟨_, _, rfl, rfl, ⟨_, _, rfl, h5, h6⟩⟩⟩⟩⟩⟩ := h
  obtain ⟨A2, c2, rfl, hl2, hC2⟩ := h2
  obtain ⟨A5, c5, rfl, hl5, hC5⟩ := h5
  obtain rfl := o34 h6
  exact ⟨A2, c2, A5, c5, rfl, hl2, hC2, hl5, hC5⟩
/-- What is to be proved of plain values. -/
def FnExactAskHousesLaw : Prop := ∀ (y0 : S36) (l1 : List (List (Int))) (a2 : Int), (Q36 y0) → l1.length ≤ 9223372036854775807 → (∀ y ∈ l1, (y.length ≤ 9223372036854775807 ∧ ∀ z ∈ y, (Lit.int .i64 z).wf = true)) → (Lit.int .i64 a2).wf = true → ∃ k, laws_FnExactAskHouses.f k y0.f0 y0.f1 y0.f2 y0.f3 y0.f4 y0.f5 y0.f6.f0 y0.f6.f1 l1 a2 = some true
end Go.Proofs.Ytejhjenlodclpaa.PFnExactAskHouses
