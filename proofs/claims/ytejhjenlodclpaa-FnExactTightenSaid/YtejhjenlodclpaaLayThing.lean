/- What the kit's shelf asks of this dump, for its contracts on functions of Go's library (ins:Thing, compare): written by a tool of the kit. No conditions. -/
import Derived.Shelf.SlSortCmp.InsertionK
import Derived.Shelf.SlicesG.Cmp
import Derived.Test.YtejhjenlodclpaaProg
namespace Go.Proofs
open Go.Shelf
def Try.insThing_ren : Go.Shelf.Ren := ⟨fun | 20 => 202 | n => n, fun | 24 => 111 | 22 => 97 | 3 => 3 | 25 => 188 | 4 => 4 | 0 => 0 | n => n, fun | n => n⟩
theorem Try.insThing : Go.Proofs.SlLaysF0.n20 Try.prog Try.insThing_ren := {
  mixed := by kernel_rfl
  f20 := ⟨Try.f202.name, by decide, Try.func202.trans (congrArg some (by kernel_rfl))⟩
  t0 := Try.underlying0
  a0 := Try.isAgg0
  z0 := Try.sizeOf0
  v0 := Try.zeroValue0
  t3 := Try.underlying3
  a3 := Try.isAgg3
  z3 := Try.sizeOf3
  v3 := Try.zeroValue3
  t4 := Try.underlying4
  a4 := Try.isAgg4
  z4 := Try.sizeOf4
  v4 := Try.zeroValue4
  t22 := Try.underlying97
  a22 := Try.isAgg97
  z22 := Try.sizeOf97
  v22 := Try.zeroValue97
  t25 := Try.underlying188
  a25 := Try.isAgg188
  z25 := Try.sizeOf188
  v25 := Try.zeroValue188 }
def Try.compareInt_ren : Go.Shelf.Ren := ⟨fun | 5 => 166 | 7 => 191 | n => n, fun | 22 => 3 | 3 => 3 | 4 => 4 | n => n, fun | n => n⟩
theorem Try.compareInt : Go.Proofs.SlLaysC2.n5 Try.prog Try.compareInt_ren := {
  mixed := by kernel_rfl
  f5 := ⟨Try.f166.name, by decide, Try.func166.trans (congrArg some (by kernel_rfl))⟩
  f7 := ⟨Try.f191.name, by decide, Try.func191.trans (congrArg some (by kernel_rfl))⟩
  t3 := Try.underlying3
  a3 := Try.isAgg3
  z3 := Try.sizeOf3
  v3 := Try.zeroValue3
  t4 := Try.underlying4
  a4 := Try.isAgg4
  z4 := Try.sizeOf4
  v4 := Try.zeroValue4
  t22 := Try.underlying3
  a22 := Try.isAgg3
  z22 := Try.sizeOf3
  v22 := Try.zeroValue3 }
end Go.Proofs
