/- What the kit's shelf asks of this dump, for its contracts on functions of Go's library (ins:Bid, compare): written by a tool of the kit. No conditions. -/
import Derived.Shelf.SlSortCmp.InsertionK
import Derived.Shelf.SlicesG.Cmp
import Derived.Test.YtpkdbkheggfkkaaProg
namespace Go.Proofs
open Go.Shelf
def Try.insBid_ren : Go.Shelf.Ren := ⟨fun | 20 => 215 | n => n, fun | 24 => 56 | 22 => 26 | 3 => 3 | 25 => 179 | 4 => 4 | 0 => 0 | n => n, fun | n => n⟩
theorem Try.insBid : Go.Proofs.SlLaysF0.n20 Try.prog Try.insBid_ren := {
  mixed := by kernel_rfl
  f20 := ⟨Try.f215.name, by decide, Try.func215.trans (congrArg some (by kernel_rfl))⟩
  t0 := Try.underlying0
  a0 := Try.isAgg0
  z0 := Try.sizeOf0
  v0 := Try.zeroValue0
  t3 := Try.underlying3
  a3 := Try.isAgg3
  z3 := Try.sizeOf3
  v3 := Try.zeroValue3
  t4 := Try.underlying4
  a4 := Try.isAgg4
  z4 := Try.sizeOf4
  v4 := Try.zeroValue4
  t22 := Try.underlying26
  a22 := Try.isAgg26
  z22 := Try.sizeOf26
  v22 := Try.zeroValue26
  t25 := Try.underlying179
  a25 := Try.isAgg179
  z25 := Try.sizeOf179
  v25 := Try.zeroValue179 }
def Try.compareInt_ren : Go.Shelf.Ren := ⟨fun | 5 => 141 | 7 => 182 | n => n, fun | 22 => 3 | 3 => 3 | 4 => 4 | n => n, fun | n => n⟩
theorem Try.compareInt : Go.Proofs.SlLaysC2.n5 Try.prog Try.compareInt_ren := {
  mixed := by kernel_rfl
  f5 := ⟨Try.f141.name, by decide, Try.func141.trans (congrArg some (by kernel_rfl))⟩
  f7 := ⟨Try.f182.name, by decide, Try.func182.trans (congrArg some (by kernel_rfl))⟩
  t3 := Try.underlying3
  a3 := Try.isAgg3
  z3 := Try.sizeOf3
  v3 := Try.zeroValue3
  t4 := Try.underlying4
  a4 := Try.isAgg4
  z4 := Try.sizeOf4
  v4 := Try.zeroValue4
  t22 := Try.underlying3
  a22 := Try.isAgg3
  z22 := Try.sizeOf3
  v22 := Try.zeroValue3 }
end Go.Proofs
