/-
  No cell of these rows narrows 'for every input' (looked for: loops, veiled, ifaces, maps, wideKeys, modest, calm, conditions, laid).
  DERIVED. THE GIVEN ROWS OF THIS SEAT. 9 by the template 'for every input the law returns true; each argument reads behind the call as it read before'; 0 by the template 'total and deterministic' (their statements: YtejhjenlodclpaaTotals.lean).
  GIVEN WITH THE SEED: the statements are not yours to turn. If you find one false, say at which input.
  Laid BY PROGRAM, IN A SANDBOX (cutbox-rows.mjs): the forced cells as the released guide's own fill.sh prints them over the translation 5c7c04c0bbd71af7… (all of the seat's roots in one cut). By AI agents, Wed Nov 11 2026. No macro, syntax, notation, axiom, sorry.
-/
import Derived.Test.YtejhjenlodclpaaChecked
import GoSem.Claim
import GoSem.ClaimJoined
import GoSem.ClaimMapViews
import Derived.JoinedTies
import Derived.KernelRfl
namespace Go.Proofs.Ytejhjenlodclpaa
/- THE CELL 'sum', in the pinned program and in every row, IS THE sha256 OF THE DUMP (.gsa) THAT YtejhjenlodclpaaProg.lean LOADS. Nothing in Lean hashes anything: it is a label: what it is worth is what the hold of that sum in a sandbox is worth. -/
noncomputable def Try.pinned : Pinned := { name := "ytejhjenlodclpaa", sum := "5c7c04c0bbd71af7c258fd4d3431151c8ede1b98bc90179f27cdcd5846630064", checked := Try.checked }
namespace Rows
def none {H : Type} : Left H := { results := [], args := [] }

/-- 'laws.FnExactHintsOf': WHATEVER THE INPUT: true; the input reads as it did. -/
def fnExactHintsOfSpec : ChangeSpec := { name := "fnExactHintsOf", fn := fun _ => fun
  | [d1, d2] => { results := [.lit (.bool true)], args := [d1, d2] }
  | _ => none }
def fnExactHintsOfRow : OpenClaim := { program := "ytejhjenlodclpaa", sum := "5c7c04c0bbd71af7c258fd4d3431151c8ede1b98bc90179f27cdcd5846630064", func := "loop.example/g03007/laws.FnExactHintsOf", spec := "fnExactHintsOf", recurses := true, apart := false }
def FnExactHintsOfSaid : Prop := fnExactHintsOfRow.holds Try.pinned (OpenSpec.ofChange fnExactHintsOfSpec)

/-- ITS FALSE NEIGHBOUR: 'it returns false'. Refute it at one input. -/
def fnExactHintsOfWrong : ChangeSpec := { name := "fnExactHintsOf", fn := fun _ => fun
  | [d1, d2] => { results := [.lit (.bool false)], args := [d1, d2] }
  | _ => none }
def FnExactHintsOfWrongFalsely : Prop := fnExactHintsOfRow.holds Try.pinned (OpenSpec.ofChange fnExactHintsOfWrong)

/-- 'laws.FnExactHintsFor': WHATEVER THE INPUT: true; the input reads as it did. -/
def fnExactHintsForSpec : ChangeSpec := { name := "fnExactHintsFor", fn := fun _ => fun
  | [d1, d2] => { results := [.lit (.bool true)], args := [d1, d2] }
  | _ => none }
def fnExactHintsForRow : OpenClaim := { program := "ytejhjenlodclpaa", sum := "5c7c04c0bbd71af7c258fd4d3431151c8ede1b98bc90179f27cdcd5846630064", func := "loop.example/g03007/laws.FnExactHintsFor", spec := "fnExactHintsFor", recurses := true, apart := false }
def FnExactHintsForSaid : Prop := fnExactHintsForRow.holds Try.pinned (OpenSpec.ofChange fnExactHintsForSpec)

/-- ITS FALSE NEIGHBOUR: 'it returns false'. Refute it at one input. -/
def fnExactHintsForWrong : ChangeSpec := { name := "fnExactHintsFor", fn := fun _ => fun
  | [d1, d2] => { results := [.lit (.bool false)], args := [d1, d2] }
  | _ => none }
def FnExactHintsForWrongFalsely : Prop := fnExactHintsForRow.holds Try.pinned (OpenSpec.ofChange fnExactHintsForWrong)

/-- 'laws.FnExactMayHave': WHATEVER THE INPUT: true; the input reads as it did. -/
def fnExactMayHaveSpec : ChangeSpec := { name := "fnExactMayHave", fn := fun _ => fun
  | [d1, d2, d3] => { results := [.lit (.bool true)], args := [d1, d2, d3] }
  | _ => none }
def fnExactMayHaveRow : OpenClaim := { program := "ytejhjenlodclpaa", sum := "5c7c04c0bbd71af7c258fd4d3431151c8ede1b98bc90179f27cdcd5846630064", func := "loop.example/g03007/laws.FnExactMayHave", spec := "fnExactMayHave", recurses := true, apart := false }
def FnExactMayHaveSaid : Prop := fnExactMayHaveRow.holds Try.pinned (OpenSpec.ofChange fnExactMayHaveSpec)

/-- ITS FALSE NEIGHBOUR: 'it returns false'. Refute it at one input. -/
def fnExactMayHaveWrong : ChangeSpec := { name := "fnExactMayHave", fn := fun _ => fun
  | [d1, d2, d3] => { results := [.lit (.bool false)], args := [d1, d2, d3] }
  | _ => none }
def FnExactMayHaveWrongFalsely : Prop := fnExactMayHaveRow.holds Try.pinned (OpenSpec.ofChange fnExactMayHaveWrong)

/-- 'laws.FnParcels': WHATEVER THE INPUT: true; the input reads as it did. -/
def fnParcelsSpec : ChangeSpec := { name := "fnParcels", fn := fun _ => fun
  | [d] => { results := [.lit (.bool true)], args := [d] }
  | _ => none }
def fnParcelsRow : OpenClaim := { program := "ytejhjenlodclpaa", sum := "5c7c04c0bbd71af7c258fd4d3431151c8ede1b98bc90179f27cdcd5846630064", func := "loop.example/g03007/laws.FnParcels", spec := "fnParcels", recurses := true, apart := false }
def FnParcelsSaid : Prop := fnParcelsRow.holds Try.pinned (OpenSpec.ofChange fnParcelsSpec)

/-- ITS FALSE NEIGHBOUR: 'it returns false'. Refute it at one input. -/
def fnParcelsWrong : ChangeSpec := { name := "fnParcels", fn := fun _ => fun
  | [d] => { results := [.lit (.bool false)], args := [d] }
  | _ => none }
def FnParcelsWrongFalsely : Prop := fnParcelsRow.holds Try.pinned (OpenSpec.ofChange fnParcelsWrong)

/-- 'laws.FnExactAskHouses': WHATEVER THE INPUT: true; the input reads as it did. -/
def fnExactAskHousesSpec : ChangeSpec := { name := "fnExactAskHouses", fn := fun _ => fun
  | [d1, d2, d3] => { results := [.lit (.bool true)], args := [d1, d2, d3] }
  | _ => none }
def fnExactAskHousesRow : OpenClaim := { program := "ytejhjenlodclpaa", sum := "5c7c04c0bbd71af7c258fd4d3431151c8ede1b98bc90179f27cdcd5846630064", func := "loop.example/g03007/laws.FnExactAskHouses", spec := "fnExactAskHouses", recurses := true, apart := false }
def FnExactAskHousesSaid : Prop := fnExactAskHousesRow.holds Try.pinned (OpenSpec.ofChange fnExactAskHousesSpec)

/-- ITS FALSE NEIGHBOUR: 'it returns false'. Refute it at one input. -/
def fnExactAskHousesWrong : ChangeSpec := { name := "fnExactAskHouses", fn := fun _ => fun
  | [d1, d2, d3] => { results := [.lit (.bool false)], args := [d1, d2, d3] }
  | _ => none }
def FnExactAskHousesWrongFalsely : Prop := fnExactAskHousesRow.holds Try.pinned (OpenSpec.ofChange fnExactAskHousesWrong)

/-- 'laws.FnExactSendParcel': WHATEVER THE INPUT: true; the input reads as it did. -/
def fnExactSendParcelSpec : ChangeSpec := { name := "fnExactSendParcel", fn := fun _ => fun
  | [d1, d2] => { results := [.lit (.bool true)], args := [d1, d2] }
  | _ => none }
def fnExactSendParcelRow : OpenClaim := { program := "ytejhjenlodclpaa", sum := "5c7c04c0bbd71af7c258fd4d3431151c8ede1b98bc90179f27cdcd5846630064", func := "loop.example/g03007/laws.FnExactSendParcel", spec := "fnExactSendParcel", recurses := true, apart := false }
def FnExactSendParcelSaid : Prop := fnExactSendParcelRow.holds Try.pinned (OpenSpec.ofChange fnExactSendParcelSpec)

/-- ITS FALSE NEIGHBOUR: 'it returns false'. Refute it at one input. -/
def fnExactSendParcelWrong : ChangeSpec := { name := "fnExactSendParcel", fn := fun _ => fun
  | [d1, d2] => { results := [.lit (.bool false)], args := [d1, d2] }
  | _ => none }
def FnExactSendParcelWrongFalsely : Prop := fnExactSendParcelRow.holds Try.pinned (OpenSpec.ofChange fnExactSendParcelWrong)

/-- 'laws.FnExactSendAll': WHATEVER THE INPUT: true; the input reads as it did. -/
def fnExactSendAllSpec : ChangeSpec := { name := "fnExactSendAll", fn := fun _ => fun
  | [d1, d2] => { results := [.lit (.bool true)], args := [d1, d2] }
  | _ => none }
def fnExactSendAllRow : OpenClaim := { program := "ytejhjenlodclpaa", sum := "5c7c04c0bbd71af7c258fd4d3431151c8ede1b98bc90179f27cdcd5846630064", func := "loop.example/g03007/laws.FnExactSendAll", spec := "fnExactSendAll", recurses := true, apart := false }
def FnExactSendAllSaid : Prop := fnExactSendAllRow.holds Try.pinned (OpenSpec.ofChange fnExactSendAllSpec)

/-- ITS FALSE NEIGHBOUR: 'it returns false'. Refute it at one input. -/
def fnExactSendAllWrong : ChangeSpec := { name := "fnExactSendAll", fn := fun _ => fun
  | [d1, d2] => { results := [.lit (.bool false)], args := [d1, d2] }
  | _ => none }
def FnExactSendAllWrongFalsely : Prop := fnExactSendAllRow.holds Try.pinned (OpenSpec.ofChange fnExactSendAllWrong)

/-- 'laws.FnExactTighten': WHATEVER THE INPUT: true; the input reads as it did. -/
def fnExactTightenSpec : ChangeSpec := { name := "fnExactTighten", fn := fun _ => fun
  | [d1, d2] => { results := [.lit (.bool true)], args := [d1, d2] }
  | _ => none }
def fnExactTightenRow : OpenClaim := { program := "ytejhjenlodclpaa", sum := "5c7c04c0bbd71af7c258fd4d3431151c8ede1b98bc90179f27cdcd5846630064", func := "loop.example/g03007/laws.FnExactTighten", spec := "fnExactTighten", unfollowed := true, recurses := true, apart := false }
def FnExactTightenSaid : Prop := fnExactTightenRow.holds Try.pinned (OpenSpec.ofChange fnExactTightenSpec)

/-- ITS FALSE NEIGHBOUR: 'it returns false'. Refute it at one input. -/
def fnExactTightenWrong : ChangeSpec := { name := "fnExactTighten", fn := fun _ => fun
  | [d1, d2] => { results := [.lit (.bool false)], args := [d1, d2] }
  | _ => none }
def FnExactTightenWrongFalsely : Prop := fnExactTightenRow.holds Try.pinned (OpenSpec.ofChange fnExactTightenWrong)

/-- 'laws.FnHints': WHATEVER THE INPUT: true; the input reads as it did. -/
def fnHintsSpec : ChangeSpec := { name := "fnHints", fn := fun _ => fun
  | [d] => { results := [.lit (.bool true)], args := [d] }
  | _ => none }
def fnHintsRow : OpenClaim := { program := "ytejhjenlodclpaa", sum := "5c7c04c0bbd71af7c258fd4d3431151c8ede1b98bc90179f27cdcd5846630064", func := "loop.example/g03007/laws.FnHints", spec := "fnHints", recurses := true, apart := false }
def FnHintsSaid : Prop := fnHintsRow.holds Try.pinned (OpenSpec.ofChange fnHintsSpec)

/-- ITS FALSE NEIGHBOUR: 'it returns false'. Refute it at one input. -/
def fnHintsWrong : ChangeSpec := { name := "fnHints", fn := fun _ => fun
  | [d] => { results := [.lit (.bool false)], args := [d] }
  | _ => none }
def FnHintsWrongFalsely : Prop := fnHintsRow.holds Try.pinned (OpenSpec.ofChange fnHintsWrong)

/- THE SECOND FORM. 'bulk': how many values and letters a reading holds, each counted each time it is reached (what is shared counts as often as it is met; a slice's spare places count too). A statement '..UptoSaid' is the law's where the arguments, and the package variables that the reading takes, are together of bulk at most 1048576: NARROWER than '..Said'. Prove '..Said' where nothing that the law and all that it calls make is longer than what came in: it says more and counts as full. Else prove '..UptoSaid'. A law counts once. -/
mutual
def uptoBulk {H : Type} : DataW H → Nat
  | .lit (.string bytes) => bytes.length + 1
  | .lit _ => 1
  | .nil => 1
  | .ptr d => uptoBulk d + 1
  | .slice elems spare => uptoBulkAll elems + uptoBulkAll spare + 1
  | .agg parts => uptoBulkAll parts + 1
  | .iface _ d => uptoBulk d + 1
  | .map entries => uptoBulkEntries entries + 1
  | .held _ => 1
def uptoBulkAll {H : Type} : List (DataW H) → Nat
  | [] => 0
  | d :: r => uptoBulk d + uptoBulkAll r
def uptoBulkEntries {H : Type} : List (Lit × DataW H) → Nat
  | [] => 0
  | x :: r => uptoBulkEntry x + uptoBulkEntries r
def uptoBulkEntry {H : Type} : Lit × DataW H → Nat
  | (.string bytes, d) => bytes.length + uptoBulk d + 1
  | (_, d) => uptoBulk d + 1
 end
def uptoSmall : (H : Type) → List (DataW H) → Bool := fun _ ds => decide (uptoBulkAll ds ≤ 1048576)
def OpenSpec.upto (s : _root_.Go.ChangeSpec) : _root_.Go.OpenSpec := { _root_.Go.OpenSpec.ofChange s with cond := some uptoSmall }

/-- 'laws.FnExactHintsOf', WHERE WHAT IT READS IS OF BULK AT MOST 1048576: true; the input reads as it did. -/
def fnExactHintsOfUptoRow : OpenClaim := { program := "ytejhjenlodclpaa", sum := "5c7c04c0bbd71af7c258fd4d3431151c8ede1b98bc90179f27cdcd5846630064", func := "loop.example/g03007/laws.FnExactHintsOf", spec := "fnExactHintsOf", recurses := true, apart := false, narrowed := true }
def FnExactHintsOfUptoSaid : Prop := fnExactHintsOfUptoRow.holds Try.pinned (OpenSpec.upto fnExactHintsOfSpec)

/-- 'laws.FnExactHintsFor', WHERE WHAT IT READS IS OF BULK AT MOST 1048576: true; the input reads as it did. -/
def fnExactHintsForUptoRow : OpenClaim := { program := "ytejhjenlodclpaa", sum := "5c7c04c0bbd71af7c258fd4d3431151c8ede1b98bc90179f27cdcd5846630064", func := "loop.example/g03007/laws.FnExactHintsFor", spec := "fnExactHintsFor", recurses := true, apart := false, narrowed := true }
def FnExactHintsForUptoSaid : Prop := fnExactHintsForUptoRow.holds Try.pinned (OpenSpec.upto fnExactHintsForSpec)

/-- 'laws.FnExactMayHave', WHERE WHAT IT READS IS OF BULK AT MOST 1048576: true; the input reads as it did. -/
def fnExactMayHaveUptoRow : OpenClaim := { program := "ytejhjenlodclpaa", sum := "5c7c04c0bbd71af7c258fd4d3431151c8ede1b98bc90179f27cdcd5846630064", func := "loop.example/g03007/laws.FnExactMayHave", spec := "fnExactMayHave", recurses := true, apart := false, narrowed := true }
def FnExactMayHaveUptoSaid : Prop := fnExactMayHaveUptoRow.holds Try.pinned (OpenSpec.upto fnExactMayHaveSpec)

/-- 'laws.FnParcels', WHERE WHAT IT READS IS OF BULK AT MOST 1048576: true; the input reads as it did. -/
def fnParcelsUptoRow : OpenClaim := { program := "ytejhjenlodclpaa", sum := "5c7c04c0bbd71af7c258fd4d3431151c8ede1b98bc90179f27cdcd5846630064", func := "loop.example/g03007/laws.FnParcels", spec := "fnParcels", recurses := true, apart := false, narrowed := true }
def FnParcelsUptoSaid : Prop := fnParcelsUptoRow.holds Try.pinned (OpenSpec.upto fnParcelsSpec)

/-- 'laws.FnExactAskHouses', WHERE WHAT IT READS IS OF BULK AT MOST 1048576: true; the input reads as it did. -/
def fnExactAskHousesUptoRow : OpenClaim := { program := "ytejhjenlodclpaa", sum := "5c7c04c0bbd71af7c258fd4d3431151c8ede1b98bc90179f27cdcd5846630064", func := "loop.example/g03007/laws.FnExactAskHouses", spec := "fnExactAskHouses", recurses := true, apart := false, narrowed := true }
def FnExactAskHousesUptoSaid : Prop := fnExactAskHousesUptoRow.holds Try.pinned (OpenSpec.upto fnExactAskHousesSpec)

/-- 'laws.FnExactSendParcel', WHERE WHAT IT READS IS OF BULK AT MOST 1048576: true; the input reads as it did. -/
def fnExactSendParcelUptoRow : OpenClaim := { program := "ytejhjenlodclpaa", sum := "5c7c04c0bbd71af7c258fd4d3431151c8ede1b98bc90179f27cdcd5846630064", func := "loop.example/g03007/laws.FnExactSendParcel", spec := "fnExactSendParcel", recurses := true, apart := false, narrowed := true }
def FnExactSendParcelUptoSaid : Prop := fnExactSendParcelUptoRow.holds Try.pinned (OpenSpec.upto fnExactSendParcelSpec)

/-- 'laws.FnExactSendAll', WHERE WHAT IT READS IS OF BULK AT MOST 1048576: true; the input reads as it did. -/
def fnExactSendAllUptoRow : OpenClaim := { program := "ytejhjenlodclpaa", sum := "5c7c04c0bbd71af7c258fd4d3431151c8ede1b98bc90179f27cdcd5846630064", func := "loop.example/g03007/laws.FnExactSendAll", spec := "fnExactSendAll", recurses := true, apart := false, narrowed := true }
def FnExactSendAllUptoSaid : Prop := fnExactSendAllUptoRow.holds Try.pinned (OpenSpec.upto fnExactSendAllSpec)

/-- 'laws.FnExactTighten', WHERE WHAT IT READS IS OF BULK AT MOST 1048576: true; the input reads as it did. -/
def fnExactTightenUptoRow : OpenClaim := { program := "ytejhjenlodclpaa", sum := "5c7c04c0bbd71af7c258fd4d3431151c8ede1b98bc90179f27cdcd5846630064", func := "loop.example/g03007/laws.FnExactTighten", spec := "fnExactTighten", unfollowed := true, recurses := true, apart := false, narrowed := true }
def FnExactTightenUptoSaid : Prop := fnExactTightenUptoRow.holds Try.pinned (OpenSpec.upto fnExactTightenSpec)

/-- 'laws.FnHints', WHERE WHAT IT READS IS OF BULK AT MOST 1048576: true; the input reads as it did. -/
def fnHintsUptoRow : OpenClaim := { program := "ytejhjenlodclpaa", sum := "5c7c04c0bbd71af7c258fd4d3431151c8ede1b98bc90179f27cdcd5846630064", func := "loop.example/g03007/laws.FnHints", spec := "fnHints", recurses := true, apart := false, narrowed := true }
def FnHintsUptoSaid : Prop := fnHintsUptoRow.holds Try.pinned (OpenSpec.upto fnHintsSpec)

end Rows
end Go.Proofs.Ytejhjenlodclpaa
