/-
  No cell of these rows narrows 'for every input' (looked for: loops, veiled, ifaces, maps, wideKeys, modest, calm, conditions, laid).
  DERIVED. THE GIVEN ROWS OF THIS SEAT. 12 by the template 'for every input the law returns true; each argument reads behind the call as it read before'; 0 by the template 'total and deterministic' (their statements: YtoemmbagjjjimaaTotals.lean).
  GIVEN WITH THE SEED: the statements are not yours to turn. If you find one false, say at which input.
  Laid BY PROGRAM, IN A SANDBOX (cutbox-rows.mjs): the forced cells as the released guide's own fill.sh prints them over the translation 363e7a6e1b223adc… (all of the seat's roots in one cut). By AI agents, Wed Nov 11 2026. No macro, syntax, notation, axiom, sorry.
-/
import Derived.Test.YtoemmbagjjjimaaChecked
import GoSem.Claim
import GoSem.ClaimJoined
import GoSem.ClaimMapViews
import Derived.JoinedTies
import Derived.KernelRfl
namespace Go.Proofs.Ytoemmbagjjjimaa
/- THE CELL 'sum', in the pinned program and in every row, IS THE sha256 OF THE DUMP (.gsa) THAT YtoemmbagjjjimaaProg.lean LOADS. Nothing in Lean hashes anything: it is a label: what it is worth is what the hold of that sum in a sandbox is worth. -/
noncomputable def Try.pinned : Pinned := { name := "ytoemmbagjjjimaa", sum := "363e7a6e1b223adc529f59e484898af2d9f2b5dae94ed9d9d6c246369959c739", checked := Try.checked }
namespace Rows
def none {H : Type} : Left H := { results := [], args := [] }

/-- 'laws.FnExactTotalShares': WHATEVER THE INPUT: true; the input reads as it did. -/
def fnExactTotalSharesSpec : ChangeSpec := { name := "fnExactTotalShares", fn := fun _ => fun
  | [d] => { results := [.lit (.bool true)], args := [d] }
  | _ => none }
def fnExactTotalSharesRow : OpenClaim := { program := "ytoemmbagjjjimaa", sum := "363e7a6e1b223adc529f59e484898af2d9f2b5dae94ed9d9d6c246369959c739", func := "loop.example/g03007/laws.FnExactTotalShares", spec := "fnExactTotalShares", apart := false }
def FnExactTotalSharesSaid : Prop := fnExactTotalSharesRow.holds Try.pinned (OpenSpec.ofChange fnExactTotalSharesSpec)

/-- ITS FALSE NEIGHBOUR: 'it returns false'. Refute it at one input. -/
def fnExactTotalSharesWrong : ChangeSpec := { name := "fnExactTotalShares", fn := fun _ => fun
  | [d] => { results := [.lit (.bool false)], args := [d] }
  | _ => none }
def FnExactTotalSharesWrongFalsely : Prop := fnExactTotalSharesRow.holds Try.pinned (OpenSpec.ofChange fnExactTotalSharesWrong)

/-- 'laws.FnExactIsDue': WHATEVER THE INPUT: true; the input reads as it did. -/
def fnExactIsDueSpec : ChangeSpec := { name := "fnExactIsDue", fn := fun _ => fun
  | [d1, d2] => { results := [.lit (.bool true)], args := [d1, d2] }
  | _ => none }
def fnExactIsDueRow : OpenClaim := { program := "ytoemmbagjjjimaa", sum := "363e7a6e1b223adc529f59e484898af2d9f2b5dae94ed9d9d6c246369959c739", func := "loop.example/g03007/laws.FnExactIsDue", spec := "fnExactIsDue", apart := false }
def FnExactIsDueSaid : Prop := fnExactIsDueRow.holds Try.pinned (OpenSpec.ofChange fnExactIsDueSpec)

/-- ITS FALSE NEIGHBOUR: 'it returns false'. Refute it at one input. -/
def fnExactIsDueWrong : ChangeSpec := { name := "fnExactIsDue", fn := fun _ => fun
  | [d1, d2] => { results := [.lit (.bool false)], args := [d1, d2] }
  | _ => none }
def FnExactIsDueWrongFalsely : Prop := fnExactIsDueRow.holds Try.pinned (OpenSpec.ofChange fnExactIsDueWrong)

/-- 'laws.FnExactAreLetters': WHATEVER THE INPUT: true; the input reads as it did. -/
def fnExactAreLettersSpec : ChangeSpec := { name := "fnExactAreLetters", fn := fun _ => fun
  | [d] => { results := [.lit (.bool true)], args := [d] }
  | _ => none }
def fnExactAreLettersRow : OpenClaim := { program := "ytoemmbagjjjimaa", sum := "363e7a6e1b223adc529f59e484898af2d9f2b5dae94ed9d9d6c246369959c739", func := "loop.example/g03007/laws.FnExactAreLetters", spec := "fnExactAreLetters", apart := false }
def FnExactAreLettersSaid : Prop := fnExactAreLettersRow.holds Try.pinned (OpenSpec.ofChange fnExactAreLettersSpec)

/-- ITS FALSE NEIGHBOUR: 'it returns false'. Refute it at one input. -/
def fnExactAreLettersWrong : ChangeSpec := { name := "fnExactAreLetters", fn := fun _ => fun
  | [d] => { results := [.lit (.bool false)], args := [d] }
  | _ => none }
def FnExactAreLettersWrongFalsely : Prop := fnExactAreLettersRow.holds Try.pinned (OpenSpec.ofChange fnExactAreLettersWrong)

/-- 'laws.FnExactIsParcel': WHATEVER THE INPUT: true; the input reads as it did. -/
def fnExactIsParcelSpec : ChangeSpec := { name := "fnExactIsParcel", fn := fun _ => fun
  | [d] => { results := [.lit (.bool true)], args := [d] }
  | _ => none }
def fnExactIsParcelRow : OpenClaim := { program := "ytoemmbagjjjimaa", sum := "363e7a6e1b223adc529f59e484898af2d9f2b5dae94ed9d9d6c246369959c739", func := "loop.example/g03007/laws.FnExactIsParcel", spec := "fnExactIsParcel", apart := false }
def FnExactIsParcelSaid : Prop := fnExactIsParcelRow.holds Try.pinned (OpenSpec.ofChange fnExactIsParcelSpec)

/-- ITS FALSE NEIGHBOUR: 'it returns false'. Refute it at one input. -/
def fnExactIsParcelWrong : ChangeSpec := { name := "fnExactIsParcel", fn := fun _ => fun
  | [d] => { results := [.lit (.bool false)], args := [d] }
  | _ => none }
def FnExactIsParcelWrongFalsely : Prop := fnExactIsParcelRow.holds Try.pinned (OpenSpec.ofChange fnExactIsParcelWrong)

/-- 'laws.FnExactAreBids': WHATEVER THE INPUT: true; the input reads as it did. -/
def fnExactAreBidsSpec : ChangeSpec := { name := "fnExactAreBids", fn := fun _ => fun
  | [d] => { results := [.lit (.bool true)], args := [d] }
  | _ => none }
def fnExactAreBidsRow : OpenClaim := { program := "ytoemmbagjjjimaa", sum := "363e7a6e1b223adc529f59e484898af2d9f2b5dae94ed9d9d6c246369959c739", func := "loop.example/g03007/laws.FnExactAreBids", spec := "fnExactAreBids", unfollowed := true, recurses := true, apart := false }
def FnExactAreBidsSaid : Prop := fnExactAreBidsRow.holds Try.pinned (OpenSpec.ofChange fnExactAreBidsSpec)

/-- ITS FALSE NEIGHBOUR: 'it returns false'. Refute it at one input. -/
def fnExactAreBidsWrong : ChangeSpec := { name := "fnExactAreBids", fn := fun _ => fun
  | [d] => { results := [.lit (.bool false)], args := [d] }
  | _ => none }
def FnExactAreBidsWrongFalsely : Prop := fnExactAreBidsRow.holds Try.pinned (OpenSpec.ofChange fnExactAreBidsWrong)

/-- 'laws.FnExactSplitMoney': WHATEVER THE INPUT: true; the input reads as it did. -/
def fnExactSplitMoneySpec : ChangeSpec := { name := "fnExactSplitMoney", fn := fun _ => fun
  | [d1, d2] => { results := [.lit (.bool true)], args := [d1, d2] }
  | _ => none }
def fnExactSplitMoneyRow : OpenClaim := { program := "ytoemmbagjjjimaa", sum := "363e7a6e1b223adc529f59e484898af2d9f2b5dae94ed9d9d6c246369959c739", func := "loop.example/g03007/laws.FnExactSplitMoney", spec := "fnExactSplitMoney", apart := false }
def FnExactSplitMoneySaid : Prop := fnExactSplitMoneyRow.holds Try.pinned (OpenSpec.ofChange fnExactSplitMoneySpec)

/-- ITS FALSE NEIGHBOUR: 'it returns false'. Refute it at one input. -/
def fnExactSplitMoneyWrong : ChangeSpec := { name := "fnExactSplitMoney", fn := fun _ => fun
  | [d1, d2] => { results := [.lit (.bool false)], args := [d1, d2] }
  | _ => none }
def FnExactSplitMoneyWrongFalsely : Prop := fnExactSplitMoneyRow.holds Try.pinned (OpenSpec.ofChange fnExactSplitMoneyWrong)

/-- 'laws.FnExactWithoutBid': WHATEVER THE INPUT: true; the input reads as it did. -/
def fnExactWithoutBidSpec : ChangeSpec := { name := "fnExactWithoutBid", fn := fun _ => fun
  | [d1, d2] => { results := [.lit (.bool true)], args := [d1, d2] }
  | _ => none }
def fnExactWithoutBidRow : OpenClaim := { program := "ytoemmbagjjjimaa", sum := "363e7a6e1b223adc529f59e484898af2d9f2b5dae94ed9d9d6c246369959c739", func := "loop.example/g03007/laws.FnExactWithoutBid", spec := "fnExactWithoutBid", apart := false }
def FnExactWithoutBidSaid : Prop := fnExactWithoutBidRow.holds Try.pinned (OpenSpec.ofChange fnExactWithoutBidSpec)

/-- ITS FALSE NEIGHBOUR: 'it returns false'. Refute it at one input. -/
def fnExactWithoutBidWrong : ChangeSpec := { name := "fnExactWithoutBid", fn := fun _ => fun
  | [d1, d2] => { results := [.lit (.bool false)], args := [d1, d2] }
  | _ => none }
def FnExactWithoutBidWrongFalsely : Prop := fnExactWithoutBidRow.holds Try.pinned (OpenSpec.ofChange fnExactWithoutBidWrong)

/-- 'laws.FnExactMayWrite': WHATEVER THE INPUT: true; the input reads as it did. -/
def fnExactMayWriteSpec : ChangeSpec := { name := "fnExactMayWrite", fn := fun _ => fun
  | [d1, d2, d3, d4] => { results := [.lit (.bool true)], args := [d1, d2, d3, d4] }
  | _ => none }
def fnExactMayWriteRow : OpenClaim := { program := "ytoemmbagjjjimaa", sum := "363e7a6e1b223adc529f59e484898af2d9f2b5dae94ed9d9d6c246369959c739", func := "loop.example/g03007/laws.FnExactMayWrite", spec := "fnExactMayWrite", apart := false }
def FnExactMayWriteSaid : Prop := fnExactMayWriteRow.holds Try.pinned (OpenSpec.ofChange fnExactMayWriteSpec)

/-- ITS FALSE NEIGHBOUR: 'it returns false'. Refute it at one input. -/
def fnExactMayWriteWrong : ChangeSpec := { name := "fnExactMayWrite", fn := fun _ => fun
  | [d1, d2, d3, d4] => { results := [.lit (.bool false)], args := [d1, d2, d3, d4] }
  | _ => none }
def FnExactMayWriteWrongFalsely : Prop := fnExactMayWriteRow.holds Try.pinned (OpenSpec.ofChange fnExactMayWriteWrong)

/-- 'laws.FnExactDaysLeft': WHATEVER THE INPUT: true; the input reads as it did. -/
def fnExactDaysLeftSpec : ChangeSpec := { name := "fnExactDaysLeft", fn := fun _ => fun
  | [d1, d2] => { results := [.lit (.bool true)], args := [d1, d2] }
  | _ => none }
def fnExactDaysLeftRow : OpenClaim := { program := "ytoemmbagjjjimaa", sum := "363e7a6e1b223adc529f59e484898af2d9f2b5dae94ed9d9d6c246369959c739", func := "loop.example/g03007/laws.FnExactDaysLeft", spec := "fnExactDaysLeft", apart := false }
def FnExactDaysLeftSaid : Prop := fnExactDaysLeftRow.holds Try.pinned (OpenSpec.ofChange fnExactDaysLeftSpec)

/-- ITS FALSE NEIGHBOUR: 'it returns false'. Refute it at one input. -/
def fnExactDaysLeftWrong : ChangeSpec := { name := "fnExactDaysLeft", fn := fun _ => fun
  | [d1, d2] => { results := [.lit (.bool false)], args := [d1, d2] }
  | _ => none }
def FnExactDaysLeftWrongFalsely : Prop := fnExactDaysLeftRow.holds Try.pinned (OpenSpec.ofChange fnExactDaysLeftWrong)

/-- 'laws.FnExactHandsOf': WHATEVER THE INPUT: true; the input reads as it did. -/
def fnExactHandsOfSpec : ChangeSpec := { name := "fnExactHandsOf", fn := fun _ => fun
  | [d1, d2] => { results := [.lit (.bool true)], args := [d1, d2] }
  | _ => none }
def fnExactHandsOfRow : OpenClaim := { program := "ytoemmbagjjjimaa", sum := "363e7a6e1b223adc529f59e484898af2d9f2b5dae94ed9d9d6c246369959c739", func := "loop.example/g03007/laws.FnExactHandsOf", spec := "fnExactHandsOf", apart := false }
def FnExactHandsOfSaid : Prop := fnExactHandsOfRow.holds Try.pinned (OpenSpec.ofChange fnExactHandsOfSpec)

/-- ITS FALSE NEIGHBOUR: 'it returns false'. Refute it at one input. -/
def fnExactHandsOfWrong : ChangeSpec := { name := "fnExactHandsOf", fn := fun _ => fun
  | [d1, d2] => { results := [.lit (.bool false)], args := [d1, d2] }
  | _ => none }
def FnExactHandsOfWrongFalsely : Prop := fnExactHandsOfRow.holds Try.pinned (OpenSpec.ofChange fnExactHandsOfWrong)

/-- 'laws.FnExactHousesOf': WHATEVER THE INPUT: true; the input reads as it did. -/
def fnExactHousesOfSpec : ChangeSpec := { name := "fnExactHousesOf", fn := fun _ => fun
  | [d1, d2] => { results := [.lit (.bool true)], args := [d1, d2] }
  | _ => none }
def fnExactHousesOfRow : OpenClaim := { program := "ytoemmbagjjjimaa", sum := "363e7a6e1b223adc529f59e484898af2d9f2b5dae94ed9d9d6c246369959c739", func := "loop.example/g03007/laws.FnExactHousesOf", spec := "fnExactHousesOf", apart := false }
def FnExactHousesOfSaid : Prop := fnExactHousesOfRow.holds Try.pinned (OpenSpec.ofChange fnExactHousesOfSpec)

/-- ITS FALSE NEIGHBOUR: 'it returns false'. Refute it at one input. -/
def fnExactHousesOfWrong : ChangeSpec := { name := "fnExactHousesOf", fn := fun _ => fun
  | [d1, d2] => { results := [.lit (.bool false)], args := [d1, d2] }
  | _ => none }
def FnExactHousesOfWrongFalsely : Prop := fnExactHousesOfRow.holds Try.pinned (OpenSpec.ofChange fnExactHousesOfWrong)

/-- 'laws.FnExactSalesOf': WHATEVER THE INPUT: true; the input reads as it did. -/
def fnExactSalesOfSpec : ChangeSpec := { name := "fnExactSalesOf", fn := fun _ => fun
  | [d1, d2] => { results := [.lit (.bool true)], args := [d1, d2] }
  | _ => none }
def fnExactSalesOfRow : OpenClaim := { program := "ytoemmbagjjjimaa", sum := "363e7a6e1b223adc529f59e484898af2d9f2b5dae94ed9d9d6c246369959c739", func := "loop.example/g03007/laws.FnExactSalesOf", spec := "fnExactSalesOf", apart := false }
def FnExactSalesOfSaid : Prop := fnExactSalesOfRow.holds Try.pinned (OpenSpec.ofChange fnExactSalesOfSpec)

/-- ITS FALSE NEIGHBOUR: 'it returns false'. Refute it at one input. -/
def fnExactSalesOfWrong : ChangeSpec := { name := "fnExactSalesOf", fn := fun _ => fun
  | [d1, d2] => { results := [.lit (.bool false)], args := [d1, d2] }
  | _ => none }
def FnExactSalesOfWrongFalsely : Prop := fnExactSalesOfRow.holds Try.pinned (OpenSpec.ofChange fnExactSalesOfWrong)

/- THE SECOND FORM. 'bulk': how many values and letters a reading holds, each counted each time it is reached (what is shared counts as often as it is met; a slice's spare places count too). A statement '..UptoSaid' is the law's where the arguments, and the package variables that the reading takes, are together of bulk at most 1048576: NARROWER than '..Said'. Prove '..Said' where nothing that the law and all that it calls make is longer than what came in: it says more and counts as full. Else prove '..UptoSaid'. A law counts once. -/
mutual
def uptoBulk {H : Type} : DataW H → Nat
  | .lit (.string bytes) => bytes.length + 1
  | .lit _ => 1
  | .nil => 1
  | .ptr d => uptoBulk d + 1
  | .slice elems spare => uptoBulkAll elems + uptoBulkAll spare + 1
  | .agg parts => uptoBulkAll parts + 1
  | .iface _ d => uptoBulk d + 1
  | .map entries => uptoBulkEntries entries + 1
  | .held _ => 1
def uptoBulkAll {H : Type} : List (DataW H) → Nat
  | [] => 0
  | d :: r => uptoBulk d + uptoBulkAll r
def uptoBulkEntries {H : Type} : List (Lit × DataW H) → Nat
  | [] => 0
  | x :: r => uptoBulkEntry x + uptoBulkEntries r
def uptoBulkEntry {H : Type} : Lit × DataW H → Nat
  | (.string bytes, d) => bytes.length + uptoBulk d + 1
  | (_, d) => uptoBulk d + 1
 end
def uptoSmall : (H : Type) → List (DataW H) → Bool := fun _ ds => decide (uptoBulkAll ds ≤ 1048576)
def OpenSpec.upto (s : _root_.Go.ChangeSpec) : _root_.Go.OpenSpec := { _root_.Go.OpenSpec.ofChange s with cond := some uptoSmall }

/-- 'laws.FnExactTotalShares', WHERE WHAT IT READS IS OF BULK AT MOST 1048576: true; the input reads as it did. -/
def fnExactTotalSharesUptoRow : OpenClaim := { program := "ytoemmbagjjjimaa", sum := "363e7a6e1b223adc529f59e484898af2d9f2b5dae94ed9d9d6c246369959c739", func := "loop.example/g03007/laws.FnExactTotalShares", spec := "fnExactTotalShares", apart := false, narrowed := true }
def FnExactTotalSharesUptoSaid : Prop := fnExactTotalSharesUptoRow.holds Try.pinned (OpenSpec.upto fnExactTotalSharesSpec)

/-- 'laws.FnExactIsDue', WHERE WHAT IT READS IS OF BULK AT MOST 1048576: true; the input reads as it did. -/
def fnExactIsDueUptoRow : OpenClaim := { program := "ytoemmbagjjjimaa", sum := "363e7a6e1b223adc529f59e484898af2d9f2b5dae94ed9d9d6c246369959c739", func := "loop.example/g03007/laws.FnExactIsDue", spec := "fnExactIsDue", apart := false, narrowed := true }
def FnExactIsDueUptoSaid : Prop := fnExactIsDueUptoRow.holds Try.pinned (OpenSpec.upto fnExactIsDueSpec)

/-- 'laws.FnExactAreLetters', WHERE WHAT IT READS IS OF BULK AT MOST 1048576: true; the input reads as it did. -/
def fnExactAreLettersUptoRow : OpenClaim := { program := "ytoemmbagjjjimaa", sum := "363e7a6e1b223adc529f59e484898af2d9f2b5dae94ed9d9d6c246369959c739", func := "loop.example/g03007/laws.FnExactAreLetters", spec := "fnExactAreLetters", apart := false, narrowed := true }
def FnExactAreLettersUptoSaid : Prop := fnExactAreLettersUptoRow.holds Try.pinned (OpenSpec.upto fnExactAreLettersSpec)

/-- 'laws.FnExactIsParcel', WHERE WHAT IT READS IS OF BULK AT MOST 1048576: true; the input reads as it did. -/
def fnExactIsParcelUptoRow : OpenClaim := { program := "ytoemmbagjjjimaa", sum := "363e7a6e1b223adc529f59e484898af2d9f2b5dae94ed9d9d6c246369959c739", func := "loop.example/g03007/laws.FnExactIsParcel", spec := "fnExactIsParcel", apart := false, narrowed := true }
def FnExactIsParcelUptoSaid : Prop := fnExactIsParcelUptoRow.holds Try.pinned (OpenSpec.upto fnExactIsParcelSpec)

/-- 'laws.FnExactAreBids', WHERE WHAT IT READS IS OF BULK AT MOST 1048576: true; the input reads as it did. -/
def fnExactAreBidsUptoRow : OpenClaim := { program := "ytoemmbagjjjimaa", sum := "363e7a6e1b223adc529f59e484898af2d9f2b5dae94ed9d9d6c246369959c739", func := "loop.example/g03007/laws.FnExactAreBids", spec := "fnExactAreBids", unfollowed := true, recurses := true, apart := false, narrowed := true }
def FnExactAreBidsUptoSaid : Prop := fnExactAreBidsUptoRow.holds Try.pinned (OpenSpec.upto fnExactAreBidsSpec)

/-- 'laws.FnExactSplitMoney', WHERE WHAT IT READS IS OF BULK AT MOST 1048576: true; the input reads as it did. -/
def fnExactSplitMoneyUptoRow : OpenClaim := { program := "ytoemmbagjjjimaa", sum := "363e7a6e1b223adc529f59e484898af2d9f2b5dae94ed9d9d6c246369959c739", func := "loop.example/g03007/laws.FnExactSplitMoney", spec := "fnExactSplitMoney", apart := false, narrowed := true }
def FnExactSplitMoneyUptoSaid : Prop := fnExactSplitMoneyUptoRow.holds Try.pinned (OpenSpec.upto fnExactSplitMoneySpec)

/-- 'laws.FnExactWithoutBid', WHERE WHAT IT READS IS OF BULK AT MOST 1048576: true; the input reads as it did. -/
def fnExactWithoutBidUptoRow : OpenClaim := { program := "ytoemmbagjjjimaa", sum := "363e7a6e1b223adc529f59e484898af2d9f2b5dae94ed9d9d6c246369959c739", func := "loop.example/g03007/laws.FnExactWithoutBid", spec := "fnExactWithoutBid", apart := false, narrowed := true }
def FnExactWithoutBidUptoSaid : Prop := fnExactWithoutBidUptoRow.holds Try.pinned (OpenSpec.upto fnExactWithoutBidSpec)

/-- 'laws.FnExactMayWrite', WHERE WHAT IT READS IS OF BULK AT MOST 1048576: true; the input reads as it did. -/
def fnExactMayWriteUptoRow : OpenClaim := { program := "ytoemmbagjjjimaa", sum := "363e7a6e1b223adc529f59e484898af2d9f2b5dae94ed9d9d6c246369959c739", func := "loop.example/g03007/laws.FnExactMayWrite", spec := "fnExactMayWrite", apart := false, narrowed := true }
def FnExactMayWriteUptoSaid : Prop := fnExactMayWriteUptoRow.holds Try.pinned (OpenSpec.upto fnExactMayWriteSpec)

/-- 'laws.FnExactDaysLeft', WHERE WHAT IT READS IS OF BULK AT MOST 1048576: true; the input reads as it did. -/
def fnExactDaysLeftUptoRow : OpenClaim := { program := "ytoemmbagjjjimaa", sum := "363e7a6e1b223adc529f59e484898af2d9f2b5dae94ed9d9d6c246369959c739", func := "loop.example/g03007/laws.FnExactDaysLeft", spec := "fnExactDaysLeft", apart := false, narrowed := true }
def FnExactDaysLeftUptoSaid : Prop := fnExactDaysLeftUptoRow.holds Try.pinned (OpenSpec.upto fnExactDaysLeftSpec)

/-- 'laws.FnExactHandsOf', WHERE WHAT IT READS IS OF BULK AT MOST 1048576: true; the input reads as it did. -/
def fnExactHandsOfUptoRow : OpenClaim := { program := "ytoemmbagjjjimaa", sum := "363e7a6e1b223adc529f59e484898af2d9f2b5dae94ed9d9d6c246369959c739", func := "loop.example/g03007/laws.FnExactHandsOf", spec := "fnExactHandsOf", apart := false, narrowed := true }
def FnExactHandsOfUptoSaid : Prop := fnExactHandsOfUptoRow.holds Try.pinned (OpenSpec.upto fnExactHandsOfSpec)

/-- 'laws.FnExactHousesOf', WHERE WHAT IT READS IS OF BULK AT MOST 1048576: true; the input reads as it did. -/
def fnExactHousesOfUptoRow : OpenClaim := { program := "ytoemmbagjjjimaa", sum := "363e7a6e1b223adc529f59e484898af2d9f2b5dae94ed9d9d6c246369959c739", func := "loop.example/g03007/laws.FnExactHousesOf", spec := "fnExactHousesOf", apart := false, narrowed := true }
def FnExactHousesOfUptoSaid : Prop := fnExactHousesOfUptoRow.holds Try.pinned (OpenSpec.upto fnExactHousesOfSpec)

/-- 'laws.FnExactSalesOf', WHERE WHAT IT READS IS OF BULK AT MOST 1048576: true; the input reads as it did. -/
def fnExactSalesOfUptoRow : OpenClaim := { program := "ytoemmbagjjjimaa", sum := "363e7a6e1b223adc529f59e484898af2d9f2b5dae94ed9d9d6c246369959c739", func := "loop.example/g03007/laws.FnExactSalesOf", spec := "fnExactSalesOf", apart := false, narrowed := true }
def FnExactSalesOfUptoSaid : Prop := fnExactSalesOfUptoRow.holds Try.pinned (OpenSpec.upto fnExactSalesOfSpec)

end Rows
end Go.Proofs.Ytoemmbagjjjimaa
