/-
  No cell of these rows narrows 'for every input' (looked for: loops, veiled, ifaces, maps, wideKeys, modest, calm, conditions, laid).
  DERIVED. THE GIVEN ROWS OF THIS SEAT. 9 by the template 'for every input the law returns true; each argument reads behind the call as it read before'; 0 by the template 'total and deterministic' (their statements: YtpkdbkheggfkkaaTotals.lean).
  GIVEN WITH THE SEED: the statements are not yours to turn. If you find one false, say at which input.
  Laid BY PROGRAM, IN A SANDBOX (cutbox-rows.mjs): the forced cells as the released guide's own fill.sh prints them over the translation 146056c72189d4ad… (all of the seat's roots in one cut). By AI agents, Wed Nov 11 2026. No macro, syntax, notation, axiom, sorry.
-/
import Derived.Test.YtpkdbkheggfkkaaChecked
import GoSem.Claim
import GoSem.ClaimJoined
import GoSem.ClaimMapViews
import Derived.JoinedTies
import Derived.KernelRfl
namespace Go.Proofs.Ytpkdbkheggfkkaa
/- THE CELL 'sum', in the pinned program and in every row, IS THE sha256 OF THE DUMP (.gsa) THAT YtpkdbkheggfkkaaProg.lean LOADS. Nothing in Lean hashes anything: it is a label: what it is worth is what the hold of that sum in a sandbox is worth. -/
noncomputable def Try.pinned : Pinned := { name := "ytpkdbkheggfkkaa", sum := "146056c72189d4ad422d0112de662a5bb0f64a75002eb2bc5567d65a7c022822", checked := Try.checked }
namespace Rows
def none {H : Type} : Left H := { results := [], args := [] }

/-- 'laws.FnExactWinner': WHATEVER THE INPUT: true; the input reads as it did. -/
def fnExactWinnerSpec : ChangeSpec := { name := "fnExactWinner", fn := fun _ => fun
  | [d] => { results := [.lit (.bool true)], args := [d] }
  | _ => none }
def fnExactWinnerRow : OpenClaim := { program := "ytpkdbkheggfkkaa", sum := "146056c72189d4ad422d0112de662a5bb0f64a75002eb2bc5567d65a7c022822", func := "loop.example/g03007/laws.FnExactWinner", spec := "fnExactWinner", unfollowed := true, recurses := true, apart := false }
def FnExactWinnerSaid : Prop := fnExactWinnerRow.holds Try.pinned (OpenSpec.ofChange fnExactWinnerSpec)

/-- ITS FALSE NEIGHBOUR: 'it returns false'. Refute it at one input. -/
def fnExactWinnerWrong : ChangeSpec := { name := "fnExactWinner", fn := fun _ => fun
  | [d] => { results := [.lit (.bool false)], args := [d] }
  | _ => none }
def FnExactWinnerWrongFalsely : Prop := fnExactWinnerRow.holds Try.pinned (OpenSpec.ofChange fnExactWinnerWrong)

/-- 'laws.FnExactHighestBids': WHATEVER THE INPUT: true; the input reads as it did. -/
def fnExactHighestBidsSpec : ChangeSpec := { name := "fnExactHighestBids", fn := fun _ => fun
  | [d1, d2] => { results := [.lit (.bool true)], args := [d1, d2] }
  | _ => none }
def fnExactHighestBidsRow : OpenClaim := { program := "ytpkdbkheggfkkaa", sum := "146056c72189d4ad422d0112de662a5bb0f64a75002eb2bc5567d65a7c022822", func := "loop.example/g03007/laws.FnExactHighestBids", spec := "fnExactHighestBids", unfollowed := true, recurses := true, apart := false }
def FnExactHighestBidsSaid : Prop := fnExactHighestBidsRow.holds Try.pinned (OpenSpec.ofChange fnExactHighestBidsSpec)

/-- ITS FALSE NEIGHBOUR: 'it returns false'. Refute it at one input. -/
def fnExactHighestBidsWrong : ChangeSpec := { name := "fnExactHighestBids", fn := fun _ => fun
  | [d1, d2] => { results := [.lit (.bool false)], args := [d1, d2] }
  | _ => none }
def FnExactHighestBidsWrongFalsely : Prop := fnExactHighestBidsRow.holds Try.pinned (OpenSpec.ofChange fnExactHighestBidsWrong)

/-- 'laws.FnExactFatesOf': WHATEVER THE INPUT: true; the input reads as it did. -/
def fnExactFatesOfSpec : ChangeSpec := { name := "fnExactFatesOf", fn := fun _ => fun
  | [d1, d2, d3] => { results := [.lit (.bool true)], args := [d1, d2, d3] }
  | _ => none }
def fnExactFatesOfRow : OpenClaim := { program := "ytpkdbkheggfkkaa", sum := "146056c72189d4ad422d0112de662a5bb0f64a75002eb2bc5567d65a7c022822", func := "loop.example/g03007/laws.FnExactFatesOf", spec := "fnExactFatesOf", unfollowed := true, recurses := true, apart := false }
def FnExactFatesOfSaid : Prop := fnExactFatesOfRow.holds Try.pinned (OpenSpec.ofChange fnExactFatesOfSpec)

/-- ITS FALSE NEIGHBOUR: 'it returns false'. Refute it at one input. -/
def fnExactFatesOfWrong : ChangeSpec := { name := "fnExactFatesOf", fn := fun _ => fun
  | [d1, d2, d3] => { results := [.lit (.bool false)], args := [d1, d2, d3] }
  | _ => none }
def FnExactFatesOfWrongFalsely : Prop := fnExactFatesOfRow.holds Try.pinned (OpenSpec.ofChange fnExactFatesOfWrong)

/-- 'laws.FnAuctions': WHATEVER THE INPUT: true; the input reads as it did. -/
def fnAuctionsSpec : ChangeSpec := { name := "fnAuctions", fn := fun _ => fun
  | [d] => { results := [.lit (.bool true)], args := [d] }
  | _ => none }
def fnAuctionsRow : OpenClaim := { program := "ytpkdbkheggfkkaa", sum := "146056c72189d4ad422d0112de662a5bb0f64a75002eb2bc5567d65a7c022822", func := "loop.example/g03007/laws.FnAuctions", spec := "fnAuctions", unfollowed := true, recurses := true, apart := false }
def FnAuctionsSaid : Prop := fnAuctionsRow.holds Try.pinned (OpenSpec.ofChange fnAuctionsSpec)

/-- ITS FALSE NEIGHBOUR: 'it returns false'. Refute it at one input. -/
def fnAuctionsWrong : ChangeSpec := { name := "fnAuctions", fn := fun _ => fun
  | [d] => { results := [.lit (.bool false)], args := [d] }
  | _ => none }
def FnAuctionsWrongFalsely : Prop := fnAuctionsRow.holds Try.pinned (OpenSpec.ofChange fnAuctionsWrong)

/-- 'laws.FnExactSharedHints': WHATEVER THE INPUT: true; the input reads as it did. -/
def fnExactSharedHintsSpec : ChangeSpec := { name := "fnExactSharedHints", fn := fun _ => fun
  | [d1, d2] => { results := [.lit (.bool true)], args := [d1, d2] }
  | _ => none }
def fnExactSharedHintsRow : OpenClaim := { program := "ytpkdbkheggfkkaa", sum := "146056c72189d4ad422d0112de662a5bb0f64a75002eb2bc5567d65a7c022822", func := "loop.example/g03007/laws.FnExactSharedHints", spec := "fnExactSharedHints", recurses := true, apart := false }
def FnExactSharedHintsSaid : Prop := fnExactSharedHintsRow.holds Try.pinned (OpenSpec.ofChange fnExactSharedHintsSpec)

/-- ITS FALSE NEIGHBOUR: 'it returns false'. Refute it at one input. -/
def fnExactSharedHintsWrong : ChangeSpec := { name := "fnExactSharedHints", fn := fun _ => fun
  | [d1, d2] => { results := [.lit (.bool false)], args := [d1, d2] }
  | _ => none }
def FnExactSharedHintsWrongFalsely : Prop := fnExactSharedHintsRow.holds Try.pinned (OpenSpec.ofChange fnExactSharedHintsWrong)

/-- 'laws.FnExactInHouse': WHATEVER THE INPUT: true; the input reads as it did. -/
def fnExactInHouseSpec : ChangeSpec := { name := "fnExactInHouse", fn := fun _ => fun
  | [d1, d2] => { results := [.lit (.bool true)], args := [d1, d2] }
  | _ => none }
def fnExactInHouseRow : OpenClaim := { program := "ytpkdbkheggfkkaa", sum := "146056c72189d4ad422d0112de662a5bb0f64a75002eb2bc5567d65a7c022822", func := "loop.example/g03007/laws.FnExactInHouse", spec := "fnExactInHouse", recurses := true, apart := false }
def FnExactInHouseSaid : Prop := fnExactInHouseRow.holds Try.pinned (OpenSpec.ofChange fnExactInHouseSpec)

/-- ITS FALSE NEIGHBOUR: 'it returns false'. Refute it at one input. -/
def fnExactInHouseWrong : ChangeSpec := { name := "fnExactInHouse", fn := fun _ => fun
  | [d1, d2] => { results := [.lit (.bool false)], args := [d1, d2] }
  | _ => none }
def FnExactInHouseWrongFalsely : Prop := fnExactInHouseRow.holds Try.pinned (OpenSpec.ofChange fnExactInHouseWrong)

/-- 'laws.FnLetters': WHATEVER THE INPUT: true; the input reads as it did. -/
def fnLettersSpec : ChangeSpec := { name := "fnLetters", fn := fun _ => fun
  | [d] => { results := [.lit (.bool true)], args := [d] }
  | _ => none }
def fnLettersRow : OpenClaim := { program := "ytpkdbkheggfkkaa", sum := "146056c72189d4ad422d0112de662a5bb0f64a75002eb2bc5567d65a7c022822", func := "loop.example/g03007/laws.FnLetters", spec := "fnLetters", unfollowed := true, recurses := true, apart := false }
def FnLettersSaid : Prop := fnLettersRow.holds Try.pinned (OpenSpec.ofChange fnLettersSpec)

/-- ITS FALSE NEIGHBOUR: 'it returns false'. Refute it at one input. -/
def fnLettersWrong : ChangeSpec := { name := "fnLetters", fn := fun _ => fun
  | [d] => { results := [.lit (.bool false)], args := [d] }
  | _ => none }
def FnLettersWrongFalsely : Prop := fnLettersRow.holds Try.pinned (OpenSpec.ofChange fnLettersWrong)

/-- 'laws.FnCustody': WHATEVER THE INPUT: true; the input reads as it did. -/
def fnCustodySpec : ChangeSpec := { name := "fnCustody", fn := fun _ => fun
  | [d] => { results := [.lit (.bool true)], args := [d] }
  | _ => none }
def fnCustodyRow : OpenClaim := { program := "ytpkdbkheggfkkaa", sum := "146056c72189d4ad422d0112de662a5bb0f64a75002eb2bc5567d65a7c022822", func := "loop.example/g03007/laws.FnCustody", spec := "fnCustody", recurses := true, apart := false }
def FnCustodySaid : Prop := fnCustodyRow.holds Try.pinned (OpenSpec.ofChange fnCustodySpec)

/-- ITS FALSE NEIGHBOUR: 'it returns false'. Refute it at one input. -/
def fnCustodyWrong : ChangeSpec := { name := "fnCustody", fn := fun _ => fun
  | [d] => { results := [.lit (.bool false)], args := [d] }
  | _ => none }
def FnCustodyWrongFalsely : Prop := fnCustodyRow.holds Try.pinned (OpenSpec.ofChange fnCustodyWrong)

/-- 'laws.FnExactLettersFor': WHATEVER THE INPUT: true; the input reads as it did. -/
def fnExactLettersForSpec : ChangeSpec := { name := "fnExactLettersFor", fn := fun _ => fun
  | [d1, d2, d3, d4] => { results := [.lit (.bool true)], args := [d1, d2, d3, d4] }
  | _ => none }
def fnExactLettersForRow : OpenClaim := { program := "ytpkdbkheggfkkaa", sum := "146056c72189d4ad422d0112de662a5bb0f64a75002eb2bc5567d65a7c022822", func := "loop.example/g03007/laws.FnExactLettersFor", spec := "fnExactLettersFor", unfollowed := true, recurses := true, apart := false }
def FnExactLettersForSaid : Prop := fnExactLettersForRow.holds Try.pinned (OpenSpec.ofChange fnExactLettersForSpec)

/-- ITS FALSE NEIGHBOUR: 'it returns false'. Refute it at one input. -/
def fnExactLettersForWrong : ChangeSpec := { name := "fnExactLettersFor", fn := fun _ => fun
  | [d1, d2, d3, d4] => { results := [.lit (.bool false)], args := [d1, d2, d3, d4] }
  | _ => none }
def FnExactLettersForWrongFalsely : Prop := fnExactLettersForRow.holds Try.pinned (OpenSpec.ofChange fnExactLettersForWrong)

/- THE SECOND FORM. 'bulk': how many values and letters a reading holds, each counted each time it is reached (what is shared counts as often as it is met; a slice's spare places count too). A statement '..UptoSaid' is the law's where the arguments, and the package variables that the reading takes, are together of bulk at most 1048576: NARROWER than '..Said'. Prove '..Said' where nothing that the law and all that it calls make is longer than what came in: it says more and counts as full. Else prove '..UptoSaid'. A law counts once. -/
mutual
def uptoBulk {H : Type} : DataW H → Nat
  | .lit (.string bytes) => bytes.length + 1
  | .lit _ => 1
  | .nil => 1
  | .ptr d => uptoBulk d + 1
  | .slice elems spare => uptoBulkAll elems + uptoBulkAll spare + 1
  | .agg parts => uptoBulkAll parts + 1
  | .iface _ d => uptoBulk d + 1
  | .map entries => uptoBulkEntries entries + 1
  | .held _ => 1
def uptoBulkAll {H : Type} : List (DataW H) → Nat
  | [] => 0
  | d :: r => uptoBulk d + uptoBulkAll r
def uptoBulkEntries {H : Type} : List (Lit × DataW H) → Nat
  | [] => 0
  | x :: r => uptoBulkEntry x + uptoBulkEntries r
def uptoBulkEntry {H : Type} : Lit × DataW H → Nat
  | (.string bytes, d) => bytes.length + uptoBulk d + 1
  | (_, d) => uptoBulk d + 1
 end
def uptoSmall : (H : Type) → List (DataW H) → Bool := fun _ ds => decide (uptoBulkAll ds ≤ 1048576)
def OpenSpec.upto (s : _root_.Go.ChangeSpec) : _root_.Go.OpenSpec := { _root_.Go.OpenSpec.ofChange s with cond := some uptoSmall }

/-- 'laws.FnExactWinner', WHERE WHAT IT READS IS OF BULK AT MOST 1048576: true; the input reads as it did. -/
def fnExactWinnerUptoRow : OpenClaim := { program := "ytpkdbkheggfkkaa", sum := "146056c72189d4ad422d0112de662a5bb0f64a75002eb2bc5567d65a7c022822", func := "loop.example/g03007/laws.FnExactWinner", spec := "fnExactWinner", unfollowed := true, recurses := true, apart := false, narrowed := true }
def FnExactWinnerUptoSaid : Prop := fnExactWinnerUptoRow.holds Try.pinned (OpenSpec.upto fnExactWinnerSpec)

/-- 'laws.FnExactHighestBids', WHERE WHAT IT READS IS OF BULK AT MOST 1048576: true; the input reads as it did. -/
def fnExactHighestBidsUptoRow : OpenClaim := { program := "ytpkdbkheggfkkaa", sum := "146056c72189d4ad422d0112de662a5bb0f64a75002eb2bc5567d65a7c022822", func := "loop.example/g03007/laws.FnExactHighestBids", spec := "fnExactHighestBids", unfollowed := true, recurses := true, apart := false, narrowed := true }
def FnExactHighestBidsUptoSaid : Prop := fnExactHighestBidsUptoRow.holds Try.pinned (OpenSpec.upto fnExactHighestBidsSpec)

/-- 'laws.FnExactFatesOf', WHERE WHAT IT READS IS OF BULK AT MOST 1048576: true; the input reads as it did. -/
def fnExactFatesOfUptoRow : OpenClaim := { program := "ytpkdbkheggfkkaa", sum := "146056c72189d4ad422d0112de662a5bb0f64a75002eb2bc5567d65a7c022822", func := "loop.example/g03007/laws.FnExactFatesOf", spec := "fnExactFatesOf", unfollowed := true, recurses := true, apart := false, narrowed := true }
def FnExactFatesOfUptoSaid : Prop := fnExactFatesOfUptoRow.holds Try.pinned (OpenSpec.upto fnExactFatesOfSpec)

/-- 'laws.FnAuctions', WHERE WHAT IT READS IS OF BULK AT MOST 1048576: true; the input reads as it did. -/
def fnAuctionsUptoRow : OpenClaim := { program := "ytpkdbkheggfkkaa", sum := "146056c72189d4ad422d0112de662a5bb0f64a75002eb2bc5567d65a7c022822", func := "loop.example/g03007/laws.FnAuctions", spec := "fnAuctions", unfollowed := true, recurses := true, apart := false, narrowed := true }
def FnAuctionsUptoSaid : Prop := fnAuctionsUptoRow.holds Try.pinned (OpenSpec.upto fnAuctionsSpec)

/-- 'laws.FnExactSharedHints', WHERE WHAT IT READS IS OF BULK AT MOST 1048576: true; the input reads as it did. -/
def fnExactSharedHintsUptoRow : OpenClaim := { program := "ytpkdbkheggfkkaa", sum := "146056c72189d4ad422d0112de662a5bb0f64a75002eb2bc5567d65a7c022822", func := "loop.example/g03007/laws.FnExactSharedHints", spec := "fnExactSharedHints", recurses := true, apart := false, narrowed := true }
def FnExactSharedHintsUptoSaid : Prop := fnExactSharedHintsUptoRow.holds Try.pinned (OpenSpec.upto fnExactSharedHintsSpec)

/-- 'laws.FnExactInHouse', WHERE WHAT IT READS IS OF BULK AT MOST 1048576: true; the input reads as it did. -/
def fnExactInHouseUptoRow : OpenClaim := { program := "ytpkdbkheggfkkaa", sum := "146056c72189d4ad422d0112de662a5bb0f64a75002eb2bc5567d65a7c022822", func := "loop.example/g03007/laws.FnExactInHouse", spec := "fnExactInHouse", recurses := true, apart := false, narrowed := true }
def FnExactInHouseUptoSaid : Prop := fnExactInHouseUptoRow.holds Try.pinned (OpenSpec.upto fnExactInHouseSpec)

/-- 'laws.FnLetters', WHERE WHAT IT READS IS OF BULK AT MOST 1048576: true; the input reads as it did. -/
def fnLettersUptoRow : OpenClaim := { program := "ytpkdbkheggfkkaa", sum := "146056c72189d4ad422d0112de662a5bb0f64a75002eb2bc5567d65a7c022822", func := "loop.example/g03007/laws.FnLetters", spec := "fnLetters", unfollowed := true, recurses := true, apart := false, narrowed := true }
def FnLettersUptoSaid : Prop := fnLettersUptoRow.holds Try.pinned (OpenSpec.upto fnLettersSpec)

/-- 'laws.FnCustody', WHERE WHAT IT READS IS OF BULK AT MOST 1048576: true; the input reads as it did. -/
def fnCustodyUptoRow : OpenClaim := { program := "ytpkdbkheggfkkaa", sum := "146056c72189d4ad422d0112de662a5bb0f64a75002eb2bc5567d65a7c022822", func := "loop.example/g03007/laws.FnCustody", spec := "fnCustody", recurses := true, apart := false, narrowed := true }
def FnCustodyUptoSaid : Prop := fnCustodyUptoRow.holds Try.pinned (OpenSpec.upto fnCustodySpec)

/-- 'laws.FnExactLettersFor', WHERE WHAT IT READS IS OF BULK AT MOST 1048576: true; the input reads as it did. -/
def fnExactLettersForUptoRow : OpenClaim := { program := "ytpkdbkheggfkkaa", sum := "146056c72189d4ad422d0112de662a5bb0f64a75002eb2bc5567d65a7c022822", func := "loop.example/g03007/laws.FnExactLettersFor", spec := "fnExactLettersFor", unfollowed := true, recurses := true, apart := false, narrowed := true }
def FnExactLettersForUptoSaid : Prop := fnExactLettersForUptoRow.holds Try.pinned (OpenSpec.upto fnExactLettersForSpec)

end Rows
end Go.Proofs.Ytpkdbkheggfkkaa
