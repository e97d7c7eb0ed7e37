/-
  No cell of these rows narrows 'for every input' (looked for: loops, veiled, ifaces, maps, wideKeys, modest, calm, conditions, laid).
  DERIVED. THE GIVEN ROWS OF THIS SEAT. 12 by the template 'for every input the law returns true; each argument reads behind the call as it read before'; 0 by the template 'total and deterministic' (their statements: YtbfpdakodcegjaaTotals.lean).
  GIVEN WITH THE SEED: the statements are not yours to turn. If you find one false, say at which input.
  Laid BY PROGRAM, IN A SANDBOX (cutbox-rows.mjs): the forced cells as the released guide's own fill.sh prints them over the translation daae0d3b2711a175… (all of the seat's roots in one cut). By AI agents, Wed Nov 11 2026. No macro, syntax, notation, axiom, sorry.
-/
import Derived.Test.YtbfpdakodcegjaaChecked
import GoSem.Claim
import GoSem.ClaimJoined
import GoSem.ClaimMapViews
import Derived.JoinedTies
import Derived.KernelRfl
namespace Go.Proofs.Ytbfpdakodcegjaa
/- THE CELL 'sum', in the pinned program and in every row, IS THE sha256 OF THE DUMP (.gsa) THAT YtbfpdakodcegjaaProg.lean LOADS. Nothing in Lean hashes anything: it is a label: what it is worth is what the hold of that sum in a sandbox is worth. -/
noncomputable def Try.pinned : Pinned := { name := "ytbfpdakodcegjaa", sum := "daae0d3b2711a1758abc324657e50b36175437e295f297cb3d080dea60704109", checked := Try.checked }
namespace Rows
def none {H : Type} : Left H := { results := [], args := [] }

/-- 'laws.FnExactWriteLetter': WHATEVER THE INPUT: true; the input reads as it did. -/
def fnExactWriteLetterSpec : ChangeSpec := { name := "fnExactWriteLetter", fn := fun _ => fun
  | [d1, d2, d3, d4] => { results := [.lit (.bool true)], args := [d1, d2, d3, d4] }
  | _ => none }
def fnExactWriteLetterRow : OpenClaim := { program := "ytbfpdakodcegjaa", sum := "daae0d3b2711a1758abc324657e50b36175437e295f297cb3d080dea60704109", func := "loop.example/g03007/laws.FnExactWriteLetter", spec := "fnExactWriteLetter", apart := false }
def FnExactWriteLetterSaid : Prop := fnExactWriteLetterRow.holds Try.pinned (OpenSpec.ofChange fnExactWriteLetterSpec)

/-- ITS FALSE NEIGHBOUR: 'it returns false'. Refute it at one input. -/
def fnExactWriteLetterWrong : ChangeSpec := { name := "fnExactWriteLetter", fn := fun _ => fun
  | [d1, d2, d3, d4] => { results := [.lit (.bool false)], args := [d1, d2, d3, d4] }
  | _ => none }
def FnExactWriteLetterWrongFalsely : Prop := fnExactWriteLetterRow.holds Try.pinned (OpenSpec.ofChange fnExactWriteLetterWrong)

/-- 'laws.FnExactIsChain': WHATEVER THE INPUT: true; the input reads as it did. -/
def fnExactIsChainSpec : ChangeSpec := { name := "fnExactIsChain", fn := fun _ => fun
  | [d] => { results := [.lit (.bool true)], args := [d] }
  | _ => none }
def fnExactIsChainRow : OpenClaim := { program := "ytbfpdakodcegjaa", sum := "daae0d3b2711a1758abc324657e50b36175437e295f297cb3d080dea60704109", func := "loop.example/g03007/laws.FnExactIsChain", spec := "fnExactIsChain", apart := false }
def FnExactIsChainSaid : Prop := fnExactIsChainRow.holds Try.pinned (OpenSpec.ofChange fnExactIsChainSpec)

/-- ITS FALSE NEIGHBOUR: 'it returns false'. Refute it at one input. -/
def fnExactIsChainWrong : ChangeSpec := { name := "fnExactIsChain", fn := fun _ => fun
  | [d] => { results := [.lit (.bool false)], args := [d] }
  | _ => none }
def FnExactIsChainWrongFalsely : Prop := fnExactIsChainRow.holds Try.pinned (OpenSpec.ofChange fnExactIsChainWrong)

/-- 'laws.FnExactNextDue': WHATEVER THE INPUT: true; the input reads as it did. -/
def fnExactNextDueSpec : ChangeSpec := { name := "fnExactNextDue", fn := fun _ => fun
  | [d1, d2] => { results := [.lit (.bool true)], args := [d1, d2] }
  | _ => none }
def fnExactNextDueRow : OpenClaim := { program := "ytbfpdakodcegjaa", sum := "daae0d3b2711a1758abc324657e50b36175437e295f297cb3d080dea60704109", func := "loop.example/g03007/laws.FnExactNextDue", spec := "fnExactNextDue", apart := false }
def FnExactNextDueSaid : Prop := fnExactNextDueRow.holds Try.pinned (OpenSpec.ofChange fnExactNextDueSpec)

/-- ITS FALSE NEIGHBOUR: 'it returns false'. Refute it at one input. -/
def fnExactNextDueWrong : ChangeSpec := { name := "fnExactNextDue", fn := fun _ => fun
  | [d1, d2] => { results := [.lit (.bool false)], args := [d1, d2] }
  | _ => none }
def FnExactNextDueWrongFalsely : Prop := fnExactNextDueRow.holds Try.pinned (OpenSpec.ofChange fnExactNextDueWrong)

/-- 'laws.FnMoney': WHATEVER THE INPUT: true; the input reads as it did. -/
def fnMoneySpec : ChangeSpec := { name := "fnMoney", fn := fun _ => fun
  | [d] => { results := [.lit (.bool true)], args := [d] }
  | _ => none }
def fnMoneyRow : OpenClaim := { program := "ytbfpdakodcegjaa", sum := "daae0d3b2711a1758abc324657e50b36175437e295f297cb3d080dea60704109", func := "loop.example/g03007/laws.FnMoney", spec := "fnMoney", apart := false }
def FnMoneySaid : Prop := fnMoneyRow.holds Try.pinned (OpenSpec.ofChange fnMoneySpec)

/-- ITS FALSE NEIGHBOUR: 'it returns false'. Refute it at one input. -/
def fnMoneyWrong : ChangeSpec := { name := "fnMoney", fn := fun _ => fun
  | [d] => { results := [.lit (.bool false)], args := [d] }
  | _ => none }
def FnMoneyWrongFalsely : Prop := fnMoneyRow.holds Try.pinned (OpenSpec.ofChange fnMoneyWrong)

/-- 'laws.FnExactCountIn': WHATEVER THE INPUT: true; the input reads as it did. -/
def fnExactCountInSpec : ChangeSpec := { name := "fnExactCountIn", fn := fun _ => fun
  | [d] => { results := [.lit (.bool true)], args := [d] }
  | _ => none }
def fnExactCountInRow : OpenClaim := { program := "ytbfpdakodcegjaa", sum := "daae0d3b2711a1758abc324657e50b36175437e295f297cb3d080dea60704109", func := "loop.example/g03007/laws.FnExactCountIn", spec := "fnExactCountIn", apart := false }
def FnExactCountInSaid : Prop := fnExactCountInRow.holds Try.pinned (OpenSpec.ofChange fnExactCountInSpec)

/-- ITS FALSE NEIGHBOUR: 'it returns false'. Refute it at one input. -/
def fnExactCountInWrong : ChangeSpec := { name := "fnExactCountIn", fn := fun _ => fun
  | [d] => { results := [.lit (.bool false)], args := [d] }
  | _ => none }
def FnExactCountInWrongFalsely : Prop := fnExactCountInRow.holds Try.pinned (OpenSpec.ofChange fnExactCountInWrong)

/-- 'laws.FnExactHolderAt': WHATEVER THE INPUT: true; the input reads as it did. -/
def fnExactHolderAtSpec : ChangeSpec := { name := "fnExactHolderAt", fn := fun _ => fun
  | [d1, d2, d3] => { results := [.lit (.bool true)], args := [d1, d2, d3] }
  | _ => none }
def fnExactHolderAtRow : OpenClaim := { program := "ytbfpdakodcegjaa", sum := "daae0d3b2711a1758abc324657e50b36175437e295f297cb3d080dea60704109", func := "loop.example/g03007/laws.FnExactHolderAt", spec := "fnExactHolderAt", apart := false }
def FnExactHolderAtSaid : Prop := fnExactHolderAtRow.holds Try.pinned (OpenSpec.ofChange fnExactHolderAtSpec)

/-- ITS FALSE NEIGHBOUR: 'it returns false'. Refute it at one input. -/
def fnExactHolderAtWrong : ChangeSpec := { name := "fnExactHolderAt", fn := fun _ => fun
  | [d1, d2, d3] => { results := [.lit (.bool false)], args := [d1, d2, d3] }
  | _ => none }
def FnExactHolderAtWrongFalsely : Prop := fnExactHolderAtRow.holds Try.pinned (OpenSpec.ofChange fnExactHolderAtWrong)

/-- 'laws.FnKept': WHATEVER THE INPUT: true; the input reads as it did. -/
def fnKeptSpec : ChangeSpec := { name := "fnKept", fn := fun _ => fun
  | [d] => { results := [.lit (.bool true)], args := [d] }
  | _ => none }
def fnKeptRow : OpenClaim := { program := "ytbfpdakodcegjaa", sum := "daae0d3b2711a1758abc324657e50b36175437e295f297cb3d080dea60704109", func := "loop.example/g03007/laws.FnKept", spec := "fnKept", apart := false }
def FnKeptSaid : Prop := fnKeptRow.holds Try.pinned (OpenSpec.ofChange fnKeptSpec)

/-- ITS FALSE NEIGHBOUR: 'it returns false'. Refute it at one input. -/
def fnKeptWrong : ChangeSpec := { name := "fnKept", fn := fun _ => fun
  | [d] => { results := [.lit (.bool false)], args := [d] }
  | _ => none }
def FnKeptWrongFalsely : Prop := fnKeptRow.holds Try.pinned (OpenSpec.ofChange fnKeptWrong)

/-- 'laws.FnExactFateOf': WHATEVER THE INPUT: true; the input reads as it did. -/
def fnExactFateOfSpec : ChangeSpec := { name := "fnExactFateOf", fn := fun _ => fun
  | [d1, d2, d3] => { results := [.lit (.bool true)], args := [d1, d2, d3] }
  | _ => none }
def fnExactFateOfRow : OpenClaim := { program := "ytbfpdakodcegjaa", sum := "daae0d3b2711a1758abc324657e50b36175437e295f297cb3d080dea60704109", func := "loop.example/g03007/laws.FnExactFateOf", spec := "fnExactFateOf", unfollowed := true, recurses := true, apart := false }
def FnExactFateOfSaid : Prop := fnExactFateOfRow.holds Try.pinned (OpenSpec.ofChange fnExactFateOfSpec)

/-- ITS FALSE NEIGHBOUR: 'it returns false'. Refute it at one input. -/
def fnExactFateOfWrong : ChangeSpec := { name := "fnExactFateOf", fn := fun _ => fun
  | [d1, d2, d3] => { results := [.lit (.bool false)], args := [d1, d2, d3] }
  | _ => none }
def FnExactFateOfWrongFalsely : Prop := fnExactFateOfRow.holds Try.pinned (OpenSpec.ofChange fnExactFateOfWrong)

/-- 'laws.FnExactDueThings': WHATEVER THE INPUT: true; the input reads as it did. -/
def fnExactDueThingsSpec : ChangeSpec := { name := "fnExactDueThings", fn := fun _ => fun
  | [d1, d2] => { results := [.lit (.bool true)], args := [d1, d2] }
  | _ => none }
def fnExactDueThingsRow : OpenClaim := { program := "ytbfpdakodcegjaa", sum := "daae0d3b2711a1758abc324657e50b36175437e295f297cb3d080dea60704109", func := "loop.example/g03007/laws.FnExactDueThings", spec := "fnExactDueThings", apart := false }
def FnExactDueThingsSaid : Prop := fnExactDueThingsRow.holds Try.pinned (OpenSpec.ofChange fnExactDueThingsSpec)

/-- ITS FALSE NEIGHBOUR: 'it returns false'. Refute it at one input. -/
def fnExactDueThingsWrong : ChangeSpec := { name := "fnExactDueThings", fn := fun _ => fun
  | [d1, d2] => { results := [.lit (.bool false)], args := [d1, d2] }
  | _ => none }
def FnExactDueThingsWrongFalsely : Prop := fnExactDueThingsRow.holds Try.pinned (OpenSpec.ofChange fnExactDueThingsWrong)

/-- 'laws.FnExactMustKeep': WHATEVER THE INPUT: true; the input reads as it did. -/
def fnExactMustKeepSpec : ChangeSpec := { name := "fnExactMustKeep", fn := fun _ => fun
  | [d1, d2, d3] => { results := [.lit (.bool true)], args := [d1, d2, d3] }
  | _ => none }
def fnExactMustKeepRow : OpenClaim := { program := "ytbfpdakodcegjaa", sum := "daae0d3b2711a1758abc324657e50b36175437e295f297cb3d080dea60704109", func := "loop.example/g03007/laws.FnExactMustKeep", spec := "fnExactMustKeep", unfollowed := true, recurses := true, apart := false }
def FnExactMustKeepSaid : Prop := fnExactMustKeepRow.holds Try.pinned (OpenSpec.ofChange fnExactMustKeepSpec)

/-- ITS FALSE NEIGHBOUR: 'it returns false'. Refute it at one input. -/
def fnExactMustKeepWrong : ChangeSpec := { name := "fnExactMustKeep", fn := fun _ => fun
  | [d1, d2, d3] => { results := [.lit (.bool false)], args := [d1, d2, d3] }
  | _ => none }
def FnExactMustKeepWrongFalsely : Prop := fnExactMustKeepRow.holds Try.pinned (OpenSpec.ofChange fnExactMustKeepWrong)

/-- 'laws.FnExactAddHand': WHATEVER THE INPUT: true; the input reads as it did. -/
def fnExactAddHandSpec : ChangeSpec := { name := "fnExactAddHand", fn := fun _ => fun
  | [d1, d2] => { results := [.lit (.bool true)], args := [d1, d2] }
  | _ => none }
def fnExactAddHandRow : OpenClaim := { program := "ytbfpdakodcegjaa", sum := "daae0d3b2711a1758abc324657e50b36175437e295f297cb3d080dea60704109", func := "loop.example/g03007/laws.FnExactAddHand", spec := "fnExactAddHand", apart := false }
def FnExactAddHandSaid : Prop := fnExactAddHandRow.holds Try.pinned (OpenSpec.ofChange fnExactAddHandSpec)

/-- ITS FALSE NEIGHBOUR: 'it returns false'. Refute it at one input. -/
def fnExactAddHandWrong : ChangeSpec := { name := "fnExactAddHand", fn := fun _ => fun
  | [d1, d2] => { results := [.lit (.bool false)], args := [d1, d2] }
  | _ => none }
def FnExactAddHandWrongFalsely : Prop := fnExactAddHandRow.holds Try.pinned (OpenSpec.ofChange fnExactAddHandWrong)

/-- 'laws.FnFates': WHATEVER THE INPUT: true; the input reads as it did. -/
def fnFatesSpec : ChangeSpec := { name := "fnFates", fn := fun _ => fun
  | [d] => { results := [.lit (.bool true)], args := [d] }
  | _ => none }
def fnFatesRow : OpenClaim := { program := "ytbfpdakodcegjaa", sum := "daae0d3b2711a1758abc324657e50b36175437e295f297cb3d080dea60704109", func := "loop.example/g03007/laws.FnFates", spec := "fnFates", unfollowed := true, recurses := true, apart := false }
def FnFatesSaid : Prop := fnFatesRow.holds Try.pinned (OpenSpec.ofChange fnFatesSpec)

/-- ITS FALSE NEIGHBOUR: 'it returns false'. Refute it at one input. -/
def fnFatesWrong : ChangeSpec := { name := "fnFates", fn := fun _ => fun
  | [d] => { results := [.lit (.bool false)], args := [d] }
  | _ => none }
def FnFatesWrongFalsely : Prop := fnFatesRow.holds Try.pinned (OpenSpec.ofChange fnFatesWrong)

/- THE SECOND FORM. 'bulk': how many values and letters a reading holds, each counted each time it is reached (what is shared counts as often as it is met; a slice's spare places count too). A statement '..UptoSaid' is the law's where the arguments, and the package variables that the reading takes, are together of bulk at most 1048576: NARROWER than '..Said'. Prove '..Said' where nothing that the law and all that it calls make is longer than what came in: it says more and counts as full. Else prove '..UptoSaid'. A law counts once. -/
mutual
def uptoBulk {H : Type} : DataW H → Nat
  | .lit (.string bytes) => bytes.length + 1
  | .lit _ => 1
  | .nil => 1
  | .ptr d => uptoBulk d + 1
  | .slice elems spare => uptoBulkAll elems + uptoBulkAll spare + 1
  | .agg parts => uptoBulkAll parts + 1
  | .iface _ d => uptoBulk d + 1
  | .map entries => uptoBulkEntries entries + 1
  | .held _ => 1
def uptoBulkAll {H : Type} : List (DataW H) → Nat
  | [] => 0
  | d :: r => uptoBulk d + uptoBulkAll r
def uptoBulkEntries {H : Type} : List (Lit × DataW H) → Nat
  | [] => 0
  | x :: r => uptoBulkEntry x + uptoBulkEntries r
def uptoBulkEntry {H : Type} : Lit × DataW H → Nat
  | (.string bytes, d) => bytes.length + uptoBulk d + 1
  | (_, d) => uptoBulk d + 1
 end
def uptoSmall : (H : Type) → List (DataW H) → Bool := fun _ ds => decide (uptoBulkAll ds ≤ 1048576)
def OpenSpec.upto (s : _root_.Go.ChangeSpec) : _root_.Go.OpenSpec := { _root_.Go.OpenSpec.ofChange s with cond := some uptoSmall }

/-- 'laws.FnExactWriteLetter', WHERE WHAT IT READS IS OF BULK AT MOST 1048576: true; the input reads as it did. -/
def fnExactWriteLetterUptoRow : OpenClaim := { program := "ytbfpdakodcegjaa", sum := "daae0d3b2711a1758abc324657e50b36175437e295f297cb3d080dea60704109", func := "loop.example/g03007/laws.FnExactWriteLetter", spec := "fnExactWriteLetter", apart := false, narrowed := true }
def FnExactWriteLetterUptoSaid : Prop := fnExactWriteLetterUptoRow.holds Try.pinned (OpenSpec.upto fnExactWriteLetterSpec)

/-- 'laws.FnExactIsChain', WHERE WHAT IT READS IS OF BULK AT MOST 1048576: true; the input reads as it did. -/
def fnExactIsChainUptoRow : OpenClaim := { program := "ytbfpdakodcegjaa", sum := "daae0d3b2711a1758abc324657e50b36175437e295f297cb3d080dea60704109", func := "loop.example/g03007/laws.FnExactIsChain", spec := "fnExactIsChain", apart := false, narrowed := true }
def FnExactIsChainUptoSaid : Prop := fnExactIsChainUptoRow.holds Try.pinned (OpenSpec.upto fnExactIsChainSpec)

/-- 'laws.FnExactNextDue', WHERE WHAT IT READS IS OF BULK AT MOST 1048576: true; the input reads as it did. -/
def fnExactNextDueUptoRow : OpenClaim := { program := "ytbfpdakodcegjaa", sum := "daae0d3b2711a1758abc324657e50b36175437e295f297cb3d080dea60704109", func := "loop.example/g03007/laws.FnExactNextDue", spec := "fnExactNextDue", apart := false, narrowed := true }
def FnExactNextDueUptoSaid : Prop := fnExactNextDueUptoRow.holds Try.pinned (OpenSpec.upto fnExactNextDueSpec)

/-- 'laws.FnMoney', WHERE WHAT IT READS IS OF BULK AT MOST 1048576: true; the input reads as it did. -/
def fnMoneyUptoRow : OpenClaim := { program := "ytbfpdakodcegjaa", sum := "daae0d3b2711a1758abc324657e50b36175437e295f297cb3d080dea60704109", func := "loop.example/g03007/laws.FnMoney", spec := "fnMoney", apart := false, narrowed := true }
def FnMoneyUptoSaid : Prop := fnMoneyUptoRow.holds Try.pinned (OpenSpec.upto fnMoneySpec)

/-- 'laws.FnExactCountIn', WHERE WHAT IT READS IS OF BULK AT MOST 1048576: true; the input reads as it did. -/
def fnExactCountInUptoRow : OpenClaim := { program := "ytbfpdakodcegjaa", sum := "daae0d3b2711a1758abc324657e50b36175437e295f297cb3d080dea60704109", func := "loop.example/g03007/laws.FnExactCountIn", spec := "fnExactCountIn", apart := false, narrowed := true }
def FnExactCountInUptoSaid : Prop := fnExactCountInUptoRow.holds Try.pinned (OpenSpec.upto fnExactCountInSpec)

/-- 'laws.FnExactHolderAt', WHERE WHAT IT READS IS OF BULK AT MOST 1048576: true; the input reads as it did. -/
def fnExactHolderAtUptoRow : OpenClaim := { program := "ytbfpdakodcegjaa", sum := "daae0d3b2711a1758abc324657e50b36175437e295f297cb3d080dea60704109", func := "loop.example/g03007/laws.FnExactHolderAt", spec := "fnExactHolderAt", apart := false, narrowed := true }
def FnExactHolderAtUptoSaid : Prop := fnExactHolderAtUptoRow.holds Try.pinned (OpenSpec.upto fnExactHolderAtSpec)

/-- 'laws.FnKept', WHERE WHAT IT READS IS OF BULK AT MOST 1048576: true; the input reads as it did. -/
def fnKeptUptoRow : OpenClaim := { program := "ytbfpdakodcegjaa", sum := "daae0d3b2711a1758abc324657e50b36175437e295f297cb3d080dea60704109", func := "loop.example/g03007/laws.FnKept", spec := "fnKept", apart := false, narrowed := true }
def FnKeptUptoSaid : Prop := fnKeptUptoRow.holds Try.pinned (OpenSpec.upto fnKeptSpec)

/-- 'laws.FnExactFateOf', WHERE WHAT IT READS IS OF BULK AT MOST 1048576: true; the input reads as it did. -/
def fnExactFateOfUptoRow : OpenClaim := { program := "ytbfpdakodcegjaa", sum := "daae0d3b2711a1758abc324657e50b36175437e295f297cb3d080dea60704109", func := "loop.example/g03007/laws.FnExactFateOf", spec := "fnExactFateOf", unfollowed := true, recurses := true, apart := false, narrowed := true }
def FnExactFateOfUptoSaid : Prop := fnExactFateOfUptoRow.holds Try.pinned (OpenSpec.upto fnExactFateOfSpec)

/-- 'laws.FnExactDueThings', WHERE WHAT IT READS IS OF BULK AT MOST 1048576: true; the input reads as it did. -/
def fnExactDueThingsUptoRow : OpenClaim := { program := "ytbfpdakodcegjaa", sum := "daae0d3b2711a1758abc324657e50b36175437e295f297cb3d080dea60704109", func := "loop.example/g03007/laws.FnExactDueThings", spec := "fnExactDueThings", apart := false, narrowed := true }
def FnExactDueThingsUptoSaid : Prop := fnExactDueThingsUptoRow.holds Try.pinned (OpenSpec.upto fnExactDueThingsSpec)

/-- 'laws.FnExactMustKeep', WHERE WHAT IT READS IS OF BULK AT MOST 1048576: true; the input reads as it did. -/
def fnExactMustKeepUptoRow : OpenClaim := { program := "ytbfpdakodcegjaa", sum := "daae0d3b2711a1758abc324657e50b36175437e295f297cb3d080dea60704109", func := "loop.example/g03007/laws.FnExactMustKeep", spec := "fnExactMustKeep", unfollowed := true, recurses := true, apart := false, narrowed := true }
def FnExactMustKeepUptoSaid : Prop := fnExactMustKeepUptoRow.holds Try.pinned (OpenSpec.upto fnExactMustKeepSpec)

/-- 'laws.FnExactAddHand', WHERE WHAT IT READS IS OF BULK AT MOST 1048576: true; the input reads as it did. -/
def fnExactAddHandUptoRow : OpenClaim := { program := "ytbfpdakodcegjaa", sum := "daae0d3b2711a1758abc324657e50b36175437e295f297cb3d080dea60704109", func := "loop.example/g03007/laws.FnExactAddHand", spec := "fnExactAddHand", apart := false, narrowed := true }
def FnExactAddHandUptoSaid : Prop := fnExactAddHandUptoRow.holds Try.pinned (OpenSpec.upto fnExactAddHandSpec)

/-- 'laws.FnFates', WHERE WHAT IT READS IS OF BULK AT MOST 1048576: true; the input reads as it did. -/
def fnFatesUptoRow : OpenClaim := { program := "ytbfpdakodcegjaa", sum := "daae0d3b2711a1758abc324657e50b36175437e295f297cb3d080dea60704109", func := "loop.example/g03007/laws.FnFates", spec := "fnFates", unfollowed := true, recurses := true, apart := false, narrowed := true }
def FnFatesUptoSaid : Prop := fnFatesUptoRow.holds Try.pinned (OpenSpec.upto fnFatesSpec)

end Rows
end Go.Proofs.Ytbfpdakodcegjaa
