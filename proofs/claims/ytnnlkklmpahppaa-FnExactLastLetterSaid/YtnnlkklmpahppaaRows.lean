/-
  No cell of these rows narrows 'for every input' (looked for: loops, veiled, ifaces, maps, wideKeys, modest, calm, conditions, laid).
  DERIVED. THE GIVEN ROWS OF THIS SEAT. 12 by the template 'for every input the law returns true; each argument reads behind the call as it read before'; 0 by the template 'total and deterministic' (their statements: YtnnlkklmpahppaaTotals.lean).
  GIVEN WITH THE SEED: the statements are not yours to turn. If you find one false, say at which input.
  Laid BY PROGRAM, IN A SANDBOX (cutbox-rows.mjs): the forced cells as the released guide's own fill.sh prints them over the translation e112c0d0cba0ba22… (all of the seat's roots in one cut). By AI agents, Wed Nov 11 2026. No macro, syntax, notation, axiom, sorry.
-/
import Derived.Test.YtnnlkklmpahppaaChecked
import GoSem.Claim
import GoSem.ClaimJoined
import GoSem.ClaimMapViews
import Derived.JoinedTies
import Derived.KernelRfl
namespace Go.Proofs.Ytnnlkklmpahppaa
/- THE CELL 'sum', in the pinned program and in every row, IS THE sha256 OF THE DUMP (.gsa) THAT YtnnlkklmpahppaaProg.lean LOADS. Nothing in Lean hashes anything: it is a label: what it is worth is what the hold of that sum in a sandbox is worth. -/
noncomputable def Try.pinned : Pinned := { name := "ytnnlkklmpahppaa", sum := "e112c0d0cba0ba22a0e7da1502c324f43d180a3d6b07d6c8f5dd9805e04d2c6d", checked := Try.checked }
namespace Rows
def none {H : Type} : Left H := { results := [], args := [] }

/-- 'laws.FnExactFateName': WHATEVER THE INPUT: true; the input reads as it did. -/
def fnExactFateNameSpec : ChangeSpec := { name := "fnExactFateName", fn := fun _ => fun
  | [d] => { results := [.lit (.bool true)], args := [d] }
  | _ => none }
def fnExactFateNameRow : OpenClaim := { program := "ytnnlkklmpahppaa", sum := "e112c0d0cba0ba22a0e7da1502c324f43d180a3d6b07d6c8f5dd9805e04d2c6d", func := "loop.example/g03007/laws.FnExactFateName", spec := "fnExactFateName", apart := false }
def FnExactFateNameSaid : Prop := fnExactFateNameRow.holds Try.pinned (OpenSpec.ofChange fnExactFateNameSpec)

/-- ITS FALSE NEIGHBOUR: 'it returns false'. Refute it at one input. -/
def fnExactFateNameWrong : ChangeSpec := { name := "fnExactFateName", fn := fun _ => fun
  | [d] => { results := [.lit (.bool false)], args := [d] }
  | _ => none }
def FnExactFateNameWrongFalsely : Prop := fnExactFateNameRow.holds Try.pinned (OpenSpec.ofChange fnExactFateNameWrong)

/-- 'laws.FnExactKeepDays': WHATEVER THE INPUT: true; the input reads as it did. -/
def fnExactKeepDaysSpec : ChangeSpec := { name := "fnExactKeepDays", fn := fun _ => fun
  | [d] => { results := [.lit (.bool true)], args := [d] }
  | _ => none }
def fnExactKeepDaysRow : OpenClaim := { program := "ytnnlkklmpahppaa", sum := "e112c0d0cba0ba22a0e7da1502c324f43d180a3d6b07d6c8f5dd9805e04d2c6d", func := "loop.example/g03007/laws.FnExactKeepDays", spec := "fnExactKeepDays", apart := false }
def FnExactKeepDaysSaid : Prop := fnExactKeepDaysRow.holds Try.pinned (OpenSpec.ofChange fnExactKeepDaysSpec)

/-- ITS FALSE NEIGHBOUR: 'it returns false'. Refute it at one input. -/
def fnExactKeepDaysWrong : ChangeSpec := { name := "fnExactKeepDays", fn := fun _ => fun
  | [d] => { results := [.lit (.bool false)], args := [d] }
  | _ => none }
def FnExactKeepDaysWrongFalsely : Prop := fnExactKeepDaysRow.holds Try.pinned (OpenSpec.ofChange fnExactKeepDaysWrong)

/-- 'laws.FnExactFeeFor': WHATEVER THE INPUT: true; the input reads as it did. -/
def fnExactFeeForSpec : ChangeSpec := { name := "fnExactFeeFor", fn := fun _ => fun
  | [d1, d2] => { results := [.lit (.bool true)], args := [d1, d2] }
  | _ => none }
def fnExactFeeForRow : OpenClaim := { program := "ytnnlkklmpahppaa", sum := "e112c0d0cba0ba22a0e7da1502c324f43d180a3d6b07d6c8f5dd9805e04d2c6d", func := "loop.example/g03007/laws.FnExactFeeFor", spec := "fnExactFeeFor", apart := false }
def FnExactFeeForSaid : Prop := fnExactFeeForRow.holds Try.pinned (OpenSpec.ofChange fnExactFeeForSpec)

/-- ITS FALSE NEIGHBOUR: 'it returns false'. Refute it at one input. -/
def fnExactFeeForWrong : ChangeSpec := { name := "fnExactFeeFor", fn := fun _ => fun
  | [d1, d2] => { results := [.lit (.bool false)], args := [d1, d2] }
  | _ => none }
def FnExactFeeForWrongFalsely : Prop := fnExactFeeForRow.holds Try.pinned (OpenSpec.ofChange fnExactFeeForWrong)

/-- 'laws.FnExactSealBid': WHATEVER THE INPUT: true; the input reads as it did. -/
def fnExactSealBidSpec : ChangeSpec := { name := "fnExactSealBid", fn := fun _ => fun
  | [d1, d2, d3] => { results := [.lit (.bool true)], args := [d1, d2, d3] }
  | _ => none }
def fnExactSealBidRow : OpenClaim := { program := "ytnnlkklmpahppaa", sum := "e112c0d0cba0ba22a0e7da1502c324f43d180a3d6b07d6c8f5dd9805e04d2c6d", func := "loop.example/g03007/laws.FnExactSealBid", spec := "fnExactSealBid", apart := false }
def FnExactSealBidSaid : Prop := fnExactSealBidRow.holds Try.pinned (OpenSpec.ofChange fnExactSealBidSpec)

/-- ITS FALSE NEIGHBOUR: 'it returns false'. Refute it at one input. -/
def fnExactSealBidWrong : ChangeSpec := { name := "fnExactSealBid", fn := fun _ => fun
  | [d1, d2, d3] => { results := [.lit (.bool false)], args := [d1, d2, d3] }
  | _ => none }
def FnExactSealBidWrongFalsely : Prop := fnExactSealBidRow.holds Try.pinned (OpenSpec.ofChange fnExactSealBidWrong)

/-- 'laws.FnExactCountFate': WHATEVER THE INPUT: true; the input reads as it did. -/
def fnExactCountFateSpec : ChangeSpec := { name := "fnExactCountFate", fn := fun _ => fun
  | [d1, d2] => { results := [.lit (.bool true)], args := [d1, d2] }
  | _ => none }
def fnExactCountFateRow : OpenClaim := { program := "ytnnlkklmpahppaa", sum := "e112c0d0cba0ba22a0e7da1502c324f43d180a3d6b07d6c8f5dd9805e04d2c6d", func := "loop.example/g03007/laws.FnExactCountFate", spec := "fnExactCountFate", apart := false }
def FnExactCountFateSaid : Prop := fnExactCountFateRow.holds Try.pinned (OpenSpec.ofChange fnExactCountFateSpec)

/-- ITS FALSE NEIGHBOUR: 'it returns false'. Refute it at one input. -/
def fnExactCountFateWrong : ChangeSpec := { name := "fnExactCountFate", fn := fun _ => fun
  | [d1, d2] => { results := [.lit (.bool false)], args := [d1, d2] }
  | _ => none }
def FnExactCountFateWrongFalsely : Prop := fnExactCountFateRow.holds Try.pinned (OpenSpec.ofChange fnExactCountFateWrong)

/-- 'laws.FnExactRewardFor': WHATEVER THE INPUT: true; the input reads as it did. -/
def fnExactRewardForSpec : ChangeSpec := { name := "fnExactRewardFor", fn := fun _ => fun
  | [d] => { results := [.lit (.bool true)], args := [d] }
  | _ => none }
def fnExactRewardForRow : OpenClaim := { program := "ytnnlkklmpahppaa", sum := "e112c0d0cba0ba22a0e7da1502c324f43d180a3d6b07d6c8f5dd9805e04d2c6d", func := "loop.example/g03007/laws.FnExactRewardFor", spec := "fnExactRewardFor", apart := false }
def FnExactRewardForSaid : Prop := fnExactRewardForRow.holds Try.pinned (OpenSpec.ofChange fnExactRewardForSpec)

/-- ITS FALSE NEIGHBOUR: 'it returns false'. Refute it at one input. -/
def fnExactRewardForWrong : ChangeSpec := { name := "fnExactRewardFor", fn := fun _ => fun
  | [d] => { results := [.lit (.bool false)], args := [d] }
  | _ => none }
def FnExactRewardForWrongFalsely : Prop := fnExactRewardForRow.holds Try.pinned (OpenSpec.ofChange fnExactRewardForWrong)

/-- 'laws.FnExactHandSeal': WHATEVER THE INPUT: true; the input reads as it did. -/
def fnExactHandSealSpec : ChangeSpec := { name := "fnExactHandSeal", fn := fun _ => fun
  | [d1, d2] => { results := [.lit (.bool true)], args := [d1, d2] }
  | _ => none }
def fnExactHandSealRow : OpenClaim := { program := "ytnnlkklmpahppaa", sum := "e112c0d0cba0ba22a0e7da1502c324f43d180a3d6b07d6c8f5dd9805e04d2c6d", func := "loop.example/g03007/laws.FnExactHandSeal", spec := "fnExactHandSeal", apart := false }
def FnExactHandSealSaid : Prop := fnExactHandSealRow.holds Try.pinned (OpenSpec.ofChange fnExactHandSealSpec)

/-- ITS FALSE NEIGHBOUR: 'it returns false'. Refute it at one input. -/
def fnExactHandSealWrong : ChangeSpec := { name := "fnExactHandSeal", fn := fun _ => fun
  | [d1, d2] => { results := [.lit (.bool false)], args := [d1, d2] }
  | _ => none }
def FnExactHandSealWrongFalsely : Prop := fnExactHandSealRow.holds Try.pinned (OpenSpec.ofChange fnExactHandSealWrong)

/-- 'laws.FnExactHintOf': WHATEVER THE INPUT: true; the input reads as it did. -/
def fnExactHintOfSpec : ChangeSpec := { name := "fnExactHintOf", fn := fun _ => fun
  | [d1, d2] => { results := [.lit (.bool true)], args := [d1, d2] }
  | _ => none }
def fnExactHintOfRow : OpenClaim := { program := "ytnnlkklmpahppaa", sum := "e112c0d0cba0ba22a0e7da1502c324f43d180a3d6b07d6c8f5dd9805e04d2c6d", func := "loop.example/g03007/laws.FnExactHintOf", spec := "fnExactHintOf", apart := false }
def FnExactHintOfSaid : Prop := fnExactHintOfRow.holds Try.pinned (OpenSpec.ofChange fnExactHintOfSpec)

/-- ITS FALSE NEIGHBOUR: 'it returns false'. Refute it at one input. -/
def fnExactHintOfWrong : ChangeSpec := { name := "fnExactHintOf", fn := fun _ => fun
  | [d1, d2] => { results := [.lit (.bool false)], args := [d1, d2] }
  | _ => none }
def FnExactHintOfWrongFalsely : Prop := fnExactHintOfRow.holds Try.pinned (OpenSpec.ofChange fnExactHintOfWrong)

/-- 'laws.FnExactIsOpened': WHATEVER THE INPUT: true; the input reads as it did. -/
def fnExactIsOpenedSpec : ChangeSpec := { name := "fnExactIsOpened", fn := fun _ => fun
  | [d1, d2] => { results := [.lit (.bool true)], args := [d1, d2] }
  | _ => none }
def fnExactIsOpenedRow : OpenClaim := { program := "ytnnlkklmpahppaa", sum := "e112c0d0cba0ba22a0e7da1502c324f43d180a3d6b07d6c8f5dd9805e04d2c6d", func := "loop.example/g03007/laws.FnExactIsOpened", spec := "fnExactIsOpened", apart := false }
def FnExactIsOpenedSaid : Prop := fnExactIsOpenedRow.holds Try.pinned (OpenSpec.ofChange fnExactIsOpenedSpec)

/-- ITS FALSE NEIGHBOUR: 'it returns false'. Refute it at one input. -/
def fnExactIsOpenedWrong : ChangeSpec := { name := "fnExactIsOpened", fn := fun _ => fun
  | [d1, d2] => { results := [.lit (.bool false)], args := [d1, d2] }
  | _ => none }
def FnExactIsOpenedWrongFalsely : Prop := fnExactIsOpenedRow.holds Try.pinned (OpenSpec.ofChange fnExactIsOpenedWrong)

/-- 'laws.FnExactCountLetters': WHATEVER THE INPUT: true; the input reads as it did. -/
def fnExactCountLettersSpec : ChangeSpec := { name := "fnExactCountLetters", fn := fun _ => fun
  | [d1, d2] => { results := [.lit (.bool true)], args := [d1, d2] }
  | _ => none }
def fnExactCountLettersRow : OpenClaim := { program := "ytnnlkklmpahppaa", sum := "e112c0d0cba0ba22a0e7da1502c324f43d180a3d6b07d6c8f5dd9805e04d2c6d", func := "loop.example/g03007/laws.FnExactCountLetters", spec := "fnExactCountLetters", apart := false }
def FnExactCountLettersSaid : Prop := fnExactCountLettersRow.holds Try.pinned (OpenSpec.ofChange fnExactCountLettersSpec)

/-- ITS FALSE NEIGHBOUR: 'it returns false'. Refute it at one input. -/
def fnExactCountLettersWrong : ChangeSpec := { name := "fnExactCountLetters", fn := fun _ => fun
  | [d1, d2] => { results := [.lit (.bool false)], args := [d1, d2] }
  | _ => none }
def FnExactCountLettersWrongFalsely : Prop := fnExactCountLettersRow.holds Try.pinned (OpenSpec.ofChange fnExactCountLettersWrong)

/-- 'laws.FnExactLastLetter': WHATEVER THE INPUT: true; the input reads as it did. -/
def fnExactLastLetterSpec : ChangeSpec := { name := "fnExactLastLetter", fn := fun _ => fun
  | [d1, d2] => { results := [.lit (.bool true)], args := [d1, d2] }
  | _ => none }
def fnExactLastLetterRow : OpenClaim := { program := "ytnnlkklmpahppaa", sum := "e112c0d0cba0ba22a0e7da1502c324f43d180a3d6b07d6c8f5dd9805e04d2c6d", func := "loop.example/g03007/laws.FnExactLastLetter", spec := "fnExactLastLetter", apart := false }
def FnExactLastLetterSaid : Prop := fnExactLastLetterRow.holds Try.pinned (OpenSpec.ofChange fnExactLastLetterSpec)

/-- ITS FALSE NEIGHBOUR: 'it returns false'. Refute it at one input. -/
def fnExactLastLetterWrong : ChangeSpec := { name := "fnExactLastLetter", fn := fun _ => fun
  | [d1, d2] => { results := [.lit (.bool false)], args := [d1, d2] }
  | _ => none }
def FnExactLastLetterWrongFalsely : Prop := fnExactLastLetterRow.holds Try.pinned (OpenSpec.ofChange fnExactLastLetterWrong)

/-- 'laws.FnExactDueHour': WHATEVER THE INPUT: true; the input reads as it did. -/
def fnExactDueHourSpec : ChangeSpec := { name := "fnExactDueHour", fn := fun _ => fun
  | [d] => { results := [.lit (.bool true)], args := [d] }
  | _ => none }
def fnExactDueHourRow : OpenClaim := { program := "ytnnlkklmpahppaa", sum := "e112c0d0cba0ba22a0e7da1502c324f43d180a3d6b07d6c8f5dd9805e04d2c6d", func := "loop.example/g03007/laws.FnExactDueHour", spec := "fnExactDueHour", apart := false }
def FnExactDueHourSaid : Prop := fnExactDueHourRow.holds Try.pinned (OpenSpec.ofChange fnExactDueHourSpec)

/-- ITS FALSE NEIGHBOUR: 'it returns false'. Refute it at one input. -/
def fnExactDueHourWrong : ChangeSpec := { name := "fnExactDueHour", fn := fun _ => fun
  | [d] => { results := [.lit (.bool false)], args := [d] }
  | _ => none }
def FnExactDueHourWrongFalsely : Prop := fnExactDueHourRow.holds Try.pinned (OpenSpec.ofChange fnExactDueHourWrong)

/- THE SECOND FORM. 'bulk': how many values and letters a reading holds, each counted each time it is reached (what is shared counts as often as it is met; a slice's spare places count too). A statement '..UptoSaid' is the law's where the arguments, and the package variables that the reading takes, are together of bulk at most 1048576: NARROWER than '..Said'. Prove '..Said' where nothing that the law and all that it calls make is longer than what came in: it says more and counts as full. Else prove '..UptoSaid'. A law counts once. -/
mutual
def uptoBulk {H : Type} : DataW H → Nat
  | .lit (.string bytes) => bytes.length + 1
  | .lit _ => 1
  | .nil => 1
  | .ptr d => uptoBulk d + 1
  | .slice elems spare => uptoBulkAll elems + uptoBulkAll spare + 1
  | .agg parts => uptoBulkAll parts + 1
  | .iface _ d => uptoBulk d + 1
  | .map entries => uptoBulkEntries entries + 1
  | .held _ => 1
def uptoBulkAll {H : Type} : List (DataW H) → Nat
  | [] => 0
  | d :: r => uptoBulk d + uptoBulkAll r
def uptoBulkEntries {H : Type} : List (Lit × DataW H) → Nat
  | [] => 0
  | x :: r => uptoBulkEntry x + uptoBulkEntries r
def uptoBulkEntry {H : Type} : Lit × DataW H → Nat
  | (.string bytes, d) => bytes.length + uptoBulk d + 1
  | (_, d) => uptoBulk d + 1
 end
def uptoSmall : (H : Type) → List (DataW H) → Bool := fun _ ds => decide (uptoBulkAll ds ≤ 1048576)
def OpenSpec.upto (s : _root_.Go.ChangeSpec) : _root_.Go.OpenSpec := { _root_.Go.OpenSpec.ofChange s with cond := some uptoSmall }

/-- 'laws.FnExactFateName', WHERE WHAT IT READS IS OF BULK AT MOST 1048576: true; the input reads as it did. -/
def fnExactFateNameUptoRow : OpenClaim := { program := "ytnnlkklmpahppaa", sum := "e112c0d0cba0ba22a0e7da1502c324f43d180a3d6b07d6c8f5dd9805e04d2c6d", func := "loop.example/g03007/laws.FnExactFateName", spec := "fnExactFateName", apart := false, narrowed := true }
def FnExactFateNameUptoSaid : Prop := fnExactFateNameUptoRow.holds Try.pinned (OpenSpec.upto fnExactFateNameSpec)

/-- 'laws.FnExactKeepDays', WHERE WHAT IT READS IS OF BULK AT MOST 1048576: true; the input reads as it did. -/
def fnExactKeepDaysUptoRow : OpenClaim := { program := "ytnnlkklmpahppaa", sum := "e112c0d0cba0ba22a0e7da1502c324f43d180a3d6b07d6c8f5dd9805e04d2c6d", func := "loop.example/g03007/laws.FnExactKeepDays", spec := "fnExactKeepDays", apart := false, narrowed := true }
def FnExactKeepDaysUptoSaid : Prop := fnExactKeepDaysUptoRow.holds Try.pinned (OpenSpec.upto fnExactKeepDaysSpec)

/-- 'laws.FnExactFeeFor', WHERE WHAT IT READS IS OF BULK AT MOST 1048576: true; the input reads as it did. -/
def fnExactFeeForUptoRow : OpenClaim := { program := "ytnnlkklmpahppaa", sum := "e112c0d0cba0ba22a0e7da1502c324f43d180a3d6b07d6c8f5dd9805e04d2c6d", func := "loop.example/g03007/laws.FnExactFeeFor", spec := "fnExactFeeFor", apart := false, narrowed := true }
def FnExactFeeForUptoSaid : Prop := fnExactFeeForUptoRow.holds Try.pinned (OpenSpec.upto fnExactFeeForSpec)

/-- 'laws.FnExactSealBid', WHERE WHAT IT READS IS OF BULK AT MOST 1048576: true; the input reads as it did. -/
def fnExactSealBidUptoRow : OpenClaim := { program := "ytnnlkklmpahppaa", sum := "e112c0d0cba0ba22a0e7da1502c324f43d180a3d6b07d6c8f5dd9805e04d2c6d", func := "loop.example/g03007/laws.FnExactSealBid", spec := "fnExactSealBid", apart := false, narrowed := true }
def FnExactSealBidUptoSaid : Prop := fnExactSealBidUptoRow.holds Try.pinned (OpenSpec.upto fnExactSealBidSpec)

/-- 'laws.FnExactCountFate', WHERE WHAT IT READS IS OF BULK AT MOST 1048576: true; the input reads as it did. -/
def fnExactCountFateUptoRow : OpenClaim := { program := "ytnnlkklmpahppaa", sum := "e112c0d0cba0ba22a0e7da1502c324f43d180a3d6b07d6c8f5dd9805e04d2c6d", func := "loop.example/g03007/laws.FnExactCountFate", spec := "fnExactCountFate", apart := false, narrowed := true }
def FnExactCountFateUptoSaid : Prop := fnExactCountFateUptoRow.holds Try.pinned (OpenSpec.upto fnExactCountFateSpec)

/-- 'laws.FnExactRewardFor', WHERE WHAT IT READS IS OF BULK AT MOST 1048576: true; the input reads as it did. -/
def fnExactRewardForUptoRow : OpenClaim := { program := "ytnnlkklmpahppaa", sum := "e112c0d0cba0ba22a0e7da1502c324f43d180a3d6b07d6c8f5dd9805e04d2c6d", func := "loop.example/g03007/laws.FnExactRewardFor", spec := "fnExactRewardFor", apart := false, narrowed := true }
def FnExactRewardForUptoSaid : Prop := fnExactRewardForUptoRow.holds Try.pinned (OpenSpec.upto fnExactRewardForSpec)

/-- 'laws.FnExactHandSeal', WHERE WHAT IT READS IS OF BULK AT MOST 1048576: true; the input reads as it did. -/
def fnExactHandSealUptoRow : OpenClaim := { program := "ytnnlkklmpahppaa", sum := "e112c0d0cba0ba22a0e7da1502c324f43d180a3d6b07d6c8f5dd9805e04d2c6d", func := "loop.example/g03007/laws.FnExactHandSeal", spec := "fnExactHandSeal", apart := false, narrowed := true }
def FnExactHandSealUptoSaid : Prop := fnExactHandSealUptoRow.holds Try.pinned (OpenSpec.upto fnExactHandSealSpec)

/-- 'laws.FnExactHintOf', WHERE WHAT IT READS IS OF BULK AT MOST 1048576: true; the input reads as it did. -/
def fnExactHintOfUptoRow : OpenClaim := { program := "ytnnlkklmpahppaa", sum := "e112c0d0cba0ba22a0e7da1502c324f43d180a3d6b07d6c8f5dd9805e04d2c6d", func := "loop.example/g03007/laws.FnExactHintOf", spec := "fnExactHintOf", apart := false, narrowed := true }
def FnExactHintOfUptoSaid : Prop := fnExactHintOfUptoRow.holds Try.pinned (OpenSpec.upto fnExactHintOfSpec)

/-- 'laws.FnExactIsOpened', WHERE WHAT IT READS IS OF BULK AT MOST 1048576: true; the input reads as it did. -/
def fnExactIsOpenedUptoRow : OpenClaim := { program := "ytnnlkklmpahppaa", sum := "e112c0d0cba0ba22a0e7da1502c324f43d180a3d6b07d6c8f5dd9805e04d2c6d", func := "loop.example/g03007/laws.FnExactIsOpened", spec := "fnExactIsOpened", apart := false, narrowed := true }
def FnExactIsOpenedUptoSaid : Prop := fnExactIsOpenedUptoRow.holds Try.pinned (OpenSpec.upto fnExactIsOpenedSpec)

/-- 'laws.FnExactCountLetters', WHERE WHAT IT READS IS OF BULK AT MOST 1048576: true; the input reads as it did. -/
def fnExactCountLettersUptoRow : OpenClaim := { program := "ytnnlkklmpahppaa", sum := "e112c0d0cba0ba22a0e7da1502c324f43d180a3d6b07d6c8f5dd9805e04d2c6d", func := "loop.example/g03007/laws.FnExactCountLetters", spec := "fnExactCountLetters", apart := false, narrowed := true }
def FnExactCountLettersUptoSaid : Prop := fnExactCountLettersUptoRow.holds Try.pinned (OpenSpec.upto fnExactCountLettersSpec)

/-- 'laws.FnExactLastLetter', WHERE WHAT IT READS IS OF BULK AT MOST 1048576: true; the input reads as it did. -/
def fnExactLastLetterUptoRow : OpenClaim := { program := "ytnnlkklmpahppaa", sum := "e112c0d0cba0ba22a0e7da1502c324f43d180a3d6b07d6c8f5dd9805e04d2c6d", func := "loop.example/g03007/laws.FnExactLastLetter", spec := "fnExactLastLetter", apart := false, narrowed := true }
def FnExactLastLetterUptoSaid : Prop := fnExactLastLetterUptoRow.holds Try.pinned (OpenSpec.upto fnExactLastLetterSpec)

/-- 'laws.FnExactDueHour', WHERE WHAT IT READS IS OF BULK AT MOST 1048576: true; the input reads as it did. -/
def fnExactDueHourUptoRow : OpenClaim := { program := "ytnnlkklmpahppaa", sum := "e112c0d0cba0ba22a0e7da1502c324f43d180a3d6b07d6c8f5dd9805e04d2c6d", func := "loop.example/g03007/laws.FnExactDueHour", spec := "fnExactDueHour", apart := false, narrowed := true }
def FnExactDueHourUptoSaid : Prop := fnExactDueHourUptoRow.holds Try.pinned (OpenSpec.upto fnExactDueHourSpec)

end Rows
end Go.Proofs.Ytnnlkklmpahppaa
