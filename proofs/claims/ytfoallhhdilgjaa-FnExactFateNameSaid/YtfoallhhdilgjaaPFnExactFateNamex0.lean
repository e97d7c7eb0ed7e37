/- Walks of functions that FnExactFateName reaches: written by a tool of the kit for this claim, with contracts of ours for the functions that it does not take. -/
import Derived.Test.YtfoallhhdilgjaaProg
import Derived.Below
import Derived.Deep.Draws
import Derived.Deep.AppendLies
import Derived.Maps.AppendAt
import Derived.OwnWalk
import Derived.Laws.BytesArg
import Derived.Laws.MakeOwn
import Derived.Laws.OwnMore
import Derived.Deep.OwnRows
import Derived.Tactics
import Derived.Lib.ConvBytes
import Derived.Laws.Slices
import Derived.WalkKit
import Derived.KernelRfl
import Derived.RowKit3
import Derived.Deep.LoopGhost
import Derived.Deep.QuietTactic
import Derived.BigQuiet
import Derived.WideLaws
import Derived.Deep.DeepCutAuto
import Derived.Deep.CutBlock
import Derived.Deep.RegionHeld3
import Derived.Laws.Rows
import Derived.Lib.AppendStr
import Derived.ArgAppend
import Derived.Laws.IdiomCopy
import Derived.OrdersHeld
import Derived.Laws.BitsLemmas
import Derived.RowKit
import Derived.Lib.SliceRun
import Derived.Test.YtfoallhhdilgjaaWWords
import Derived.Test.YtfoallhhdilgjaaWLast
import Derived.Test.YtfoallhhdilgjaaWTab
import Derived.Test.YtfoallhhdilgjaaWFour
import Derived.Test.YtfoallhhdilgjaaWQPut
import Derived.Test.YtfoallhhdilgjaaWApart
import Derived.Test.YtfoallhhdilgjaaWArr
import Derived.Test.YtfoallhhdilgjaaWZeros
import Derived.Test.YtfoallhhdilgjaaWFoot
import Derived.Test.YtfoallhhdilgjaaWKept
import Derived.Test.YtfoallhhdilgjaaWShare
import Derived.Test.YtfoallhhdilgjaaWN
import Derived.Test.YtfoallhhdilgjaaWFootNe
import Derived.Test.YtfoallhhdilgjaaWAt
import Derived.Test.YtfoallhhdilgjaaWEqStruct
import Derived.Test.YtfoallhhdilgjaaWRepsOne
import Derived.Test.YtfoallhhdilgjaaWInv
import Derived.Test.YtfoallhhdilgjaaWInvWords
import Derived.Test.YtfoallhhdilgjaaWGuard
import Derived.Test.YtfoallhhdilgjaaWNEv
import Derived.Test.YtfoallhhdilgjaaWMore
namespace Go.Proofs.Ytfoallhhdilgjaa.PFnExactFateName
open Go.RowKit Go.Proofs.YtfoallhhdilgjaaW.PrintWords Go.Proofs.YtfoallhhdilgjaaW.PrintLast Go.Proofs.YtfoallhhdilgjaaW.PrintMore
attribute [local go_sem] max2_int min2_int max_two min_two max_three min_three max_four min_four   -- for this text's walks alone
set_option linter.unusedVariables false
set_option linter.unusedSimpArgs false



def errW : Option Int → Value
  | none => .nilIface
  | some c => .iface 0 (.int .i64 c)
theorem errW_none : errW none = .nilIface := rfl
theorem errW_some (c : Int) : errW (some c) = .iface 0 (.int .i64 c) := rfl

theorem info9 : (Try.prog.info? 9).map (fun i => (i.zero, i.size, i.bytes)) = some (some (.string ⟨#[]⟩), 1, 16) := by kernel_rfl
-- the values' own types

end Go.Proofs.Ytfoallhhdilgjaa.PFnExactFateName
