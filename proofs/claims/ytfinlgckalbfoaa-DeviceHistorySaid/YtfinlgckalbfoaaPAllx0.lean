-- Written by a program of this session (wip/tools), over the words that print.sh lays.
import Derived.Test.YtfinlgckalbfoaaProg
import Derived.Below
import Derived.Deep.Draws
import Derived.Deep.AppendLies
import Derived.Maps.AppendAt
import Derived.OwnWalk
import Derived.Laws.BytesArg
import Derived.Laws.MakeOwn
import Derived.Laws.OwnMore
import Derived.Deep.OwnRows
import Derived.Tactics
import Derived.Lib.ConvBytes
import Derived.Laws.Slices
import Derived.WalkKit
import Derived.KernelRfl
import Derived.RowKit3
import Derived.Deep.LoopGhost
import Derived.Deep.QuietTactic
import Derived.BigQuiet
import Derived.WideLaws
import Derived.Deep.DeepCutAuto
import Derived.Deep.CutBlock
import Derived.Deep.RegionHeld3
import Derived.Laws.Rows
import Derived.Lib.AppendStr
import Derived.ArgAppend
import Derived.Laws.IdiomCopy
import Derived.OrdersHeld
import Derived.Laws.BitsLemmas
import Derived.RowKit
import Derived.LoopN
import Derived.WalkMore
import Derived.Test.YtfinlgckalbfoaaWWords
import Derived.Test.YtfinlgckalbfoaaWLast
import Derived.Test.YtfinlgckalbfoaaWTab
import Derived.Test.YtfinlgckalbfoaaWFour
import Derived.Test.YtfinlgckalbfoaaWQPut
import Derived.Test.YtfinlgckalbfoaaWApart
import Derived.Test.YtfinlgckalbfoaaWArr
import Derived.Test.YtfinlgckalbfoaaWZeros
import Derived.Test.YtfinlgckalbfoaaWFoot
import Derived.Test.YtfinlgckalbfoaaWKept
import Derived.Test.YtfinlgckalbfoaaWShare
import Derived.Test.YtfinlgckalbfoaaWN
import Derived.Test.YtfinlgckalbfoaaWFootNe
import Derived.Test.YtfinlgckalbfoaaWAt
import Derived.Test.YtfinlgckalbfoaaWEqStruct
import Derived.Test.YtfinlgckalbfoaaWRepsOne
import Derived.Test.YtfinlgckalbfoaaWInv
import Derived.Test.YtfinlgckalbfoaaWInvWords
import Derived.Test.YtfinlgckalbfoaaWGuard
import Derived.Test.YtfinlgckalbfoaaWNEv
import Derived.Test.YtfinlgckalbfoaaWMore
namespace Go.Proofs.Ytfinlgckalbfoaa.PAll
open Go.RowKit Go.Proofs.YtfinlgckalbfoaaW.PrintWords Go.Proofs.YtfinlgckalbfoaaW.PrintLast Go.Proofs.YtfinlgckalbfoaaW.PrintMore
attribute [local go_sem] max2_int min2_int max_two min_two max_three min_three max_four min_four   -- for this text's walks alone
set_option linter.unusedVariables false
set_option linter.unusedSimpArgs false
attribute [local irreducible] Calls



def errW : Option Int → Value
  | none => .nilIface
  | some c => .iface 0 (.int .i64 c)
theorem errW_none : errW none = .nilIface := rfl
theorem errW_some (c : Int) : errW (some c) = .iface 0 (.int .i64 c) := rfl

theorem info3 : (Try.prog.info? 3).map (fun i => (i.zero, i.size, i.bytes)) = some (some (.int .i64 0), 1, 8) := by kernel_rfl
theorem info9 : (Try.prog.info? 9).map (fun i => (i.zero, i.size, i.bytes)) = some (some (.string ⟨#[]⟩), 1, 16) := by kernel_rfl
-- the values' own types

end Go.Proofs.Ytfinlgckalbfoaa.PAll
