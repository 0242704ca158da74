-- Written by a program of this session (wip/tools), over the words that print.sh lays.
import Derived.Test.YtpjgognanfgpiaaProg
import Derived.Below
import Derived.Deep.Draws
import Derived.Deep.AppendLies
import Derived.Maps.AppendAt
import Derived.OwnWalk
import Derived.Laws.BytesArg
import Derived.Laws.MakeOwn
import Derived.Laws.OwnMore
import Derived.Deep.OwnRows
import Derived.Tactics
import Derived.Lib.ConvBytes
import Derived.Laws.Slices
import Derived.WalkKit
import Derived.KernelRfl
import Derived.RowKit3
import Derived.Deep.LoopGhost
import Derived.Deep.QuietTactic
import Derived.BigQuiet
import Derived.WideLaws
import Derived.Deep.DeepCutAuto
import Derived.Deep.CutBlock
import Derived.Deep.RegionHeld3
import Derived.Laws.Rows
import Derived.Lib.AppendStr
import Derived.ArgAppend
import Derived.Laws.IdiomCopy
import Derived.OrdersHeld
import Derived.Laws.BitsLemmas
import Derived.RowKit
import Derived.LoopN
import Derived.WalkMore
import Derived.Test.YtpjgognanfgpiaaWWords
import Derived.Test.YtpjgognanfgpiaaWLast
import Derived.Test.YtpjgognanfgpiaaWTab
import Derived.Test.YtpjgognanfgpiaaWFour
import Derived.Test.YtpjgognanfgpiaaWQPut
import Derived.Test.YtpjgognanfgpiaaWApart
import Derived.Test.YtpjgognanfgpiaaWArr
import Derived.Test.YtpjgognanfgpiaaWZeros
import Derived.Test.YtpjgognanfgpiaaWFoot
import Derived.Test.YtpjgognanfgpiaaWKept
import Derived.Test.YtpjgognanfgpiaaWShare
import Derived.Test.YtpjgognanfgpiaaWN
import Derived.Test.YtpjgognanfgpiaaWFootNe
import Derived.Test.YtpjgognanfgpiaaWAt
import Derived.Test.YtpjgognanfgpiaaWEqStruct
import Derived.Test.YtpjgognanfgpiaaWRepsOne
import Derived.Test.YtpjgognanfgpiaaWInv
import Derived.Test.YtpjgognanfgpiaaWInvWords
import Derived.Test.YtpjgognanfgpiaaWGuard
import Derived.Test.YtpjgognanfgpiaaWNEv
import Derived.Test.YtpjgognanfgpiaaWMore
namespace Go.Proofs.Ytpjgognanfgpiaa.PAll
open Go.RowKit Go.Proofs.YtpjgognanfgpiaaW.PrintWords Go.Proofs.YtpjgognanfgpiaaW.PrintLast Go.Proofs.YtpjgognanfgpiaaW.PrintMore
attribute [local go_sem] max2_int min2_int max_two min_two max_three min_three max_four min_four   -- for this text's walks alone
set_option linter.unusedVariables false
set_option linter.unusedSimpArgs false
attribute [local irreducible] Calls



def errW : Option Int → Value
  | none => .nilIface
  | some c => .iface 0 (.int .i64 c)
theorem errW_none : errW none = .nilIface := rfl
theorem errW_some (c : Int) : errW (some c) = .iface 0 (.int .i64 c) := rfl

theorem info9 : (Try.prog.info? 9).map (fun i => (i.zero, i.size, i.bytes)) = some (some (.string ⟨#[]⟩), 1, 16) := by kernel_rfl
-- the values' own types

end Go.Proofs.Ytpjgognanfgpiaa.PAll
