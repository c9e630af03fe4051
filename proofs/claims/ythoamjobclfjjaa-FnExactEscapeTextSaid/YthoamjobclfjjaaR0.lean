-- Written by a program of this session's own (xp.py) for this seat.
import Derived.Test.YthoamjobclfjjaaRZ
import Derived.Test.YthoamjobclfjjaaProg
import Derived.Below
import Derived.Deep.Draws
import Derived.Deep.AppendLies
import Derived.Maps.AppendAt
import Derived.OwnWalk
import Derived.Laws.BytesArg
import Derived.Laws.MakeOwn
import Derived.Laws.OwnMore
import Derived.Deep.OwnRows
import Derived.Tactics
import Derived.Lib.ConvBytes
import Derived.Laws.Slices
import Derived.WalkKit
import Derived.KernelRfl
import Derived.RowKit3
import Derived.Deep.LoopGhost
import Derived.Deep.QuietTactic
import Derived.BigQuiet
import Derived.WideLaws
import Derived.Deep.DeepCutAuto
import Derived.Deep.CutBlock
import Derived.Deep.RegionHeld3
import Derived.Laws.Rows
import Derived.Lib.AppendStr
import Derived.ArgAppend
import Derived.Laws.IdiomCopy
import Derived.OrdersHeld
import Derived.Laws.BitsLemmas
import Derived.RowKit
import Derived.Test.YthoamjobclfjjaaXWords
import Derived.Test.YthoamjobclfjjaaWWords
import Derived.Test.YthoamjobclfjjaaWLast
import Derived.Test.YthoamjobclfjjaaWTab
import Derived.Test.YthoamjobclfjjaaWFour
import Derived.Test.YthoamjobclfjjaaWQPut
import Derived.Test.YthoamjobclfjjaaWApart
import Derived.Test.YthoamjobclfjjaaWArr
import Derived.Test.YthoamjobclfjjaaWZeros
import Derived.Test.YthoamjobclfjjaaWFoot
import Derived.Test.YthoamjobclfjjaaWKept
import Derived.Test.YthoamjobclfjjaaWShare
import Derived.Test.YthoamjobclfjjaaWN
import Derived.Test.YthoamjobclfjjaaWFootNe
import Derived.Test.YthoamjobclfjjaaWAt
import Derived.Test.YthoamjobclfjjaaWEqStruct
import Derived.Test.YthoamjobclfjjaaWRepsOne
import Derived.Test.YthoamjobclfjjaaWInv
import Derived.Test.YthoamjobclfjjaaWInvWords
import Derived.Test.YthoamjobclfjjaaWGuard
import Derived.Test.YthoamjobclfjjaaWNEv
import Derived.Test.YthoamjobclfjjaaWMore
namespace Go.Proofs.Ythoamjobclfjjaa.R
open Go.RowKit Go.Proofs.YthoamjobclfjjaaW.PrintWords Go.Proofs.YthoamjobclfjjaaW.PrintLast Go.Proofs.YthoamjobclfjjaaW.PrintMore
attribute [local go_sem] Instr.field asAgg
attribute [local go_sem] max2_int min2_int max_two min_two max_three min_three max_four min_four   -- for this text's walks alone
set_option linter.unusedVariables false
set_option linter.unusedSimpArgs false



def errW : Option Int → Value
  | none => .nilIface
  | some c => .iface 0 (.int .i64 c)
theorem errW_none : errW none = .nilIface := rfl
theorem errW_some (c : Int) : errW (some c) = .iface 0 (.int .i64 c) := rfl

theorem info2 : (Try.prog.info? 2).map (fun i => (i.zero, i.size, i.bytes)) = some (some (.int .i64 0), 1, 8) := by kernel_rfl
-- the values' own types

end Go.Proofs.Ythoamjobclfjjaa.R
