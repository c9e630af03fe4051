-- Written by a program of this session's own (xp.py) for this seat.
import Derived.Test.YtmppibhdnajjjaaDoorProg
import Derived.Below
import Derived.Deep.Draws
import Derived.Deep.AppendLies
import Derived.Maps.AppendAt
import Derived.OwnWalk
import Derived.Laws.BytesArg
import Derived.Laws.MakeOwn
import Derived.Laws.OwnMore
import Derived.Deep.OwnRows
import Derived.Tactics
import Derived.Lib.ConvBytes
import Derived.Laws.Slices
import Derived.WalkKit
import Derived.KernelRfl
import Derived.RowKit3
import Derived.Deep.LoopGhost
import Derived.Deep.QuietTactic
import Derived.BigQuiet
import Derived.WideLaws
import Derived.Deep.DeepCutAuto
import Derived.Deep.CutBlock
import Derived.Deep.RegionHeld3
import Derived.Laws.Rows
import Derived.Lib.AppendStr
import Derived.ArgAppend
import Derived.Laws.IdiomCopy
import Derived.OrdersHeld
import Derived.Laws.BitsLemmas
import Derived.RowKit
import Derived.Test.YtmppibhdnajjjaaDoorXWords
import Derived.Test.YtmppibhdnajjjaaDoorWWords
import Derived.Test.YtmppibhdnajjjaaDoorWLast
import Derived.Test.YtmppibhdnajjjaaDoorWTab
import Derived.Test.YtmppibhdnajjjaaDoorWFour
import Derived.Test.YtmppibhdnajjjaaDoorWQPut
import Derived.Test.YtmppibhdnajjjaaDoorWApart
import Derived.Test.YtmppibhdnajjjaaDoorWArr
import Derived.Test.YtmppibhdnajjjaaDoorWZeros
import Derived.Test.YtmppibhdnajjjaaDoorWFoot
import Derived.Test.YtmppibhdnajjjaaDoorWKept
import Derived.Test.YtmppibhdnajjjaaDoorWShare
import Derived.Test.YtmppibhdnajjjaaDoorWN
import Derived.Test.YtmppibhdnajjjaaDoorWFootNe
import Derived.Test.YtmppibhdnajjjaaDoorWAt
import Derived.Test.YtmppibhdnajjjaaDoorWEqStruct
import Derived.Test.YtmppibhdnajjjaaDoorWRepsOne
import Derived.Test.YtmppibhdnajjjaaDoorWInv
import Derived.Test.YtmppibhdnajjjaaDoorWInvWords
import Derived.Test.YtmppibhdnajjjaaDoorWGuard
import Derived.Test.YtmppibhdnajjjaaDoorWNEv
import Derived.Test.YtmppibhdnajjjaaDoorWMore
namespace Go.Proofs.YtmppibhdnajjjaaDoor.K
open Go.RowKit Go.Proofs.YtmppibhdnajjjaaDoorW.PrintWords Go.Proofs.YtmppibhdnajjjaaDoorW.PrintLast Go.Proofs.YtmppibhdnajjjaaDoorW.PrintMore
attribute [local go_sem] Instr.field asAgg
attribute [local go_sem] max2_int min2_int max_two min_two max_three min_three max_four min_four   -- for this text's walks alone
set_option linter.unusedVariables false
set_option linter.unusedSimpArgs false



def errW : Option Int → Value
  | none => .nilIface
  | some c => .iface 0 (.int .i64 c)
theorem errW_none : errW none = .nilIface := rfl
theorem errW_some (c : Int) : errW (some c) = .iface 0 (.int .i64 c) := rfl

theorem info2 : (Tryd.prog.info? 2).map (fun i => (i.zero, i.size, i.bytes)) = some (some (.int .i64 0), 1, 8) := by kernel_rfl
theorem info5 : (Tryd.prog.info? 5).map (fun i => (i.zero, i.size, i.bytes)) = some (some (.int .u8 0), 1, 1) := by kernel_rfl
theorem info9 : (Tryd.prog.info? 9).map (fun i => (i.zero, i.size, i.bytes)) = some (some (.string ⟨#[]⟩), 1, 16) := by kernel_rfl
-- the values' own types

end Go.Proofs.YtmppibhdnajjjaaDoor.K
