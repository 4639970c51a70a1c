/- Functions that the law FnExactParsePlate reaches, each as a Lean function, and that the Go code comes to just these answers (written by programs). -/
import Derived.Test.YtflifmlgpndjjaaDoorProg
import Derived.Below
import Derived.Deep.Draws
import Derived.Deep.AppendLies
import Derived.Maps.AppendAt
import Derived.OwnWalk
import Derived.Laws.BytesArg
import Derived.Laws.MakeOwn
import Derived.Laws.OwnMore
import Derived.Deep.OwnRows
import Derived.Tactics
import Derived.Lib.ConvBytes
import Derived.Laws.Slices
import Derived.WalkKit
import Derived.KernelRfl
import Derived.RowKit3
import Derived.Deep.LoopGhost
import Derived.Deep.QuietTactic
import Derived.BigQuiet
import Derived.WideLaws
import Derived.Deep.DeepCutAuto
import Derived.Deep.CutBlock
import Derived.Deep.RegionHeld3
import Derived.Laws.Rows
import Derived.Lib.AppendStr
import Derived.ArgAppend
import Derived.Laws.IdiomCopy
import Derived.OrdersHeld
import Derived.Laws.BitsLemmas
import Derived.RowKit
import Derived.Test.YtflifmlgpndjjaaDoorWWords
import Derived.Test.YtflifmlgpndjjaaDoorWLast
import Derived.Test.YtflifmlgpndjjaaDoorWTab
import Derived.Test.YtflifmlgpndjjaaDoorWFour
import Derived.Test.YtflifmlgpndjjaaDoorWQPut
import Derived.Test.YtflifmlgpndjjaaDoorWApart
import Derived.Test.YtflifmlgpndjjaaDoorWArr
import Derived.Test.YtflifmlgpndjjaaDoorWZeros
import Derived.Test.YtflifmlgpndjjaaDoorWFoot
import Derived.Test.YtflifmlgpndjjaaDoorWKept
import Derived.Test.YtflifmlgpndjjaaDoorWShare
import Derived.Test.YtflifmlgpndjjaaDoorWN
import Derived.Test.YtflifmlgpndjjaaDoorWFootNe
import Derived.Test.YtflifmlgpndjjaaDoorWAt
import Derived.Test.YtflifmlgpndjjaaDoorWEqStruct
import Derived.Test.YtflifmlgpndjjaaDoorWRepsOne
import Derived.Test.YtflifmlgpndjjaaDoorWInv
import Derived.Test.YtflifmlgpndjjaaDoorWInvWords
import Derived.Test.YtflifmlgpndjjaaDoorWGuard
import Derived.Test.YtflifmlgpndjjaaDoorWNEv
import Derived.Test.YtflifmlgpndjjaaDoorWMore
namespace Go.Proofs.YtflifmlgpndjjaaDoor.PFnExactParsePlate
open Go.RowKit Go.Proofs.YtflifmlgpndjjaaDoorW.PrintWords Go.Proofs.YtflifmlgpndjjaaDoorW.PrintLast Go.Proofs.YtflifmlgpndjjaaDoorW.PrintMore
attribute [local go_sem] max2_int min2_int max_two min_two max_three min_three max_four min_four   -- for this text's walks alone
set_option linter.unusedVariables false
set_option linter.unusedSimpArgs false



def errW : Option Int → Value
  | none => .nilIface
  | some c => .iface 95 (.int .i64 c)
theorem errW_none : errW none = .nilIface := rfl
theorem errW_some (c : Int) : errW (some c) = .iface 95 (.int .i64 c) := rfl

theorem info5 : (Tryd.prog.info? 5).map (fun i => (i.zero, i.size, i.bytes)) = some (some (.int .u8 0), 1, 1) := by kernel_rfl
-- the values' own types

end Go.Proofs.YtflifmlgpndjjaaDoor.PFnExactParsePlate
