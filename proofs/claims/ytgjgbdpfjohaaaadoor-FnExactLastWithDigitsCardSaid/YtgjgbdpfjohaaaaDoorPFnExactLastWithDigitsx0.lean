/- Functions that the law FnExactLastWithDigits reaches, each as a Lean function, and that the Go code comes to just these answers (written by programs). -/
import Derived.Test.YtgjgbdpfjohaaaaDoorProg
import Derived.Below
import Derived.Deep.Draws
import Derived.Deep.AppendLies
import Derived.Maps.AppendAt
import Derived.OwnWalk
import Derived.Laws.BytesArg
import Derived.Laws.MakeOwn
import Derived.Laws.OwnMore
import Derived.Deep.OwnRows
import Derived.Tactics
import Derived.Lib.ConvBytes
import Derived.Laws.Slices
import Derived.WalkKit
import Derived.KernelRfl
import Derived.RowKit3
import Derived.Deep.LoopGhost
import Derived.Deep.QuietTactic
import Derived.BigQuiet
import Derived.WideLaws
import Derived.Deep.DeepCutAuto
import Derived.Deep.CutBlock
import Derived.Deep.RegionHeld3
import Derived.Laws.Rows
import Derived.Lib.AppendStr
import Derived.ArgAppend
import Derived.Laws.IdiomCopy
import Derived.OrdersHeld
import Derived.Laws.BitsLemmas
import Derived.RowKit
import Derived.Test.YtgjgbdpfjohaaaaDoorWWords
import Derived.Test.YtgjgbdpfjohaaaaDoorWLast
import Derived.Test.YtgjgbdpfjohaaaaDoorWTab
import Derived.Test.YtgjgbdpfjohaaaaDoorWFour
import Derived.Test.YtgjgbdpfjohaaaaDoorWQPut
import Derived.Test.YtgjgbdpfjohaaaaDoorWApart
import Derived.Test.YtgjgbdpfjohaaaaDoorWArr
import Derived.Test.YtgjgbdpfjohaaaaDoorWZeros
import Derived.Test.YtgjgbdpfjohaaaaDoorWFoot
import Derived.Test.YtgjgbdpfjohaaaaDoorWKept
import Derived.Test.YtgjgbdpfjohaaaaDoorWShare
import Derived.Test.YtgjgbdpfjohaaaaDoorWN
import Derived.Test.YtgjgbdpfjohaaaaDoorWFootNe
import Derived.Test.YtgjgbdpfjohaaaaDoorWAt
import Derived.Test.YtgjgbdpfjohaaaaDoorWEqStruct
import Derived.Test.YtgjgbdpfjohaaaaDoorWRepsOne
import Derived.Test.YtgjgbdpfjohaaaaDoorWInv
import Derived.Test.YtgjgbdpfjohaaaaDoorWInvWords
import Derived.Test.YtgjgbdpfjohaaaaDoorWGuard
import Derived.Test.YtgjgbdpfjohaaaaDoorWNEv
import Derived.Test.YtgjgbdpfjohaaaaDoorWMore
namespace Go.Proofs.YtgjgbdpfjohaaaaDoor.PFnExactLastWithDigits
open Go.RowKit Go.Proofs.YtgjgbdpfjohaaaaDoorW.PrintWords Go.Proofs.YtgjgbdpfjohaaaaDoorW.PrintLast Go.Proofs.YtgjgbdpfjohaaaaDoorW.PrintMore
attribute [local go_sem] max2_int min2_int max_two min_two max_three min_three max_four min_four   -- for this text's walks alone
set_option linter.unusedVariables false
set_option linter.unusedSimpArgs false



def errW : Option Int → Value
  | none => .nilIface
  | some c => .iface 0 (.int .i64 c)
theorem errW_none : errW none = .nilIface := rfl
theorem errW_some (c : Int) : errW (some c) = .iface 0 (.int .i64 c) := rfl

theorem info5 : (Tryd.prog.info? 5).map (fun i => (i.zero, i.size, i.bytes)) = some (some (.int .u8 0), 1, 1) := by kernel_rfl
-- the values' own types

end Go.Proofs.YtgjgbdpfjohaaaaDoor.PFnExactLastWithDigits
