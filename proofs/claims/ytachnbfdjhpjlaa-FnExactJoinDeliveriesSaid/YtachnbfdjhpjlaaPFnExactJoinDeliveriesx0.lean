/- Functions that the law FnExactJoinDeliveries reaches, each as a Lean function, and that the Go code comes to just these answers (written by programs). -/
import Derived.Test.YtachnbfdjhpjlaaProg
import Derived.Below
import Derived.Deep.Draws
import Derived.Deep.AppendLies
import Derived.Maps.AppendAt
import Derived.OwnWalk
import Derived.Laws.BytesArg
import Derived.Laws.MakeOwn
import Derived.Laws.OwnMore
import Derived.Deep.OwnRows
import Derived.Tactics
import Derived.Lib.ConvBytes
import Derived.Laws.Slices
import Derived.WalkKit
import Derived.KernelRfl
import Derived.RowKit3
import Derived.Deep.LoopGhost
import Derived.Deep.QuietTactic
import Derived.BigQuiet
import Derived.WideLaws
import Derived.Deep.DeepCutAuto
import Derived.Deep.CutBlock
import Derived.Deep.RegionHeld3
import Derived.Laws.Rows
import Derived.Lib.AppendStr
import Derived.ArgAppend
import Derived.Laws.IdiomCopy
import Derived.OrdersHeld
import Derived.Laws.BitsLemmas
import Derived.RowKit
import Derived.Test.YtachnbfdjhpjlaaWWords
import Derived.Test.YtachnbfdjhpjlaaWLast
import Derived.Test.YtachnbfdjhpjlaaWTab
import Derived.Test.YtachnbfdjhpjlaaWFour
import Derived.Test.YtachnbfdjhpjlaaWQPut
import Derived.Test.YtachnbfdjhpjlaaWApart
import Derived.Test.YtachnbfdjhpjlaaWArr
import Derived.Test.YtachnbfdjhpjlaaWZeros
import Derived.Test.YtachnbfdjhpjlaaWFoot
import Derived.Test.YtachnbfdjhpjlaaWKept
import Derived.Test.YtachnbfdjhpjlaaWShare
import Derived.Test.YtachnbfdjhpjlaaWN
import Derived.Test.YtachnbfdjhpjlaaWFootNe
import Derived.Test.YtachnbfdjhpjlaaWAt
import Derived.Test.YtachnbfdjhpjlaaWEqStruct
import Derived.Test.YtachnbfdjhpjlaaWRepsOne
import Derived.Test.YtachnbfdjhpjlaaWInv
import Derived.Test.YtachnbfdjhpjlaaWInvWords
import Derived.Test.YtachnbfdjhpjlaaWGuard
import Derived.Test.YtachnbfdjhpjlaaWNEv
import Derived.Test.YtachnbfdjhpjlaaWMore
namespace Go.Proofs.Ytachnbfdjhpjlaa.PFnExactJoinDeliveries
open Go.RowKit Go.Proofs.YtachnbfdjhpjlaaW.PrintWords Go.Proofs.YtachnbfdjhpjlaaW.PrintLast Go.Proofs.YtachnbfdjhpjlaaW.PrintMore
attribute [local go_sem] max2_int min2_int max_two min_two max_three min_three max_four min_four   -- for this text's walks alone
set_option linter.unusedVariables false
set_option linter.unusedSimpArgs false



def errW : Option Int → Value
  | none => .nilIface
  | some c => .iface 0 (.int .i64 c)
theorem errW_none : errW none = .nilIface := rfl
theorem errW_some (c : Int) : errW (some c) = .iface 0 (.int .i64 c) := rfl

-- the values' own types

end Go.Proofs.Ytachnbfdjhpjlaa.PFnExactJoinDeliveries
