/- Functions that the law FnHousesNumbered reaches, each as a Lean function, and that the Go code comes to just these answers (written by programs). -/
import Derived.Test.YtihmjhchiomgbaaGreatDoorProg
import Derived.Below
import Derived.Deep.Draws
import Derived.Deep.AppendLies
import Derived.Maps.AppendAt
import Derived.OwnWalk
import Derived.Laws.BytesArg
import Derived.Laws.MakeOwn
import Derived.Laws.OwnMore
import Derived.Deep.OwnRows
import Derived.Tactics
import Derived.Lib.ConvBytes
import Derived.Laws.Slices
import Derived.WalkKit
import Derived.KernelRfl
import Derived.RowKit3
import Derived.Deep.LoopGhost
import Derived.Deep.QuietTactic
import Derived.BigQuiet
import Derived.WideLaws
import Derived.Deep.DeepCutAuto
import Derived.Deep.CutBlock
import Derived.Deep.RegionHeld3
import Derived.Laws.Rows
import Derived.Lib.AppendStr
import Derived.ArgAppend
import Derived.Laws.IdiomCopy
import Derived.OrdersHeld
import Derived.Laws.BitsLemmas
import Derived.RowKit
import Derived.Test.YtihmjhchiomgbaaGreatDoorWWords
import Derived.Test.YtihmjhchiomgbaaGreatDoorWLast
import Derived.Test.YtihmjhchiomgbaaGreatDoorWTab
import Derived.Test.YtihmjhchiomgbaaGreatDoorWFour
import Derived.Test.YtihmjhchiomgbaaGreatDoorWQPut
import Derived.Test.YtihmjhchiomgbaaGreatDoorWApart
import Derived.Test.YtihmjhchiomgbaaGreatDoorWArr
import Derived.Test.YtihmjhchiomgbaaGreatDoorWZeros
import Derived.Test.YtihmjhchiomgbaaGreatDoorWFoot
import Derived.Test.YtihmjhchiomgbaaGreatDoorWKept
import Derived.Test.YtihmjhchiomgbaaGreatDoorWShare
import Derived.Test.YtihmjhchiomgbaaGreatDoorWN
import Derived.Test.YtihmjhchiomgbaaGreatDoorWFootNe
import Derived.Test.YtihmjhchiomgbaaGreatDoorWAt
import Derived.Test.YtihmjhchiomgbaaGreatDoorWEqStruct
import Derived.Test.YtihmjhchiomgbaaGreatDoorWRepsOne
import Derived.Test.YtihmjhchiomgbaaGreatDoorWInv
import Derived.Test.YtihmjhchiomgbaaGreatDoorWInvWords
import Derived.Test.YtihmjhchiomgbaaGreatDoorWGuard
import Derived.Test.YtihmjhchiomgbaaGreatDoorWNEv
import Derived.Test.YtihmjhchiomgbaaGreatDoorWMore
namespace Go.Proofs.YtihmjhchiomgbaaGreatDoor.PFnHousesNumbered
open Go.RowKit Go.Proofs.YtihmjhchiomgbaaGreatDoorW.PrintWords Go.Proofs.YtihmjhchiomgbaaGreatDoorW.PrintLast Go.Proofs.YtihmjhchiomgbaaGreatDoorW.PrintMore
attribute [local go_sem] max2_int min2_int max_two min_two max_three min_three max_four min_four   -- for this text's walks alone
set_option linter.unusedVariables false
set_option linter.unusedSimpArgs false



def errW : Option Int → Value
  | none => .nilIface
  | some c => .iface 106 (.int .i64 c)
theorem errW_none : errW none = .nilIface := rfl
theorem errW_some (c : Int) : errW (some c) = .iface 106 (.int .i64 c) := rfl

theorem info3 : (Tryz.prog.info? 3).map (fun i => (i.zero, i.size, i.bytes)) = some (some (.int .i64 0), 1, 8) := by kernel_rfl
theorem info5 : (Tryz.prog.info? 5).map (fun i => (i.zero, i.size, i.bytes)) = some (some (.int .u8 0), 1, 1) := by kernel_rfl
-- the values' own types

end Go.Proofs.YtihmjhchiomgbaaGreatDoor.PFnHousesNumbered
