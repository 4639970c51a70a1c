/- What the library's functions of this claim ask of the program's variables, and that it holds in every later world. -/
import Derived.Test.YtihmjhchiomgbaaDoorShelf
import Derived.Lib.SmallJoins
import Derived.Lib.AppendIntMem
namespace Go.Proofs.YtihmjhchiomgbaaDoor.PFnPlatesMade
open Go.RowKit
/-- The table that strconv.Itoa reads holds what it was made with. -/
def VarsOK (w : World) : Prop := Lib.TabIs Tryd.prog w "internal/strconv.uint64pow10" .u64 Lib.pow10Tab
theorem VarsOK.tab {w : World} (h : VarsOK w) : Lib.TabIs Tryd.prog w "internal/strconv.uint64pow10" .u64 Lib.pow10Tab := h
theorem VarsOK.below {w w' : World} (h : VarsOK w) (hb : Below w.heap.size w w') : VarsOK w' := by
  unfold VarsOK at h ⊢
  cases hg : Tryd.prog.globalNamed "internal/strconv.uint64pow10" with
  | none => simp [Lib.TabIs, World.var?, hg] at h
  | some g => exact Joins.tab_stays hg h hb (Nat.le_refl _)
end Go.Proofs.YtihmjhchiomgbaaDoor.PFnPlatesMade
