/- What the library's functions of this claim ask of the program's variables, and that it holds in every later world. -/
import Derived.Test.YtbnhfipcjbnknaaGreatDoorShelf
import Derived.Lib.SmallJoins
import Derived.Lib.AppendIntMem
namespace Go.Proofs.YtbnhfipcjbnknaaGreatDoor.PFnPlatesOrder
open Go.RowKit
/-- The table that strconv.Itoa reads holds what it was made with, and strconv's two errors hold some value that is no nil; internal/bytealg.MaxLen (block 0) is some whole number. -/
def VarsOK (w : World) : Prop := Lib.TabIs Tryz.prog w "internal/strconv.uint64pow10" .u64 Lib.pow10Tab ∧ (∃ tp p, w.var? Tryz.prog "strconv.ErrSyntax" = some #[.iface tp p]) ∧ (∃ tp p, w.var? Tryz.prog "strconv.ErrRange" = some #[.iface tp p]) ∧ ∃ m, w.cell? ⟨0, 0, none⟩ = some (.int .i64 m)
theorem VarsOK.tab {w : World} (h : VarsOK w) : Lib.TabIs Tryz.prog w "internal/strconv.uint64pow10" .u64 Lib.pow10Tab := h.1
theorem VarsOK.cell {w : World} (h : VarsOK w) : ∃ m, w.cell? ⟨0, 0, none⟩ = some (.int .i64 m) := h.2.2.2
theorem VarsOK.syn {w : World} (h : VarsOK w) : ∃ tp p, w.var? Tryz.prog "strconv.ErrSyntax" = some #[.iface tp p] := h.2.1
theorem VarsOK.rng {w : World} (h : VarsOK w) : ∃ tp p, w.var? Tryz.prog "strconv.ErrRange" = some #[.iface tp p] := h.2.2.1
theorem var_stays {w w' : World} {n : String} {cs : Array Value} (h : w.var? Tryz.prog n = some cs) (hb : Below w.heap.size w w') : w'.var? Tryz.prog n = some cs := by
  unfold World.var? at h ⊢
  cases hg : Tryz.prog.globalNamed n with
  | none => simp [hg] at h
  | some g =>
    simp only [hg, Option.bind_some] at h ⊢
    have hlt : g < w.heap.size := by
      rcases Nat.lt_or_ge g w.heap.size with h' | h'
      · exact h'
      · simp [Array.getElem?_eq_none h'] at h
    rw [hb.block g hlt]
    exact h
theorem VarsOK.below {w w' : World} (h : VarsOK w) (hb : Below w.heap.size w w') : VarsOK w' := by
  obtain ⟨h1, ⟨t2, p2, h2⟩, ⟨t3, p3, h3⟩, ⟨m, h4⟩⟩ := h
  exact ⟨var_stays h1 hb, ⟨t2, p2, var_stays h2 hb⟩, ⟨t3, p3, var_stays h3 hb⟩, ⟨m, hb.cell (World.block_lt_of_cell? w _ h4) |>.trans h4⟩⟩
end Go.Proofs.YtbnhfipcjbnknaaGreatDoor.PFnPlatesOrder
