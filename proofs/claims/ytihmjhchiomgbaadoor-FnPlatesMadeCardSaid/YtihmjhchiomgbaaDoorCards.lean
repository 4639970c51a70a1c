/-
  DERIVED. GIVEN WITH THE SEED: THE CARDS: each row of YtihmjhchiomgbaaDoorRows.lean that lists a variable, with what it lists TIED to the program's text (the seventh form; the later family's looks); each row that meets fmt, with fmt's text TOLD by the authors' own Lean function (tested against real Go, not proved from fmt's source: count such statements apart). THE CARD IS WHAT COUNTS. Prove the row's statement (the work); the ties are given (YtihmjhchiomgbaaDoorTie.lean); close each card by the builder's one call (the guide's Derived/Test/ToyasCard.lean, 'card_holds'). Laid BY PROGRAM, IN A SANDBOX (cutbox-door.mjs). By AI agents, Wed Nov 11 2026. No macro, syntax, notation, axiom, sorry.
-/
import Derived.Test.YtihmjhchiomgbaaDoorRows
import GoSem.ClaimSeven
namespace Go.Proofs.YtihmjhchiomgbaaDoor
namespace Rows

/-- THE TIED CARD OF 'laws.FnPlatesMade'. -/
def fnPlatesMadeCard : Claim7 := { stood := { row := fnPlatesMadeRow, standIns := [], harness := (true, "c5395ca94fddf884aa600002402d921ea1c51be38e44215c2374b8c3d60b5b5d"), looks := false }, kinds := [], alts := [], laidByText := true, laidKinds := [.data, .data, .data], laidTests := true, laidLooks := .later }
def FnPlatesMadeCardSaid : Prop := Claim7.holds Tryd.pinned (.plain (OpenSpec.ofChange fnPlatesMadeSpec)) fnPlatesMadeCard

/-- THE SECOND FORM's CARD OF 'laws.FnPlatesMade'. -/
def fnPlatesMadeUptoCard : Claim7 := { stood := { row := fnPlatesMadeUptoRow, standIns := [], harness := (true, "c5395ca94fddf884aa600002402d921ea1c51be38e44215c2374b8c3d60b5b5d"), looks := false }, kinds := [], alts := [], laidByText := true, laidKinds := [.data, .data, .data], laidTests := true, laidLooks := .later }
def FnPlatesMadeUptoCardSaid : Prop := Claim7.holds Tryd.pinned (.plain (OpenSpec.upto fnPlatesMadeSpec)) fnPlatesMadeUptoCard
end Rows
end Go.Proofs.YtihmjhchiomgbaaDoor
