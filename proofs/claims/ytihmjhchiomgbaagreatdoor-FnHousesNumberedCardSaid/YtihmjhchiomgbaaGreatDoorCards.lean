/-
  DERIVED. GIVEN WITH THE SEED: THE CARDS: each row of YtihmjhchiomgbaaGreatDoorRows.lean that lists a variable, with what it lists TIED to the program's text (the seventh form; the later family's looks); each row that meets fmt, with fmt's text TOLD by the authors' own Lean function (tested against real Go, not proved from fmt's source: count such statements apart). THE CARD IS WHAT COUNTS. Prove the row's statement (the work); the ties are given (YtihmjhchiomgbaaGreatDoorTie.lean); close each card by the builder's one call (the guide's Derived/Test/ToyasCard.lean, 'card_holds'). Laid BY PROGRAM, IN A SANDBOX (cutbox-door.mjs). By AI agents, Wed Nov 11 2026. No macro, syntax, notation, axiom, sorry.
-/
import Derived.Test.YtihmjhchiomgbaaGreatDoorRows
import GoSem.ClaimSeven
namespace Go.Proofs.YtihmjhchiomgbaaGreatDoor
namespace Rows

/-- THE TIED CARD OF 'laws.FnHousesNumbered'. -/
def fnHousesNumberedCard : Claim7 := { stood := { row := fnHousesNumberedRow, standIns := [], harness := (true, "631c1996275fb73401ceb88aa35c5fe217de8227cad4198b7dc857d9ed2838de"), looks := true }, kinds := [], alts := [], laidByText := true, laidKinds := [.data, .data, .data, .sentinel, .sentinel], laidTests := true, laidLooks := .later }
def FnHousesNumberedCardSaid : Prop := Claim7.holds Tryz.pinned (.plain (OpenSpec.ofChange fnHousesNumberedSpec)) fnHousesNumberedCard

/-- THE SECOND FORM's CARD OF 'laws.FnHousesNumbered'. -/
def fnHousesNumberedUptoCard : Claim7 := { stood := { row := fnHousesNumberedUptoRow, standIns := [], harness := (true, "631c1996275fb73401ceb88aa35c5fe217de8227cad4198b7dc857d9ed2838de"), looks := true }, kinds := [], alts := [], laidByText := true, laidKinds := [.data, .data, .data, .sentinel, .sentinel], laidTests := true, laidLooks := .later }
def FnHousesNumberedUptoCardSaid : Prop := Claim7.holds Tryz.pinned (.plain (OpenSpec.upto fnHousesNumberedSpec)) fnHousesNumberedUptoCard
end Rows
end Go.Proofs.YtihmjhchiomgbaaGreatDoor
