/-
  DERIVED. GIVEN WITH THE SEED: THE CARDS: each row of YtbnhfipcjbnknaaGreatDoorRows.lean that lists a variable, with what it lists TIED to the program's text (the seventh form; the later family's looks); each row that meets fmt, with fmt's text TOLD by the authors' own Lean function (tested against real Go, not proved from fmt's source: count such statements apart). THE CARD IS WHAT COUNTS. Prove the row's statement (the work); the ties are given (YtbnhfipcjbnknaaGreatDoorTie.lean); close each card by the builder's one call (the guide's Derived/Test/ToyasCard.lean, 'card_holds'). Laid BY PROGRAM, IN A SANDBOX (cutbox-door.mjs). By AI agents, Wed Nov 11 2026. No macro, syntax, notation, axiom, sorry.
-/
import Derived.Test.YtbnhfipcjbnknaaGreatDoorRows
import GoSem.ClaimSeven
namespace Go.Proofs.YtbnhfipcjbnknaaGreatDoor
namespace Rows

/-- THE TIED CARD OF 'laws.FnPlatesOrder'. -/
def fnPlatesOrderCard : Claim7 := { stood := { row := fnPlatesOrderRow, standIns := [], harness := (true, "0902cddfb5b0202f765f2f1c24837338bce02a94aea0cf3cbc27a5275855720e"), looks := true }, kinds := [], alts := [], laidByText := true, laidKinds := [.data, .data, .data, .data, .sentinel, .sentinel, .pinned], laidTests := true, laidLooks := .later }
def FnPlatesOrderCardSaid : Prop := Claim7.holds Tryz.pinned (.plain (OpenSpec.ofChange fnPlatesOrderSpec)) fnPlatesOrderCard

/-- THE SECOND FORM's CARD OF 'laws.FnPlatesOrder'. -/
def fnPlatesOrderUptoCard : Claim7 := { stood := { row := fnPlatesOrderUptoRow, standIns := [], harness := (true, "0902cddfb5b0202f765f2f1c24837338bce02a94aea0cf3cbc27a5275855720e"), looks := true }, kinds := [], alts := [], laidByText := true, laidKinds := [.data, .data, .data, .data, .sentinel, .sentinel, .pinned], laidTests := true, laidLooks := .later }
def FnPlatesOrderUptoCardSaid : Prop := Claim7.holds Tryz.pinned (.plain (OpenSpec.upto fnPlatesOrderSpec)) fnPlatesOrderUptoCard
end Rows
end Go.Proofs.YtbnhfipcjbnknaaGreatDoor
