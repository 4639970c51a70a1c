/-
  DERIVED. GIVEN WITH THE SEED: THE CARDS: each row of YtgjgbdpfjohaaaaDoorRows.lean that lists a variable, with what it lists TIED to the program's text (the seventh form; the later family's looks); each row that meets fmt, with fmt's text TOLD by the authors' own Lean function (tested against real Go, not proved from fmt's source: count such statements apart). THE CARD IS WHAT COUNTS. Prove the row's statement (the work); the ties are given (YtgjgbdpfjohaaaaDoorTie.lean); close each card by the builder's one call (the guide's Derived/Test/ToyasCard.lean, 'card_holds'). Laid BY PROGRAM, IN A SANDBOX (cutbox-door.mjs). By AI agents, Wed Nov 11 2026. No macro, syntax, notation, axiom, sorry.
-/
import Derived.Test.YtgjgbdpfjohaaaaDoorRows
import GoSem.ClaimSeven
namespace Go.Proofs.YtgjgbdpfjohaaaaDoor
namespace Rows

/-- THE TIED CARD OF 'laws.FnExactLastWithDigits'. -/
def fnExactLastWithDigitsCard : Claim7 := { stood := { row := fnExactLastWithDigitsRow, standIns := [], harness := (true, "fa9d19fa16bf1eae2dcbd864d17c720a3ead2f958e09c66a4d86f289ad27e49f"), looks := false }, kinds := [], alts := [], laidByText := true, laidKinds := [.data, .data, .data], laidTests := true, laidLooks := .later }
def FnExactLastWithDigitsCardSaid : Prop := Claim7.holds Tryd.pinned (.plain (OpenSpec.ofChange fnExactLastWithDigitsSpec)) fnExactLastWithDigitsCard

/-- THE SECOND FORM's CARD OF 'laws.FnExactLastWithDigits'. -/
def fnExactLastWithDigitsUptoCard : Claim7 := { stood := { row := fnExactLastWithDigitsUptoRow, standIns := [], harness := (true, "fa9d19fa16bf1eae2dcbd864d17c720a3ead2f958e09c66a4d86f289ad27e49f"), looks := false }, kinds := [], alts := [], laidByText := true, laidKinds := [.data, .data, .data], laidTests := true, laidLooks := .later }
def FnExactLastWithDigitsUptoCardSaid : Prop := Claim7.holds Tryd.pinned (.plain (OpenSpec.upto fnExactLastWithDigitsSpec)) fnExactLastWithDigitsUptoCard
end Rows
end Go.Proofs.YtgjgbdpfjohaaaaDoor
