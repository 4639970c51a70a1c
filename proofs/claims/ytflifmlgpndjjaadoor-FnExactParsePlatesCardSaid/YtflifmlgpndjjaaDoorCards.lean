/-
  DERIVED. GIVEN WITH THE SEED: THE CARDS: each row of YtflifmlgpndjjaaDoorRows.lean that lists a variable, with what it lists TIED to the program's text (the seventh form; the later family's looks); each row that meets fmt, with fmt's text TOLD by the authors' own Lean function (tested against real Go, not proved from fmt's source: count such statements apart). THE CARD IS WHAT COUNTS. Prove the row's statement (the work); the ties are given (YtflifmlgpndjjaaDoorTie.lean); close each card by the builder's one call (the guide's Derived/Test/ToyasCard.lean, 'card_holds'). Laid BY PROGRAM, IN A SANDBOX (cutbox-door.mjs). By AI agents, Wed Nov 11 2026. No macro, syntax, notation, axiom, sorry.
-/
import Derived.Test.YtflifmlgpndjjaaDoorRows
import GoSem.ClaimSeven
namespace Go.Proofs.YtflifmlgpndjjaaDoor
namespace Rows

/-- THE TIED CARD OF 'laws.FnExactStreetText'. -/
def fnExactStreetTextCard : Claim7 := { stood := { row := fnExactStreetTextRow, standIns := [], harness := (true, "7062eeff8e87892671b7b57b6e39f86ab89cfc2d616bcd9b071d4db51cc4bbba"), looks := true }, kinds := [], alts := [], laidByText := true, laidKinds := [.data, .data, .data], laidTests := true, laidLooks := .later }
def FnExactStreetTextCardSaid : Prop := Claim7.holds Tryd.pinned (.plain (OpenSpec.ofChange fnExactStreetTextSpec)) fnExactStreetTextCard

/-- THE TIED CARD OF 'laws.FnExactPlateText'. -/
def fnExactPlateTextCard : Claim7 := { stood := { row := fnExactPlateTextRow, standIns := [], harness := (true, "7062eeff8e87892671b7b57b6e39f86ab89cfc2d616bcd9b071d4db51cc4bbba"), looks := true }, kinds := [], alts := [], laidByText := true, laidKinds := [.data, .data, .data], laidTests := true, laidLooks := .later }
def FnExactPlateTextCardSaid : Prop := Claim7.holds Tryd.pinned (.plain (OpenSpec.ofChange fnExactPlateTextSpec)) fnExactPlateTextCard

/-- THE TIED CARD OF 'laws.FnExactPlatesText'. -/
def fnExactPlatesTextCard : Claim7 := { stood := { row := fnExactPlatesTextRow, standIns := [], harness := (true, "7062eeff8e87892671b7b57b6e39f86ab89cfc2d616bcd9b071d4db51cc4bbba"), looks := true }, kinds := [], alts := [], laidByText := true, laidKinds := [.data, .data, .data], laidTests := true, laidLooks := .later }
def FnExactPlatesTextCardSaid : Prop := Claim7.holds Tryd.pinned (.plain (OpenSpec.ofChange fnExactPlatesTextSpec)) fnExactPlatesTextCard

/-- THE TIED CARD OF 'laws.FnExactParseStreet'. -/
def fnExactParseStreetCard : Claim7 := { stood := { row := fnExactParseStreetRow, standIns := [], harness := (true, "7062eeff8e87892671b7b57b6e39f86ab89cfc2d616bcd9b071d4db51cc4bbba"), looks := true }, kinds := [], alts := [], laidByText := true, laidKinds := [.data, .data, .data, .sentinel, .sentinel], laidTests := true, laidLooks := .later }
def FnExactParseStreetCardSaid : Prop := Claim7.holds Tryd.pinned (.plain (OpenSpec.ofChange fnExactParseStreetSpec)) fnExactParseStreetCard

/-- THE TIED CARD OF 'laws.FnExactParsePlate'. -/
def fnExactParsePlateCard : Claim7 := { stood := { row := fnExactParsePlateRow, standIns := [], harness := (true, "7062eeff8e87892671b7b57b6e39f86ab89cfc2d616bcd9b071d4db51cc4bbba"), looks := true }, kinds := [], alts := [], laidByText := true, laidKinds := [.data, .data, .data, .sentinel, .sentinel], laidTests := true, laidLooks := .later }
def FnExactParsePlateCardSaid : Prop := Claim7.holds Tryd.pinned (.plain (OpenSpec.ofChange fnExactParsePlateSpec)) fnExactParsePlateCard

/-- THE TIED CARD OF 'laws.FnExactParsePlates'. -/
def fnExactParsePlatesCard : Claim7 := { stood := { row := fnExactParsePlatesRow, standIns := [], harness := (true, "7062eeff8e87892671b7b57b6e39f86ab89cfc2d616bcd9b071d4db51cc4bbba"), looks := true }, kinds := [], alts := [], laidByText := true, laidKinds := [.data, .data, .data, .data, .sentinel, .sentinel, .pinned], laidTests := true, laidLooks := .later }
def FnExactParsePlatesCardSaid : Prop := Claim7.holds Tryd.pinned (.plain (OpenSpec.ofChange fnExactParsePlatesSpec)) fnExactParsePlatesCard

/-- THE SECOND FORM's CARD OF 'laws.FnExactStreetText'. -/
def fnExactStreetTextUptoCard : Claim7 := { stood := { row := fnExactStreetTextUptoRow, standIns := [], harness := (true, "7062eeff8e87892671b7b57b6e39f86ab89cfc2d616bcd9b071d4db51cc4bbba"), looks := true }, kinds := [], alts := [], laidByText := true, laidKinds := [.data, .data, .data], laidTests := true, laidLooks := .later }
def FnExactStreetTextUptoCardSaid : Prop := Claim7.holds Tryd.pinned (.plain (OpenSpec.upto fnExactStreetTextSpec)) fnExactStreetTextUptoCard

/-- THE SECOND FORM's CARD OF 'laws.FnExactPlateText'. -/
def fnExactPlateTextUptoCard : Claim7 := { stood := { row := fnExactPlateTextUptoRow, standIns := [], harness := (true, "7062eeff8e87892671b7b57b6e39f86ab89cfc2d616bcd9b071d4db51cc4bbba"), looks := true }, kinds := [], alts := [], laidByText := true, laidKinds := [.data, .data, .data], laidTests := true, laidLooks := .later }
def FnExactPlateTextUptoCardSaid : Prop := Claim7.holds Tryd.pinned (.plain (OpenSpec.upto fnExactPlateTextSpec)) fnExactPlateTextUptoCard

/-- THE SECOND FORM's CARD OF 'laws.FnExactPlatesText'. -/
def fnExactPlatesTextUptoCard : Claim7 := { stood := { row := fnExactPlatesTextUptoRow, standIns := [], harness := (true, "7062eeff8e87892671b7b57b6e39f86ab89cfc2d616bcd9b071d4db51cc4bbba"), looks := true }, kinds := [], alts := [], laidByText := true, laidKinds := [.data, .data, .data], laidTests := true, laidLooks := .later }
def FnExactPlatesTextUptoCardSaid : Prop := Claim7.holds Tryd.pinned (.plain (OpenSpec.upto fnExactPlatesTextSpec)) fnExactPlatesTextUptoCard

/-- THE SECOND FORM's CARD OF 'laws.FnExactParseStreet'. -/
def fnExactParseStreetUptoCard : Claim7 := { stood := { row := fnExactParseStreetUptoRow, standIns := [], harness := (true, "7062eeff8e87892671b7b57b6e39f86ab89cfc2d616bcd9b071d4db51cc4bbba"), looks := true }, kinds := [], alts := [], laidByText := true, laidKinds := [.data, .data, .data, .sentinel, .sentinel], laidTests := true, laidLooks := .later }
def FnExactParseStreetUptoCardSaid : Prop := Claim7.holds Tryd.pinned (.plain (OpenSpec.upto fnExactParseStreetSpec)) fnExactParseStreetUptoCard

/-- THE SECOND FORM's CARD OF 'laws.FnExactParsePlate'. -/
def fnExactParsePlateUptoCard : Claim7 := { stood := { row := fnExactParsePlateUptoRow, standIns := [], harness := (true, "7062eeff8e87892671b7b57b6e39f86ab89cfc2d616bcd9b071d4db51cc4bbba"), looks := true }, kinds := [], alts := [], laidByText := true, laidKinds := [.data, .data, .data, .sentinel, .sentinel], laidTests := true, laidLooks := .later }
def FnExactParsePlateUptoCardSaid : Prop := Claim7.holds Tryd.pinned (.plain (OpenSpec.upto fnExactParsePlateSpec)) fnExactParsePlateUptoCard

/-- THE SECOND FORM's CARD OF 'laws.FnExactParsePlates'. -/
def fnExactParsePlatesUptoCard : Claim7 := { stood := { row := fnExactParsePlatesUptoRow, standIns := [], harness := (true, "7062eeff8e87892671b7b57b6e39f86ab89cfc2d616bcd9b071d4db51cc4bbba"), looks := true }, kinds := [], alts := [], laidByText := true, laidKinds := [.data, .data, .data, .data, .sentinel, .sentinel, .pinned], laidTests := true, laidLooks := .later }
def FnExactParsePlatesUptoCardSaid : Prop := Claim7.holds Tryd.pinned (.plain (OpenSpec.upto fnExactParsePlatesSpec)) fnExactParsePlatesUptoCard
end Rows
end Go.Proofs.YtflifmlgpndjjaaDoor
