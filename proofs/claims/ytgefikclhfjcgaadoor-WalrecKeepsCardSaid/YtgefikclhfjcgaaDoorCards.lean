/-
  DERIVED. GIVEN WITH THE SEED: THE CARDS: each row of YtgefikclhfjcgaaDoorRows.lean that lists a variable, with what it lists TIED to the program's text (the seventh form; the later family's looks); each row that meets fmt, with fmt's text TOLD by the authors' own Lean function (tested against real Go, not proved from fmt's source: count such statements apart). THE CARD IS WHAT COUNTS. Prove the row's statement (the work); the ties are given (YtgefikclhfjcgaaDoorTie.lean); close each card by the builder's one call (the guide's Derived/Test/ToyasCard.lean, 'card_holds'). Laid BY PROGRAM, IN A SANDBOX (cutbox-door.mjs). By AI agents, Wed Nov 11 2026. No macro, syntax, notation, axiom, sorry.
-/
import Derived.Test.YtgefikclhfjcgaaDoorRows
import GoSem.ClaimSeven
namespace Go.Proofs.YtgefikclhfjcgaaDoor
namespace Rows

/-- THE TIED CARD OF 'haulagelaw11.CatcodeValues'. -/
def catcodeValuesCard : Claim7 := { stood := { row := catcodeValuesRow, standIns := [], harness := (true, "a57c6745df4c4cf36b2dbda400e9f3c0bac3c1b626461761b71c2c2fabfbedc4"), looks := false }, kinds := [], alts := [], laidByText := true, laidKinds := [.data], laidTests := true, laidLooks := .later }
def CatcodeValuesCardSaid : Prop := Claim7.holds Tryd.pinned (.plain (OpenSpec.ofChange catcodeValuesSpec)) catcodeValuesCard

/-- THE TIED CARD OF 'haulagelaw11.CatcodeCatalogs'. -/
def catcodeCatalogsCard : Claim7 := { stood := { row := catcodeCatalogsRow, standIns := [], harness := (true, "a57c6745df4c4cf36b2dbda400e9f3c0bac3c1b626461761b71c2c2fabfbedc4"), looks := false }, kinds := [], alts := [], laidByText := true, laidKinds := [.data], laidTests := true, laidLooks := .later }
def CatcodeCatalogsCardSaid : Prop := Claim7.holds Tryd.pinned (.plain (OpenSpec.ofChange catcodeCatalogsSpec)) catcodeCatalogsCard

/-- THE TIED CARD OF 'haulagelaw11.CatcodeChanges'. -/
def catcodeChangesCard : Claim7 := { stood := { row := catcodeChangesRow, standIns := [], harness := (true, "a57c6745df4c4cf36b2dbda400e9f3c0bac3c1b626461761b71c2c2fabfbedc4"), looks := false }, kinds := [], alts := [], laidByText := true, laidKinds := [.data], laidTests := true, laidLooks := .later }
def CatcodeChangesCardSaid : Prop := Claim7.holds Tryd.pinned (.plain (OpenSpec.ofChange catcodeChangesSpec)) catcodeChangesCard

/-- THE TIED CARD OF 'haulagelaw11.CatcodeBack'. -/
def catcodeBackCard : Claim7 := { stood := { row := catcodeBackRow, standIns := [], harness := (true, "a57c6745df4c4cf36b2dbda400e9f3c0bac3c1b626461761b71c2c2fabfbedc4"), looks := false }, kinds := [], alts := [], laidByText := true, laidKinds := [.data], laidTests := true, laidLooks := .later }
def CatcodeBackCardSaid : Prop := Claim7.holds Tryd.pinned (.plain (OpenSpec.ofChange catcodeBackSpec)) catcodeBackCard

/-- THE TIED CARD OF 'haulagelaw18.WalrecKeeps'. -/
def walrecKeepsCard : Claim7 := { stood := { row := walrecKeepsRow, standIns := [], harness := (true, "a57c6745df4c4cf36b2dbda400e9f3c0bac3c1b626461761b71c2c2fabfbedc4"), looks := false }, kinds := [], alts := [], laidByText := true, laidKinds := [.data, .data], laidTests := true, laidLooks := .later }
def WalrecKeepsCardSaid : Prop := Claim7.holds Tryd.pinned (.plain (OpenSpec.ofChange walrecKeepsSpec)) walrecKeepsCard

/-- THE SECOND FORM's CARD OF 'haulagelaw11.CatcodeValues'. -/
def catcodeValuesUptoCard : Claim7 := { stood := { row := catcodeValuesUptoRow, standIns := [], harness := (true, "a57c6745df4c4cf36b2dbda400e9f3c0bac3c1b626461761b71c2c2fabfbedc4"), looks := false }, kinds := [], alts := [], laidByText := true, laidKinds := [.data], laidTests := true, laidLooks := .later }
def CatcodeValuesUptoCardSaid : Prop := Claim7.holds Tryd.pinned (.plain (OpenSpec.upto catcodeValuesSpec)) catcodeValuesUptoCard

/-- THE SECOND FORM's CARD OF 'haulagelaw11.CatcodeCatalogs'. -/
def catcodeCatalogsUptoCard : Claim7 := { stood := { row := catcodeCatalogsUptoRow, standIns := [], harness := (true, "a57c6745df4c4cf36b2dbda400e9f3c0bac3c1b626461761b71c2c2fabfbedc4"), looks := false }, kinds := [], alts := [], laidByText := true, laidKinds := [.data], laidTests := true, laidLooks := .later }
def CatcodeCatalogsUptoCardSaid : Prop := Claim7.holds Tryd.pinned (.plain (OpenSpec.upto catcodeCatalogsSpec)) catcodeCatalogsUptoCard

/-- THE SECOND FORM's CARD OF 'haulagelaw11.CatcodeChanges'. -/
def catcodeChangesUptoCard : Claim7 := { stood := { row := catcodeChangesUptoRow, standIns := [], harness := (true, "a57c6745df4c4cf36b2dbda400e9f3c0bac3c1b626461761b71c2c2fabfbedc4"), looks := false }, kinds := [], alts := [], laidByText := true, laidKinds := [.data], laidTests := true, laidLooks := .later }
def CatcodeChangesUptoCardSaid : Prop := Claim7.holds Tryd.pinned (.plain (OpenSpec.upto catcodeChangesSpec)) catcodeChangesUptoCard

/-- THE SECOND FORM's CARD OF 'haulagelaw11.CatcodeBack'. -/
def catcodeBackUptoCard : Claim7 := { stood := { row := catcodeBackUptoRow, standIns := [], harness := (true, "a57c6745df4c4cf36b2dbda400e9f3c0bac3c1b626461761b71c2c2fabfbedc4"), looks := false }, kinds := [], alts := [], laidByText := true, laidKinds := [.data], laidTests := true, laidLooks := .later }
def CatcodeBackUptoCardSaid : Prop := Claim7.holds Tryd.pinned (.plain (OpenSpec.upto catcodeBackSpec)) catcodeBackUptoCard

/-- THE SECOND FORM's CARD OF 'haulagelaw18.WalrecKeeps'. -/
def walrecKeepsUptoCard : Claim7 := { stood := { row := walrecKeepsUptoRow, standIns := [], harness := (true, "a57c6745df4c4cf36b2dbda400e9f3c0bac3c1b626461761b71c2c2fabfbedc4"), looks := false }, kinds := [], alts := [], laidByText := true, laidKinds := [.data, .data], laidTests := true, laidLooks := .later }
def WalrecKeepsUptoCardSaid : Prop := Claim7.holds Tryd.pinned (.plain (OpenSpec.upto walrecKeepsSpec)) walrecKeepsUptoCard
end Rows
end Go.Proofs.YtgefikclhfjcgaaDoor
