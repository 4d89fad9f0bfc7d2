/-
  DERIVED. GIVEN WITH THE SEED: THE CARDS: each row of YtdeophpjammbpaaDoorRows.lean that lists a variable, with what it lists TIED to the program's text (the seventh form; the later family's looks); each row that meets fmt, with fmt's text TOLD by the authors' own Lean function (tested against real Go, not proved from fmt's source: count such statements apart). THE CARD IS WHAT COUNTS. Prove the row's statement (the work); the ties are given (YtdeophpjammbpaaDoorTie.lean); close each card by the builder's one call (the guide's Derived/Test/ToyasCard.lean, 'card_holds'). Laid BY PROGRAM, IN A SANDBOX (cutbox-door.mjs). By AI agents, Wed Nov 11 2026. No macro, syntax, notation, axiom, sorry.
-/
import Derived.Test.YtdeophpjammbpaaDoorRows
import GoSem.ClaimSeven
namespace Go.Proofs.YtdeophpjammbpaaDoor
namespace Rows

/-- THE TIED CARD OF 'haulagelaw12.RowcodeEncodes'. -/
def rowcodeEncodesCard : Claim7 := { stood := { row := rowcodeEncodesRow, standIns := [], harness := (true, "04efbeaee63c1bc37aea444f78d3eb6c4e2ada9cd6891a1c5bc27b436cdea889"), looks := false }, kinds := [], alts := [], laidByText := true, laidKinds := [.data], laidTests := true, laidLooks := .later }
def RowcodeEncodesCardSaid : Prop := Claim7.holds Tryd.pinned (.plain (OpenSpec.ofChange rowcodeEncodesSpec)) rowcodeEncodesCard

/-- THE TIED CARD OF 'haulagelaw08.SchemaFills'. -/
def schemaFillsCard : Claim7 := { stood := { row := schemaFillsRow, standIns := [], harness := (true, "04efbeaee63c1bc37aea444f78d3eb6c4e2ada9cd6891a1c5bc27b436cdea889"), looks := false }, kinds := [], alts := [], laidByText := true, laidKinds := [.data], laidTests := true, laidLooks := .later }
def SchemaFillsCardSaid : Prop := Claim7.holds Tryd.pinned (.plain (OpenSpec.ofChange schemaFillsSpec)) schemaFillsCard

/-- THE TIED CARD OF 'haulagelaw08.SchemaRight'. -/
def schemaRightCard : Claim7 := { stood := { row := schemaRightRow, standIns := [], harness := (true, "04efbeaee63c1bc37aea444f78d3eb6c4e2ada9cd6891a1c5bc27b436cdea889"), looks := false }, kinds := [], alts := [], laidByText := true, laidKinds := [.data], laidTests := true, laidLooks := .later }
def SchemaRightCardSaid : Prop := Claim7.holds Tryd.pinned (.plain (OpenSpec.ofChange schemaRightSpec)) schemaRightCard

/-- THE TIED CARD OF 'haulagelaw08.SchemaRows'. -/
def schemaRowsCard : Claim7 := { stood := { row := schemaRowsRow, standIns := [], harness := (true, "04efbeaee63c1bc37aea444f78d3eb6c4e2ada9cd6891a1c5bc27b436cdea889"), looks := false }, kinds := [], alts := [], laidByText := true, laidKinds := [.data], laidTests := true, laidLooks := .later }
def SchemaRowsCardSaid : Prop := Claim7.holds Tryd.pinned (.plain (OpenSpec.ofChange schemaRowsSpec)) schemaRowsCard

/-- THE TIED CARD OF 'haulagelaw08.SchemaSets'. -/
def schemaSetsCard : Claim7 := { stood := { row := schemaSetsRow, standIns := [], harness := (true, "04efbeaee63c1bc37aea444f78d3eb6c4e2ada9cd6891a1c5bc27b436cdea889"), looks := false }, kinds := [], alts := [], laidByText := true, laidKinds := [.data], laidTests := true, laidLooks := .later }
def SchemaSetsCardSaid : Prop := Claim7.holds Tryd.pinned (.plain (OpenSpec.ofChange schemaSetsSpec)) schemaSetsCard

/-- THE TIED CARD OF 'haulagelaw08.SchemaFinds'. -/
def schemaFindsCard : Claim7 := { stood := { row := schemaFindsRow, standIns := [], harness := (true, "04efbeaee63c1bc37aea444f78d3eb6c4e2ada9cd6891a1c5bc27b436cdea889"), looks := false }, kinds := [], alts := [], laidByText := true, laidKinds := [.data], laidTests := true, laidLooks := .later }
def SchemaFindsCardSaid : Prop := Claim7.holds Tryd.pinned (.plain (OpenSpec.ofChange schemaFindsSpec)) schemaFindsCard

/-- THE TIED CARD OF 'haulagelaw12.RowcodeDecodes'. -/
def rowcodeDecodesCard : Claim7 := { stood := { row := rowcodeDecodesRow, standIns := [], harness := (true, "04efbeaee63c1bc37aea444f78d3eb6c4e2ada9cd6891a1c5bc27b436cdea889"), looks := false }, kinds := [], alts := [], laidByText := true, laidKinds := [.data], laidTests := true, laidLooks := .later }
def RowcodeDecodesCardSaid : Prop := Claim7.holds Tryd.pinned (.plain (OpenSpec.ofChange rowcodeDecodesSpec)) rowcodeDecodesCard

/-- THE TIED CARD OF 'haulagelaw12.RowcodeBack'. -/
def rowcodeBackCard : Claim7 := { stood := { row := rowcodeBackRow, standIns := [], harness := (true, "04efbeaee63c1bc37aea444f78d3eb6c4e2ada9cd6891a1c5bc27b436cdea889"), looks := false }, kinds := [], alts := [], laidByText := true, laidKinds := [.data], laidTests := true, laidLooks := .later }
def RowcodeBackCardSaid : Prop := Claim7.holds Tryd.pinned (.plain (OpenSpec.ofChange rowcodeBackSpec)) rowcodeBackCard

/-- THE TIED CARD OF 'haulagelaw12.RowcodeTypes'. -/
def rowcodeTypesCard : Claim7 := { stood := { row := rowcodeTypesRow, standIns := [], harness := (true, "04efbeaee63c1bc37aea444f78d3eb6c4e2ada9cd6891a1c5bc27b436cdea889"), looks := false }, kinds := [], alts := [], laidByText := true, laidKinds := [.data], laidTests := true, laidLooks := .later }
def RowcodeTypesCardSaid : Prop := Claim7.holds Tryd.pinned (.plain (OpenSpec.ofChange rowcodeTypesSpec)) rowcodeTypesCard

/-- THE TIED CARD OF 'haulagelaw12.RowcodeKeys'. -/
def rowcodeKeysCard : Claim7 := { stood := { row := rowcodeKeysRow, standIns := [], harness := (true, "04efbeaee63c1bc37aea444f78d3eb6c4e2ada9cd6891a1c5bc27b436cdea889"), looks := false }, kinds := [], alts := [], laidByText := true, laidKinds := [.data], laidTests := true, laidLooks := .later }
def RowcodeKeysCardSaid : Prop := Claim7.holds Tryd.pinned (.plain (OpenSpec.ofChange rowcodeKeysSpec)) rowcodeKeysCard

/-- THE SECOND FORM's CARD OF 'haulagelaw12.RowcodeEncodes'. -/
def rowcodeEncodesUptoCard : Claim7 := { stood := { row := rowcodeEncodesUptoRow, standIns := [], harness := (true, "04efbeaee63c1bc37aea444f78d3eb6c4e2ada9cd6891a1c5bc27b436cdea889"), looks := false }, kinds := [], alts := [], laidByText := true, laidKinds := [.data], laidTests := true, laidLooks := .later }
def RowcodeEncodesUptoCardSaid : Prop := Claim7.holds Tryd.pinned (.plain (OpenSpec.upto rowcodeEncodesSpec)) rowcodeEncodesUptoCard

/-- THE SECOND FORM's CARD OF 'haulagelaw08.SchemaFills'. -/
def schemaFillsUptoCard : Claim7 := { stood := { row := schemaFillsUptoRow, standIns := [], harness := (true, "04efbeaee63c1bc37aea444f78d3eb6c4e2ada9cd6891a1c5bc27b436cdea889"), looks := false }, kinds := [], alts := [], laidByText := true, laidKinds := [.data], laidTests := true, laidLooks := .later }
def SchemaFillsUptoCardSaid : Prop := Claim7.holds Tryd.pinned (.plain (OpenSpec.upto schemaFillsSpec)) schemaFillsUptoCard

/-- THE SECOND FORM's CARD OF 'haulagelaw08.SchemaRight'. -/
def schemaRightUptoCard : Claim7 := { stood := { row := schemaRightUptoRow, standIns := [], harness := (true, "04efbeaee63c1bc37aea444f78d3eb6c4e2ada9cd6891a1c5bc27b436cdea889"), looks := false }, kinds := [], alts := [], laidByText := true, laidKinds := [.data], laidTests := true, laidLooks := .later }
def SchemaRightUptoCardSaid : Prop := Claim7.holds Tryd.pinned (.plain (OpenSpec.upto schemaRightSpec)) schemaRightUptoCard

/-- THE SECOND FORM's CARD OF 'haulagelaw08.SchemaRows'. -/
def schemaRowsUptoCard : Claim7 := { stood := { row := schemaRowsUptoRow, standIns := [], harness := (true, "04efbeaee63c1bc37aea444f78d3eb6c4e2ada9cd6891a1c5bc27b436cdea889"), looks := false }, kinds := [], alts := [], laidByText := true, laidKinds := [.data], laidTests := true, laidLooks := .later }
def SchemaRowsUptoCardSaid : Prop := Claim7.holds Tryd.pinned (.plain (OpenSpec.upto schemaRowsSpec)) schemaRowsUptoCard

/-- THE SECOND FORM's CARD OF 'haulagelaw08.SchemaSets'. -/
def schemaSetsUptoCard : Claim7 := { stood := { row := schemaSetsUptoRow, standIns := [], harness := (true, "04efbeaee63c1bc37aea444f78d3eb6c4e2ada9cd6891a1c5bc27b436cdea889"), looks := false }, kinds := [], alts := [], laidByText := true, laidKinds := [.data], laidTests := true, laidLooks := .later }
def SchemaSetsUptoCardSaid : Prop := Claim7.holds Tryd.pinned (.plain (OpenSpec.upto schemaSetsSpec)) schemaSetsUptoCard

/-- THE SECOND FORM's CARD OF 'haulagelaw08.SchemaFinds'. -/
def schemaFindsUptoCard : Claim7 := { stood := { row := schemaFindsUptoRow, standIns := [], harness := (true, "04efbeaee63c1bc37aea444f78d3eb6c4e2ada9cd6891a1c5bc27b436cdea889"), looks := false }, kinds := [], alts := [], laidByText := true, laidKinds := [.data], laidTests := true, laidLooks := .later }
def SchemaFindsUptoCardSaid : Prop := Claim7.holds Tryd.pinned (.plain (OpenSpec.upto schemaFindsSpec)) schemaFindsUptoCard

/-- THE SECOND FORM's CARD OF 'haulagelaw12.RowcodeDecodes'. -/
def rowcodeDecodesUptoCard : Claim7 := { stood := { row := rowcodeDecodesUptoRow, standIns := [], harness := (true, "04efbeaee63c1bc37aea444f78d3eb6c4e2ada9cd6891a1c5bc27b436cdea889"), looks := false }, kinds := [], alts := [], laidByText := true, laidKinds := [.data], laidTests := true, laidLooks := .later }
def RowcodeDecodesUptoCardSaid : Prop := Claim7.holds Tryd.pinned (.plain (OpenSpec.upto rowcodeDecodesSpec)) rowcodeDecodesUptoCard

/-- THE SECOND FORM's CARD OF 'haulagelaw12.RowcodeBack'. -/
def rowcodeBackUptoCard : Claim7 := { stood := { row := rowcodeBackUptoRow, standIns := [], harness := (true, "04efbeaee63c1bc37aea444f78d3eb6c4e2ada9cd6891a1c5bc27b436cdea889"), looks := false }, kinds := [], alts := [], laidByText := true, laidKinds := [.data], laidTests := true, laidLooks := .later }
def RowcodeBackUptoCardSaid : Prop := Claim7.holds Tryd.pinned (.plain (OpenSpec.upto rowcodeBackSpec)) rowcodeBackUptoCard

/-- THE SECOND FORM's CARD OF 'haulagelaw12.RowcodeTypes'. -/
def rowcodeTypesUptoCard : Claim7 := { stood := { row := rowcodeTypesUptoRow, standIns := [], harness := (true, "04efbeaee63c1bc37aea444f78d3eb6c4e2ada9cd6891a1c5bc27b436cdea889"), looks := false }, kinds := [], alts := [], laidByText := true, laidKinds := [.data], laidTests := true, laidLooks := .later }
def RowcodeTypesUptoCardSaid : Prop := Claim7.holds Tryd.pinned (.plain (OpenSpec.upto rowcodeTypesSpec)) rowcodeTypesUptoCard

/-- THE SECOND FORM's CARD OF 'haulagelaw12.RowcodeKeys'. -/
def rowcodeKeysUptoCard : Claim7 := { stood := { row := rowcodeKeysUptoRow, standIns := [], harness := (true, "04efbeaee63c1bc37aea444f78d3eb6c4e2ada9cd6891a1c5bc27b436cdea889"), looks := false }, kinds := [], alts := [], laidByText := true, laidKinds := [.data], laidTests := true, laidLooks := .later }
def RowcodeKeysUptoCardSaid : Prop := Claim7.holds Tryd.pinned (.plain (OpenSpec.upto rowcodeKeysSpec)) rowcodeKeysUptoCard
end Rows
end Go.Proofs.YtdeophpjammbpaaDoor
