/-
  DERIVED. GIVEN WITH THE SEED: THE CARDS: each row of YtjkjpjbohiggaabDoorRows.lean that lists a variable, with what it lists TIED to the program's text (the seventh form; the later family's looks); each row that meets fmt, with fmt's text TOLD by the authors' own Lean function (tested against real Go, not proved from fmt's source: count such statements apart). THE CARD IS WHAT COUNTS. Prove the row's statement (the work); the ties are given (YtjkjpjbohiggaabDoorTie.lean); close each card by the builder's one call (the guide's Derived/Test/ToyasCard.lean, 'card_holds'). Laid BY PROGRAM, IN A SANDBOX (cutbox-door.mjs). By AI agents, Wed Nov 11 2026. No macro, syntax, notation, axiom, sorry.
-/
import Derived.Test.YtjkjpjbohiggaabDoorRows
import GoSem.ClaimSeven
namespace Go.Proofs.YtjkjpjbohiggaabDoor
namespace Rows

/-- THE TIED CARD OF 'haulagelaw26.OffsetBytes'. -/
def offsetBytesCard : Claim7 := { stood := { row := offsetBytesRow, standIns := [], harness := (true, "800d839767b361816701ef21c98fd074f7459ff90fa51da34a8b6cd0bd4a8b81"), looks := false }, kinds := [], alts := [], laidByText := true, laidKinds := [.data], laidTests := true, laidLooks := .later }
def OffsetBytesCardSaid : Prop := Claim7.holds Tryd.pinned (.plain (OpenSpec.ofChange offsetBytesSpec)) offsetBytesCard

/-- THE TIED CARD OF 'haulagelaw18.WalrecBytes'. -/
def walrecBytesCard : Claim7 := { stood := { row := walrecBytesRow, standIns := [], harness := (true, "800d839767b361816701ef21c98fd074f7459ff90fa51da34a8b6cd0bd4a8b81"), looks := false }, kinds := [], alts := [], laidByText := true, laidKinds := [.data], laidTests := true, laidLooks := .later }
def WalrecBytesCardSaid : Prop := Claim7.holds Tryd.pinned (.plain (OpenSpec.ofChange walrecBytesSpec)) walrecBytesCard

/-- THE TIED CARD OF 'haulagelaw18.WalrecBack'. -/
def walrecBackCard : Claim7 := { stood := { row := walrecBackRow, standIns := [], harness := (true, "800d839767b361816701ef21c98fd074f7459ff90fa51da34a8b6cd0bd4a8b81"), looks := false }, kinds := [], alts := [], laidByText := true, laidKinds := [.data], laidTests := true, laidLooks := .later }
def WalrecBackCardSaid : Prop := Claim7.holds Tryd.pinned (.plain (OpenSpec.ofChange walrecBackSpec)) walrecBackCard

/-- THE SECOND FORM's CARD OF 'haulagelaw26.OffsetBytes'. -/
def offsetBytesUptoCard : Claim7 := { stood := { row := offsetBytesUptoRow, standIns := [], harness := (true, "800d839767b361816701ef21c98fd074f7459ff90fa51da34a8b6cd0bd4a8b81"), looks := false }, kinds := [], alts := [], laidByText := true, laidKinds := [.data], laidTests := true, laidLooks := .later }
def OffsetBytesUptoCardSaid : Prop := Claim7.holds Tryd.pinned (.plain (OpenSpec.upto offsetBytesSpec)) offsetBytesUptoCard

/-- THE SECOND FORM's CARD OF 'haulagelaw18.WalrecBytes'. -/
def walrecBytesUptoCard : Claim7 := { stood := { row := walrecBytesUptoRow, standIns := [], harness := (true, "800d839767b361816701ef21c98fd074f7459ff90fa51da34a8b6cd0bd4a8b81"), looks := false }, kinds := [], alts := [], laidByText := true, laidKinds := [.data], laidTests := true, laidLooks := .later }
def WalrecBytesUptoCardSaid : Prop := Claim7.holds Tryd.pinned (.plain (OpenSpec.upto walrecBytesSpec)) walrecBytesUptoCard

/-- THE SECOND FORM's CARD OF 'haulagelaw18.WalrecBack'. -/
def walrecBackUptoCard : Claim7 := { stood := { row := walrecBackUptoRow, standIns := [], harness := (true, "800d839767b361816701ef21c98fd074f7459ff90fa51da34a8b6cd0bd4a8b81"), looks := false }, kinds := [], alts := [], laidByText := true, laidKinds := [.data], laidTests := true, laidLooks := .later }
def WalrecBackUptoCardSaid : Prop := Claim7.holds Tryd.pinned (.plain (OpenSpec.upto walrecBackSpec)) walrecBackUptoCard
end Rows
end Go.Proofs.YtjkjpjbohiggaabDoor
