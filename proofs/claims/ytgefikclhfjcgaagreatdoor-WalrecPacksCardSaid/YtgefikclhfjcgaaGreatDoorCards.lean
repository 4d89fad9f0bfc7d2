/-
  DERIVED. GIVEN WITH THE SEED: THE CARDS: each row of YtgefikclhfjcgaaGreatDoorRows.lean that lists a variable, with what it lists TIED to the program's text (the seventh form; the later family's looks); each row that meets fmt, with fmt's text TOLD by the authors' own Lean function (tested against real Go, not proved from fmt's source: count such statements apart). THE CARD IS WHAT COUNTS. Prove the row's statement (the work); the ties are given (YtgefikclhfjcgaaGreatDoorTie.lean); close each card by the builder's one call (the guide's Derived/Test/ToyasCard.lean, 'card_holds'). Laid BY PROGRAM, IN A SANDBOX (cutbox-door.mjs). By AI agents, Wed Nov 11 2026. No macro, syntax, notation, axiom, sorry.
-/
import Derived.Test.YtgefikclhfjcgaaGreatDoorRows
import GoSem.ClaimSeven
namespace Go.Proofs.YtgefikclhfjcgaaGreatDoor
namespace Rows

/-- THE TIED CARD OF 'haulagelaw18.WalrecPacks'. -/
def walrecPacksCard : Claim7 := { stood := { row := walrecPacksRow, standIns := [], harness := (true, "98f5b57fac156f444c825c2ca54e73adc11cb3ec09393e815cb1ac8bcf9166b7"), looks := false }, kinds := [], alts := [], laidByText := true, laidKinds := [.data, .data], laidTests := true, laidLooks := .later }
def WalrecPacksCardSaid : Prop := Claim7.holds Tryz.pinned (.plain (OpenSpec.ofChange walrecPacksSpec)) walrecPacksCard

/-- THE TIED CARD OF 'haulagelaw18.WalrecUnpacks'. -/
def walrecUnpacksCard : Claim7 := { stood := { row := walrecUnpacksRow, standIns := [], harness := (true, "98f5b57fac156f444c825c2ca54e73adc11cb3ec09393e815cb1ac8bcf9166b7"), looks := false }, kinds := [], alts := [], laidByText := true, laidKinds := [.data, .data], laidTests := true, laidLooks := .later }
def WalrecUnpacksCardSaid : Prop := Claim7.holds Tryz.pinned (.plain (OpenSpec.ofChange walrecUnpacksSpec)) walrecUnpacksCard

/-- THE SECOND FORM's CARD OF 'haulagelaw18.WalrecPacks'. -/
def walrecPacksUptoCard : Claim7 := { stood := { row := walrecPacksUptoRow, standIns := [], harness := (true, "98f5b57fac156f444c825c2ca54e73adc11cb3ec09393e815cb1ac8bcf9166b7"), looks := false }, kinds := [], alts := [], laidByText := true, laidKinds := [.data, .data], laidTests := true, laidLooks := .later }
def WalrecPacksUptoCardSaid : Prop := Claim7.holds Tryz.pinned (.plain (OpenSpec.upto walrecPacksSpec)) walrecPacksUptoCard

/-- THE SECOND FORM's CARD OF 'haulagelaw18.WalrecUnpacks'. -/
def walrecUnpacksUptoCard : Claim7 := { stood := { row := walrecUnpacksUptoRow, standIns := [], harness := (true, "98f5b57fac156f444c825c2ca54e73adc11cb3ec09393e815cb1ac8bcf9166b7"), looks := false }, kinds := [], alts := [], laidByText := true, laidKinds := [.data, .data], laidTests := true, laidLooks := .later }
def WalrecUnpacksUptoCardSaid : Prop := Claim7.holds Tryz.pinned (.plain (OpenSpec.upto walrecUnpacksSpec)) walrecUnpacksUptoCard
end Rows
end Go.Proofs.YtgefikclhfjcgaaGreatDoor
