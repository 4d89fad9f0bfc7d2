/-
  DERIVED. GIVEN WITH THE SEED: THE CARDS: each row of YtjkjpjbohiggaaaDoorRows.lean that lists a variable, with what it lists TIED to the program's text (the seventh form; the later family's looks); each row that meets fmt, with fmt's text TOLD by the authors' own Lean function (tested against real Go, not proved from fmt's source: count such statements apart). THE CARD IS WHAT COUNTS. Prove the row's statement (the work); the ties are given (YtjkjpjbohiggaaaDoorTie.lean); close each card by the builder's one call (the guide's Derived/Test/ToyasCard.lean, 'card_holds'). Laid BY PROGRAM, IN A SANDBOX (cutbox-door.mjs). By AI agents, Wed Nov 11 2026. No macro, syntax, notation, axiom, sorry.
-/
import Derived.Test.YtjkjpjbohiggaaaDoorRows
import GoSem.ClaimSeven
namespace Go.Proofs.YtjkjpjbohiggaaaDoor
namespace Rows

/-- THE TIED CARD OF 'haulagelaw02.SumOf'. -/
def sumOfCard : Claim7 := { stood := { row := sumOfRow, standIns := [], harness := (true, "a6d5ec5f99a64bc37aa53c313fda17e39d81f2bbdea9e1df55cecd86013fa15f"), looks := false }, kinds := [], alts := [], laidByText := true, laidKinds := [.data], laidTests := true, laidLooks := .later }
def SumOfCardSaid : Prop := Claim7.holds Tryd.pinned (.plain (OpenSpec.ofChange sumOfSpec)) sumOfCard

/-- THE TIED CARD OF 'haulagelaw02.SumMore'. -/
def sumMoreCard : Claim7 := { stood := { row := sumMoreRow, standIns := [], harness := (true, "a6d5ec5f99a64bc37aa53c313fda17e39d81f2bbdea9e1df55cecd86013fa15f"), looks := false }, kinds := [], alts := [], laidByText := true, laidKinds := [.data], laidTests := true, laidLooks := .later }
def SumMoreCardSaid : Prop := Claim7.holds Tryd.pinned (.plain (OpenSpec.ofChange sumMoreSpec)) sumMoreCard

/-- THE TIED CARD OF 'haulagelaw02.SumMixes'. -/
def sumMixesCard : Claim7 := { stood := { row := sumMixesRow, standIns := [], harness := (true, "a6d5ec5f99a64bc37aa53c313fda17e39d81f2bbdea9e1df55cecd86013fa15f"), looks := false }, kinds := [], alts := [], laidByText := true, laidKinds := [.data], laidTests := true, laidLooks := .later }
def SumMixesCardSaid : Prop := Claim7.holds Tryd.pinned (.plain (OpenSpec.ofChange sumMixesSpec)) sumMixesCard

/-- THE TIED CARD OF 'haulagelaw02.SumOpens'. -/
def sumOpensCard : Claim7 := { stood := { row := sumOpensRow, standIns := [], harness := (true, "a6d5ec5f99a64bc37aa53c313fda17e39d81f2bbdea9e1df55cecd86013fa15f"), looks := false }, kinds := [], alts := [], laidByText := true, laidKinds := [.data], laidTests := true, laidLooks := .later }
def SumOpensCardSaid : Prop := Claim7.holds Tryd.pinned (.plain (OpenSpec.ofChange sumOpensSpec)) sumOpensCard

/-- THE TIED CARD OF 'haulagelaw02.SumTells'. -/
def sumTellsCard : Claim7 := { stood := { row := sumTellsRow, standIns := [], harness := (true, "a6d5ec5f99a64bc37aa53c313fda17e39d81f2bbdea9e1df55cecd86013fa15f"), looks := false }, kinds := [], alts := [], laidByText := true, laidKinds := [.data], laidTests := true, laidLooks := .later }
def SumTellsCardSaid : Prop := Claim7.holds Tryd.pinned (.plain (OpenSpec.ofChange sumTellsSpec)) sumTellsCard

/-- THE TIED CARD OF 'haulagelaw18.WalrecWords'. -/
def walrecWordsCard : Claim7 := { stood := { row := walrecWordsRow, standIns := [], harness := (true, "a6d5ec5f99a64bc37aa53c313fda17e39d81f2bbdea9e1df55cecd86013fa15f"), looks := false }, kinds := [], alts := [], laidByText := true, laidKinds := [.data], laidTests := true, laidLooks := .later }
def WalrecWordsCardSaid : Prop := Claim7.holds Tryd.pinned (.plain (OpenSpec.ofChange walrecWordsSpec)) walrecWordsCard

/-- THE SECOND FORM's CARD OF 'haulagelaw02.SumOf'. -/
def sumOfUptoCard : Claim7 := { stood := { row := sumOfUptoRow, standIns := [], harness := (true, "a6d5ec5f99a64bc37aa53c313fda17e39d81f2bbdea9e1df55cecd86013fa15f"), looks := false }, kinds := [], alts := [], laidByText := true, laidKinds := [.data], laidTests := true, laidLooks := .later }
def SumOfUptoCardSaid : Prop := Claim7.holds Tryd.pinned (.plain (OpenSpec.upto sumOfSpec)) sumOfUptoCard

/-- THE SECOND FORM's CARD OF 'haulagelaw02.SumMore'. -/
def sumMoreUptoCard : Claim7 := { stood := { row := sumMoreUptoRow, standIns := [], harness := (true, "a6d5ec5f99a64bc37aa53c313fda17e39d81f2bbdea9e1df55cecd86013fa15f"), looks := false }, kinds := [], alts := [], laidByText := true, laidKinds := [.data], laidTests := true, laidLooks := .later }
def SumMoreUptoCardSaid : Prop := Claim7.holds Tryd.pinned (.plain (OpenSpec.upto sumMoreSpec)) sumMoreUptoCard

/-- THE SECOND FORM's CARD OF 'haulagelaw02.SumMixes'. -/
def sumMixesUptoCard : Claim7 := { stood := { row := sumMixesUptoRow, standIns := [], harness := (true, "a6d5ec5f99a64bc37aa53c313fda17e39d81f2bbdea9e1df55cecd86013fa15f"), looks := false }, kinds := [], alts := [], laidByText := true, laidKinds := [.data], laidTests := true, laidLooks := .later }
def SumMixesUptoCardSaid : Prop := Claim7.holds Tryd.pinned (.plain (OpenSpec.upto sumMixesSpec)) sumMixesUptoCard

/-- THE SECOND FORM's CARD OF 'haulagelaw02.SumOpens'. -/
def sumOpensUptoCard : Claim7 := { stood := { row := sumOpensUptoRow, standIns := [], harness := (true, "a6d5ec5f99a64bc37aa53c313fda17e39d81f2bbdea9e1df55cecd86013fa15f"), looks := false }, kinds := [], alts := [], laidByText := true, laidKinds := [.data], laidTests := true, laidLooks := .later }
def SumOpensUptoCardSaid : Prop := Claim7.holds Tryd.pinned (.plain (OpenSpec.upto sumOpensSpec)) sumOpensUptoCard

/-- THE SECOND FORM's CARD OF 'haulagelaw02.SumTells'. -/
def sumTellsUptoCard : Claim7 := { stood := { row := sumTellsUptoRow, standIns := [], harness := (true, "a6d5ec5f99a64bc37aa53c313fda17e39d81f2bbdea9e1df55cecd86013fa15f"), looks := false }, kinds := [], alts := [], laidByText := true, laidKinds := [.data], laidTests := true, laidLooks := .later }
def SumTellsUptoCardSaid : Prop := Claim7.holds Tryd.pinned (.plain (OpenSpec.upto sumTellsSpec)) sumTellsUptoCard

/-- THE SECOND FORM's CARD OF 'haulagelaw18.WalrecWords'. -/
def walrecWordsUptoCard : Claim7 := { stood := { row := walrecWordsUptoRow, standIns := [], harness := (true, "a6d5ec5f99a64bc37aa53c313fda17e39d81f2bbdea9e1df55cecd86013fa15f"), looks := false }, kinds := [], alts := [], laidByText := true, laidKinds := [.data], laidTests := true, laidLooks := .later }
def WalrecWordsUptoCardSaid : Prop := Claim7.holds Tryd.pinned (.plain (OpenSpec.upto walrecWordsSpec)) walrecWordsUptoCard
end Rows
end Go.Proofs.YtjkjpjbohiggaaaDoor
