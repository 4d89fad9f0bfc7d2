/-
  DERIVED. GIVEN WITH THE SEED: THE CARDS: each row of YtapjhgenjghfbaaDoorRows.lean that lists a variable, with what it lists TIED to the program's text (the seventh form; the later family's looks); each row that meets fmt, with fmt's text TOLD by the authors' own Lean function (tested against real Go, not proved from fmt's source: count such statements apart). THE CARD IS WHAT COUNTS. Prove the row's statement (the work); the ties are given (YtapjhgenjghfbaaDoorTie.lean); close each card by the builder's one call (the guide's Derived/Test/ToyasCard.lean, 'card_holds'). Laid BY PROGRAM, IN A SANDBOX (cutbox-door.mjs). By AI agents, Wed Nov 11 2026. No macro, syntax, notation, axiom, sorry.
-/
import Derived.Test.YtapjhgenjghfbaaDoorRows
import GoSem.ClaimSeven
namespace Go.Proofs.YtapjhgenjghfbaaDoor
namespace Rows

/-- THE TIED CARD OF 'haulagelaw02.SumTells'. -/
def sumTellsCard : Claim7 := { stood := { row := sumTellsRow, standIns := [], harness := (true, "c088491eb8f9c4653ba1e767cc742b9656e6cc5a1ecf4f894c56c4d98ef1efae"), looks := false }, kinds := [], alts := [], laidByText := true, laidKinds := [.data], laidTests := true, laidLooks := .later }
def SumTellsCardSaid : Prop := Claim7.holds Tryd.pinned (.plain (OpenSpec.ofChange sumTellsSpec)) sumTellsCard

/-- THE SECOND FORM's CARD OF 'haulagelaw02.SumTells'. -/
def sumTellsUptoCard : Claim7 := { stood := { row := sumTellsUptoRow, standIns := [], harness := (true, "c088491eb8f9c4653ba1e767cc742b9656e6cc5a1ecf4f894c56c4d98ef1efae"), looks := false }, kinds := [], alts := [], laidByText := true, laidKinds := [.data], laidTests := true, laidLooks := .later }
def SumTellsUptoCardSaid : Prop := Claim7.holds Tryd.pinned (.plain (OpenSpec.upto sumTellsSpec)) sumTellsUptoCard
end Rows
end Go.Proofs.YtapjhgenjghfbaaDoor
