/-
  DERIVED. GIVEN WITH THE SEED: THE CARDS: each row of YtmmgkehhckhdcaaGreatDoorRows.lean that lists a variable, with what it lists TIED to the program's text (the seventh form; the later family's looks); each row that meets fmt, with fmt's text TOLD by the authors' own Lean function (tested against real Go, not proved from fmt's source: count such statements apart). THE CARD IS WHAT COUNTS. Prove the row's statement (the work); the ties are given (YtmmgkehhckhdcaaGreatDoorTie.lean); close each card by the builder's one call (the guide's Derived/Test/ToyasCard.lean, 'card_holds'). Laid BY PROGRAM, IN A SANDBOX (cutbox-door.mjs). By AI agents, Wed Nov 11 2026. No macro, syntax, notation, axiom, sorry.
-/
import Derived.Test.YtmmgkehhckhdcaaGreatDoorRows
import GoSem.ClaimSeven
namespace Go.Proofs.YtmmgkehhckhdcaaGreatDoor
namespace Rows

/-- THE TIED CARD OF 'galleytop.TopEnded'. -/
def topEndedCard : Claim7 := { stood := { row := topEndedRow, standIns := [], harness := (true, "4c9b68fd106e1c46b286d5812592f73c46e157699e1b61f603728d9d7d8e9395"), looks := true }, kinds := [], alts := [], laidByText := true, laidKinds := [.pinned, .data, .data, .data, .data], laidTests := true, laidLooks := .later }
def TopEndedCardSaid : Prop := Claim7.holds Tryz.pinned (.plain (OpenSpec.ofChange topEndedSpec)) topEndedCard

/-- THE SECOND FORM's CARD OF 'galleytop.TopEnded'. -/
def topEndedUptoCard : Claim7 := { stood := { row := topEndedUptoRow, standIns := [], harness := (true, "4c9b68fd106e1c46b286d5812592f73c46e157699e1b61f603728d9d7d8e9395"), looks := true }, kinds := [], alts := [], laidByText := true, laidKinds := [.pinned, .data, .data, .data, .data], laidTests := true, laidLooks := .later }
def TopEndedUptoCardSaid : Prop := Claim7.holds Tryz.pinned (.plain (OpenSpec.upto topEndedSpec)) topEndedUptoCard
end Rows
end Go.Proofs.YtmmgkehhckhdcaaGreatDoor
