/-
  DERIVED. GIVEN WITH THE SEED: THE CARDS: each row of YtmnheledelnbfaaGreatDoorRows.lean that lists a variable, with what it lists TIED to the program's text (the seventh form; the later family's looks); each row that meets fmt, with fmt's text TOLD by the authors' own Lean function (tested against real Go, not proved from fmt's source: count such statements apart). THE CARD IS WHAT COUNTS. Prove the row's statement (the work); the ties are given (YtmnheledelnbfaaGreatDoorTie.lean); close each card by the builder's one call (the guide's Derived/Test/ToyasCard.lean, 'card_holds'). Laid BY PROGRAM, IN A SANDBOX (cutbox-door.mjs). By AI agents, Wed Nov 11 2026. No macro, syntax, notation, axiom, sorry.
-/
import Derived.Test.YtmnheledelnbfaaGreatDoorRows
import GoSem.ClaimSeven
namespace Go.Proofs.YtmnheledelnbfaaGreatDoor
namespace Rows

/-- THE TIED CARD OF 'castellanlaw21.MoveDoes'. -/
def moveDoesCard : Claim7 := { stood := { row := moveDoesRow, standIns := [], harness := (true, "a89a0a087124dd5118489d1b39b4a1ca97184aa9d3e09ac8f1553dff4819426c"), looks := true }, kinds := [], alts := [], laidByText := true, laidKinds := [.handle], laidTests := true, laidLooks := .later }
def MoveDoesCardSaid : Prop := Claim7.holds Tryz.pinned (.plain (OpenSpec.ofChange moveDoesSpec)) moveDoesCard

/-- THE SECOND FORM's CARD OF 'castellanlaw21.MoveDoes'. -/
def moveDoesUptoCard : Claim7 := { stood := { row := moveDoesUptoRow, standIns := [], harness := (true, "a89a0a087124dd5118489d1b39b4a1ca97184aa9d3e09ac8f1553dff4819426c"), looks := true }, kinds := [], alts := [], laidByText := true, laidKinds := [.handle], laidTests := true, laidLooks := .later }
def MoveDoesUptoCardSaid : Prop := Claim7.holds Tryz.pinned (.plain (OpenSpec.upto moveDoesSpec)) moveDoesUptoCard
end Rows
end Go.Proofs.YtmnheledelnbfaaGreatDoor
