/-
  DERIVED. GIVEN WITH THE SEED: THE CARDS: each row of YteijffflinnccaaDoorRows.lean that lists a variable, with what it lists TIED to the program's text (the seventh form; the later family's looks); each row that meets fmt, with fmt's text TOLD by the authors' own Lean function (tested against real Go, not proved from fmt's source: count such statements apart). THE CARD IS WHAT COUNTS. Prove the row's statement (the work); the ties are given (YteijffflinnccaaDoorTie.lean); close each card by the builder's one call (the guide's Derived/Test/ToyasCard.lean, 'card_holds'). Laid BY PROGRAM, IN A SANDBOX (cutbox-door.mjs). By AI agents, Wed Nov 11 2026. No macro, syntax, notation, axiom, sorry.
-/
import Derived.Test.YteijffflinnccaaDoorRows
import GoSem.ClaimSeven
namespace Go.Proofs.YteijffflinnccaaDoor
namespace Rows

/-- THE TIED CARD OF 'castellanlaw17.PlaceOrders'. -/
def placeOrdersCard : Claim7 := { stood := { row := placeOrdersRow, standIns := [], harness := (true, "c1913798d59323dfe8bd0f3e101821735fd2cb2f61b26099deb1af5012b3b576"), looks := true }, kinds := [], alts := [], laidByText := true, laidKinds := [.handle], laidTests := true, laidLooks := .later }
def PlaceOrdersCardSaid : Prop := Claim7.holds Tryd.pinned (.plain (OpenSpec.ofChange placeOrdersSpec)) placeOrdersCard

/-- THE TIED CARD OF 'castellanlaw17.PlaceAssigns'. -/
def placeAssignsCard : Claim7 := { stood := { row := placeAssignsRow, standIns := [], harness := (true, "c1913798d59323dfe8bd0f3e101821735fd2cb2f61b26099deb1af5012b3b576"), looks := true }, kinds := [], alts := [], laidByText := true, laidKinds := [.handle], laidTests := true, laidLooks := .later }
def PlaceAssignsCardSaid : Prop := Claim7.holds Tryd.pinned (.plain (OpenSpec.ofChange placeAssignsSpec)) placeAssignsCard

/-- THE SECOND FORM's CARD OF 'castellanlaw17.PlaceOrders'. -/
def placeOrdersUptoCard : Claim7 := { stood := { row := placeOrdersUptoRow, standIns := [], harness := (true, "c1913798d59323dfe8bd0f3e101821735fd2cb2f61b26099deb1af5012b3b576"), looks := true }, kinds := [], alts := [], laidByText := true, laidKinds := [.handle], laidTests := true, laidLooks := .later }
def PlaceOrdersUptoCardSaid : Prop := Claim7.holds Tryd.pinned (.plain (OpenSpec.upto placeOrdersSpec)) placeOrdersUptoCard

/-- THE SECOND FORM's CARD OF 'castellanlaw17.PlaceAssigns'. -/
def placeAssignsUptoCard : Claim7 := { stood := { row := placeAssignsUptoRow, standIns := [], harness := (true, "c1913798d59323dfe8bd0f3e101821735fd2cb2f61b26099deb1af5012b3b576"), looks := true }, kinds := [], alts := [], laidByText := true, laidKinds := [.handle], laidTests := true, laidLooks := .later }
def PlaceAssignsUptoCardSaid : Prop := Claim7.holds Tryd.pinned (.plain (OpenSpec.upto placeAssignsSpec)) placeAssignsUptoCard
end Rows
end Go.Proofs.YteijffflinnccaaDoor
