/-
  DERIVED. GIVEN WITH THE SEED: THE CARDS: each row of YtmjfdiohjflnnaaGreatDoorRows.lean that lists a variable, with what it lists TIED to the program's text (the seventh form; the later family's looks); each row that meets fmt, with fmt's text TOLD by the authors' own Lean function (tested against real Go, not proved from fmt's source: count such statements apart). THE CARD IS WHAT COUNTS. Prove the row's statement (the work); the ties are given (YtmjfdiohjflnnaaGreatDoorTie.lean); close each card by the builder's one call (the guide's Derived/Test/ToyasCard.lean, 'card_holds'). Laid BY PROGRAM, IN A SANDBOX (cutbox-door.mjs). By AI agents, Wed Nov 11 2026. No macro, syntax, notation, axiom, sorry.
-/
import Derived.Test.YtmjfdiohjflnnaaGreatDoorRows
import GoSem.ClaimSeven
namespace Go.Proofs.YtmjfdiohjflnnaaGreatDoor
namespace Rows

/-- THE TIED CARD OF 'voussoirlaw26.SpaceWalks'. -/
def spaceWalksCard : Claim7 := { stood := { row := spaceWalksRow, standIns := [], harness := (true, "b5f1a488004e4e40a579d1d4dca9f81167856f68a327efc5b61bdfe0942cb7c1"), looks := true }, kinds := [], alts := [], laidByText := true, laidKinds := [.data, .listed, .data, .data, .data], laidTests := true, laidLooks := .later }
def SpaceWalksCardSaid : Prop := Claim7.holds Tryz.pinned (.plain (OpenSpec.ofChange spaceWalksSpec)) spaceWalksCard

/-- THE TIED CARD OF 'voussoirlaw26.SpaceWays'. -/
def spaceWaysCard : Claim7 := { stood := { row := spaceWaysRow, standIns := [], harness := (true, "b5f1a488004e4e40a579d1d4dca9f81167856f68a327efc5b61bdfe0942cb7c1"), looks := true }, kinds := [], alts := [], laidByText := true, laidKinds := [.data, .listed, .data, .data, .data], laidTests := true, laidLooks := .later }
def SpaceWaysCardSaid : Prop := Claim7.holds Tryz.pinned (.plain (OpenSpec.ofChange spaceWaysSpec)) spaceWaysCard

/-- THE SECOND FORM's CARD OF 'voussoirlaw26.SpaceWalks'. -/
def spaceWalksUptoCard : Claim7 := { stood := { row := spaceWalksUptoRow, standIns := [], harness := (true, "b5f1a488004e4e40a579d1d4dca9f81167856f68a327efc5b61bdfe0942cb7c1"), looks := true }, kinds := [], alts := [], laidByText := true, laidKinds := [.data, .listed, .data, .data, .data], laidTests := true, laidLooks := .later }
def SpaceWalksUptoCardSaid : Prop := Claim7.holds Tryz.pinned (.plain (OpenSpec.upto spaceWalksSpec)) spaceWalksUptoCard

/-- THE SECOND FORM's CARD OF 'voussoirlaw26.SpaceWays'. -/
def spaceWaysUptoCard : Claim7 := { stood := { row := spaceWaysUptoRow, standIns := [], harness := (true, "b5f1a488004e4e40a579d1d4dca9f81167856f68a327efc5b61bdfe0942cb7c1"), looks := true }, kinds := [], alts := [], laidByText := true, laidKinds := [.data, .listed, .data, .data, .data], laidTests := true, laidLooks := .later }
def SpaceWaysUptoCardSaid : Prop := Claim7.holds Tryz.pinned (.plain (OpenSpec.upto spaceWaysSpec)) spaceWaysUptoCard
end Rows
end Go.Proofs.YtmjfdiohjflnnaaGreatDoor
