/-
  DERIVED. GIVEN WITH THE SEED: THE CARDS: each row of YtiodgpibgiodcaaGreatDoorRows.lean that lists a variable, with what it lists TIED to the program's text (the seventh form; the later family's looks); each row that meets fmt, with fmt's text TOLD by the authors' own Lean function (tested against real Go, not proved from fmt's source: count such statements apart). THE CARD IS WHAT COUNTS. Prove the row's statement (the work); the ties are given (YtiodgpibgiodcaaGreatDoorTie.lean); close each card by the builder's one call (the guide's Derived/Test/ToyasCard.lean, 'card_holds'). Laid BY PROGRAM, IN A SANDBOX (cutbox-door.mjs). By AI agents, Wed Nov 11 2026. No macro, syntax, notation, axiom, sorry.
-/
import Derived.Test.YtiodgpibgiodcaaGreatDoorRows
import GoSem.ClaimSeven
namespace Go.Proofs.YtiodgpibgiodcaaGreatDoor
namespace Rows

/-- THE TIED CARD OF 'voussoirlaw12.StrictBack'. -/
def strictBackCard : Claim7 := { stood := { row := strictBackRow, standIns := [], harness := (true, "c999629ddbffd4a861e87cde4a9a00c073eef9b74aa92e72e4e4610c734d597e"), looks := true }, kinds := [], alts := [], laidByText := true, laidKinds := [.data, .data, .data, .listed, .data], laidTests := true, laidLooks := .later }
def StrictBackCardSaid : Prop := Claim7.holds Tryz.pinned (.plain (OpenSpec.ofChange strictBackSpec)) strictBackCard

/-- THE TIED CARD OF 'voussoirlaw12.StrictOnce'. -/
def strictOnceCard : Claim7 := { stood := { row := strictOnceRow, standIns := [], harness := (true, "c999629ddbffd4a861e87cde4a9a00c073eef9b74aa92e72e4e4610c734d597e"), looks := true }, kinds := [], alts := [], laidByText := true, laidKinds := [.data, .data, .data, .listed, .data], laidTests := true, laidLooks := .later }
def StrictOnceCardSaid : Prop := Claim7.holds Tryz.pinned (.plain (OpenSpec.ofChange strictOnceSpec)) strictOnceCard

/-- THE TIED CARD OF 'voussoirlaw12.StrictSame'. -/
def strictSameCard : Claim7 := { stood := { row := strictSameRow, standIns := [], harness := (true, "c999629ddbffd4a861e87cde4a9a00c073eef9b74aa92e72e4e4610c734d597e"), looks := true }, kinds := [], alts := [], laidByText := true, laidKinds := [.data, .data, .data, .listed, .data], laidTests := true, laidLooks := .later }
def StrictSameCardSaid : Prop := Claim7.holds Tryz.pinned (.plain (OpenSpec.ofChange strictSameSpec)) strictSameCard

/-- THE TIED CARD OF 'voussoirlaw12.StrictTurns'. -/
def strictTurnsCard : Claim7 := { stood := { row := strictTurnsRow, standIns := [], harness := (true, "c999629ddbffd4a861e87cde4a9a00c073eef9b74aa92e72e4e4610c734d597e"), looks := true }, kinds := [], alts := [], laidByText := true, laidKinds := [.data, .data, .data, .listed, .data], laidTests := true, laidLooks := .later }
def StrictTurnsCardSaid : Prop := Claim7.holds Tryz.pinned (.plain (OpenSpec.ofChange strictTurnsSpec)) strictTurnsCard

/-- THE SECOND FORM's CARD OF 'voussoirlaw12.StrictBack'. -/
def strictBackUptoCard : Claim7 := { stood := { row := strictBackUptoRow, standIns := [], harness := (true, "c999629ddbffd4a861e87cde4a9a00c073eef9b74aa92e72e4e4610c734d597e"), looks := true }, kinds := [], alts := [], laidByText := true, laidKinds := [.data, .data, .data, .listed, .data], laidTests := true, laidLooks := .later }
def StrictBackUptoCardSaid : Prop := Claim7.holds Tryz.pinned (.plain (OpenSpec.upto strictBackSpec)) strictBackUptoCard

/-- THE SECOND FORM's CARD OF 'voussoirlaw12.StrictOnce'. -/
def strictOnceUptoCard : Claim7 := { stood := { row := strictOnceUptoRow, standIns := [], harness := (true, "c999629ddbffd4a861e87cde4a9a00c073eef9b74aa92e72e4e4610c734d597e"), looks := true }, kinds := [], alts := [], laidByText := true, laidKinds := [.data, .data, .data, .listed, .data], laidTests := true, laidLooks := .later }
def StrictOnceUptoCardSaid : Prop := Claim7.holds Tryz.pinned (.plain (OpenSpec.upto strictOnceSpec)) strictOnceUptoCard

/-- THE SECOND FORM's CARD OF 'voussoirlaw12.StrictSame'. -/
def strictSameUptoCard : Claim7 := { stood := { row := strictSameUptoRow, standIns := [], harness := (true, "c999629ddbffd4a861e87cde4a9a00c073eef9b74aa92e72e4e4610c734d597e"), looks := true }, kinds := [], alts := [], laidByText := true, laidKinds := [.data, .data, .data, .listed, .data], laidTests := true, laidLooks := .later }
def StrictSameUptoCardSaid : Prop := Claim7.holds Tryz.pinned (.plain (OpenSpec.upto strictSameSpec)) strictSameUptoCard

/-- THE SECOND FORM's CARD OF 'voussoirlaw12.StrictTurns'. -/
def strictTurnsUptoCard : Claim7 := { stood := { row := strictTurnsUptoRow, standIns := [], harness := (true, "c999629ddbffd4a861e87cde4a9a00c073eef9b74aa92e72e4e4610c734d597e"), looks := true }, kinds := [], alts := [], laidByText := true, laidKinds := [.data, .data, .data, .listed, .data], laidTests := true, laidLooks := .later }
def StrictTurnsUptoCardSaid : Prop := Claim7.holds Tryz.pinned (.plain (OpenSpec.upto strictTurnsSpec)) strictTurnsUptoCard
end Rows
end Go.Proofs.YtiodgpibgiodcaaGreatDoor
