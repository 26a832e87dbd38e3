/- A part of the proof: CJ2. -/
import Derived.JoinedCond
import Derived.LaidByTextLater
import Derived.SevenTiedAt
import Derived.Test.YtmjfdiohjflnnaaGreatDoorRows
import GoSem.ClaimSeven
set_option linter.all false
namespace Go.PV
open Go Go.Proofs
open Go.Proofs.YtmjfdiohjflnnaaGreatDoor (Rows.spaceWaysRow Rows.spaceWaysSpec)
set_option maxRecDepth 100000
end Go.PV
