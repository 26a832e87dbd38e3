/- A part of the proof. -/
import Derived.JoinedCond
import Derived.KernelRfl
import Derived.LaidByTextLater
import Derived.SevenTiedAt
import Derived.Test.YtiodgpibgiodcaaGreatDoorP00
import Derived.Test.YtiodgpibgiodcaaGreatDoorP23
import Derived.Test.YtiodgpibgiodcaaGreatDoorP24
import Derived.Test.YtiodgpibgiodcaaGreatDoorP25
set_option linter.all false
set_option maxHeartbeats 4000000
namespace Go.aj
open Go Go.Proofs Go.Proofs.Tryz Go.ChangeShapes Go.WideShapes Go.ChangeAt Go.RowKit
open Go.Proofs.YtiodgpibgiodcaaGreatDoor (Rows.strictSameUptoRow Rows.strictSameSpec Rows.StrictSameUptoSaid Rows.OpenSpec.upto)
set_option maxRecDepth 100000
def HN:prog.funcNamed "voussoir/voussoirlaw12.StrictSame" =some 5:=aq
theorem TW:joinedFacts prog 5 f5 (Rows.OpenSpec.upto Rows.strictSameSpec).bare jx=true:=by unfold joinedFacts;rw [TT,M0,TU,TV];kernel_rfl
end Go.aj
