/- A part of the proof. -/
import Derived.JoinedCond
import Derived.KernelRfl
import Derived.LaidByTextLater
import Derived.SevenTiedAt
import Derived.Test.YtiodgpibgiodcaaGreatDoorP00
import Derived.Test.YtiodgpibgiodcaaGreatDoorP22
set_option linter.all false
set_option maxHeartbeats 4000000
namespace Go.aj
open Go Go.Proofs Go.Proofs.Tryz Go.ChangeShapes Go.WideShapes Go.ChangeAt Go.RowKit
open Go.Proofs.YtiodgpibgiodcaaGreatDoor (Rows.strictSameUptoRow Rows.strictSameSpec Rows.StrictSameUptoSaid Rows.OpenSpec.upto)
set_option maxRecDepth 100000
theorem TT:(jx.inPlace==prog.inPlace 5)=true:=by unfold Program.inPlace;rw [Bt];kernel_rfl
end Go.aj
