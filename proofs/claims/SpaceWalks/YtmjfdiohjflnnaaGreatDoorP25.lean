/- A part of the proof: CT2. -/
import Derived.Test.YtmjfdiohjflnnaaGreatDoorP23
set_option linter.all false
namespace Go.PV
open Go Go.Proofs.YtmjfdiohjflnnaaGreatDoor Go.Proofs
set_option maxRecDepth 100000
theorem t6:varsNamedLaterB Tryz.prog (varsId Tryz.prog) laidL=true:=by kernel_rfl
theorem t7: ∀os tape,varsDone Tryz.prog 400 (varsId Tryz.prog) os tape=true:=fun _ _=>by kernel_rfl
end Go.PV
