/- A part of the proof: CT3. -/
import Derived.Test.YtmjfdiohjflnnaaGreatDoorP23
set_option linter.all false
namespace Go.PV
open Go Go.Proofs.YtmjfdiohjflnnaaGreatDoor Go.Proofs
set_option maxRecDepth 100000
theorem t8: ∀os tape,(DataW.laidRun Tryz.prog (varsWorld Tryz.prog 400 (varsId Tryz.prog) os tape).memory 8 (laidL.map (·.1))).map (·.1)=some laidL:=fun _ _=>by kernel_rfl
end Go.PV
