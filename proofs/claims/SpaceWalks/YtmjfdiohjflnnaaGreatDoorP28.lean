/- A part of the proof: CT5. -/
import Derived.Test.YtmjfdiohjflnnaaGreatDoorP23
set_option linter.all false
namespace Go.PV
open Go Go.Proofs.YtmjfdiohjflnnaaGreatDoor Go.Proofs
set_option maxRecDepth 100000
theorem t9b: ∀os tape,(DataW.laidRun Tryz.prog (varsWorld Tryz.prog 400 (varsId Tryz.prog) os tape).memory 8 (laidL.map (·.1))).map (fun x=>nodupB x.2 0)=some true:=fun _ _=>by kernel_rfl
theorem t10:(laidL.all fun x=>x.2.handleName?.isNone)=true:=by kernel_rfl
end Go.PV
