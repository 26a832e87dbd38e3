/- A part of the proof: CLT337_0. -/
import Derived.Test.YtmjfdiohjflnnaaGreatDoorP04
import Derived.Test.YtmjfdiohjflnnaaGreatDoorP32
set_option linter.all false
namespace Go.PV
open Go Go.Proofs.Tryz
set_option maxRecDepth 1000000
noncomputable def lt337_0:BT FX:=(.leaf none)
noncomputable def tab337_0:Nat→Option FX:=over lt337_0 ffs
theorem cl337_0:clOK ca337_0 cv337_0 (evalM E0 okd 100000 tab337_0 1000 337 ca337_0 Hp.empty)=true:=by decide+kernel
end Go.PV
