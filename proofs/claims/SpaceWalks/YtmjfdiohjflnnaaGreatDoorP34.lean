/- A part of the proof: CLT105_0. -/
import Derived.Test.YtmjfdiohjflnnaaGreatDoorP04
import Derived.Test.YtmjfdiohjflnnaaGreatDoorP32
set_option linter.all false
namespace Go.PV
open Go Go.Proofs.Tryz
set_option maxRecDepth 1000000
noncomputable def lt105_0:BT FX:=(.node 337 (.leaf none) (.node 338 (.leaf (some (.prim (pCls [(ca337_0,cv337_0)])))) (.leaf none)))
noncomputable def tab105_0:Nat→Option FX:=over lt105_0 ffs
theorem cl105_0:clOK ca105_0 cv105_0 (evalM E0 okd 100000 tab105_0 1000 105 ca105_0 Hp.empty)=true:=by decide+kernel
end Go.PV
