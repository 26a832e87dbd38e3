/- A part of the proof: CLT26_0. -/
import Derived.Test.YtmjfdiohjflnnaaGreatDoorP04
import Derived.Test.YtmjfdiohjflnnaaGreatDoorP32
set_option linter.all false
namespace Go.PV
open Go Go.Proofs.Tryz
set_option maxRecDepth 1000000
noncomputable def lt26_0:BT FX:=(.node 65 (.leaf none) (.node 66 (.leaf (some (.prim (pCls [(ca65_0,cv65_0)])))) (.node 105 (.leaf none) (.node 106 (.leaf (some (.prim (pCls [(ca105_0,cv105_0)])))) (.node 337 (.leaf none) (.node 338 (.leaf (some (.prim (pCls [(ca337_0,cv337_0)])))) (.leaf none)))))))
noncomputable def tab26_0:Nat→Option FX:=over lt26_0 ffs
theorem cl26_0:clOK ca26_0 cv26_0 (evalM E0 okd 100000 tab26_0 1000 26 ca26_0 Hp.empty)=true:=by decide+kernel
end Go.PV
