/- A part of the proof: CLT6_0. -/
import Derived.Test.YtmjfdiohjflnnaaGreatDoorP04
import Derived.Test.YtmjfdiohjflnnaaGreatDoorP32
set_option linter.all false
namespace Go.PV
open Go Go.Proofs.Tryz
set_option maxRecDepth 1000000
noncomputable def lt6_0:BT FX:=(.node 26 (.leaf none) (.node 27 (.leaf (some (.prim (pCls [(ca26_0,cv26_0)])))) (.node 27 (.leaf none) (.node 28 (.leaf (some (.prim (pCls [(ca27_0,cv27_0),(ca27_1,cv27_1)])))) (.node 65 (.leaf none) (.node 66 (.leaf (some (.prim (pCls [(ca65_0,cv65_0)])))) (.node 67 (.leaf none) (.node 68 (.leaf (some (.prim (pCls [(ca67_0,cv67_0)])))) (.node 68 (.leaf none) (.node 69 (.leaf (some (.prim (pCls [(ca68_0,cv68_0)])))) (.node 105 (.leaf none) (.node 106 (.leaf (some (.prim (pCls [(ca105_0,cv105_0)])))) (.node 337 (.leaf none) (.node 338 (.leaf (some (.prim (pCls [(ca337_0,cv337_0)])))) (.leaf none)))))))))))))))
noncomputable def tab6_0:Nat→Option FX:=over lt6_0 ffs
theorem cl6_0:clOK ca6_0 cv6_0 (evalM E0 okd 100000 tab6_0 1000 6 ca6_0 Hp.empty)=true:=by decide+kernel
end Go.PV
