/- A part of the proof: SC. -/
import Derived.Test.YtmjfdiohjflnnaaGreatDoorP07
set_option linter.all false
namespace Go.PV
open Go Go.Proofs.Tryz
set_option maxRecDepth 100000
noncomputable abbrev X1 (f n:Nat) (fn:Func):FX:=kX E0 okd f 1 n (gtabD 1) (stabD 1) fn
abbrev Z1 (f n:Nat) (fn:Func):Prop:=fxOK E0 prog okd f (X1 f n fn)
theorem Y1 {f n:Nat} {fn:Func} (hf:E0.fns f=some fn) (h:kOKB E0 f 1 n (gtabD 1) fn=true):Z1 f n fn:=kX_ok E0 okd f 1 n (gtabD 1) (stabD 1) (gtabD_ok 1) (stabD_ok 1) fn rfl hf h
noncomputable abbrev X2 (f n:Nat) (fn:Func):FX:=kX E0 okd f 2 n (gtabD 2) (stabD 2) fn
abbrev Z2 (f n:Nat) (fn:Func):Prop:=fxOK E0 prog okd f (X2 f n fn)
theorem Y2 {f n:Nat} {fn:Func} (hf:E0.fns f=some fn) (h:kOKB E0 f 2 n (gtabD 2) fn=true):Z2 f n fn:=kX_ok E0 okd f 2 n (gtabD 2) (stabD 2) (gtabD_ok 2) (stabD_ok 2) fn rfl hf h
noncomputable abbrev X3 (f n:Nat) (fn:Func):FX:=kX E0 okd f 3 n (gtabD 3) (stabD 3) fn
abbrev Z3 (f n:Nat) (fn:Func):Prop:=fxOK E0 prog okd f (X3 f n fn)
theorem Y3 {f n:Nat} {fn:Func} (hf:E0.fns f=some fn) (h:kOKB E0 f 3 n (gtabD 3) fn=true):Z3 f n fn:=kX_ok E0 okd f 3 n (gtabD 3) (stabD 3) (gtabD_ok 3) (stabD_ok 3) fn rfl hf h
end Go.PV
