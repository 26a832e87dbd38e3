/- A part of the proof: SK. -/
import Derived.Test.YtmjfdiohjflnnaaGreatDoorP30
set_option linter.all false
namespace Go.PV
open Go Go.Proofs.Tryz
set_option maxRecDepth 100000
noncomputable def rX (f:Nat):Option FX:=match E0.fns f with
 |none=>none
 | some fn=>some (match Nat.ble fn.ntmps 8 with
   |true=>X1 f fn.ntmps fn
   | false=>match Nat.ble fn.ntmps 64 with
     |true=>X2 f fn.ntmps fn
     |false=>X3 f fn.ntmps fn)
noncomputable def kchk (f:Nat):Bool:=match E0.fns f with
 |none=>true
 | some fn=>match Nat.ble fn.ntmps 8 with
   |true=>kOKB E0 f 1 fn.ntmps (gtabD 1) fn
   | false=>match Nat.ble fn.ntmps 64 with
     |true=>kOKB E0 f 2 fn.ntmps (gtabD 2) fn
     |false=>kOKB E0 f 3 fn.ntmps (gtabD 3) fn
theorem kAll:(List.range 550).all kchk=true:=by decide+kernel
theorem rX_ok (f:Nat) (x:FX) (h:rX f=some x):fxOK E0 prog okd f x:=by
 unfold rX at h
 cases hf:E0.fns f with
 |none=>rw [hf] at h;cases h
 | some fn=>
   have hk:=List.all_eq_true.1 kAll f (List.mem_range.2 (upto_lt hf));unfold kchk at hk;rw [hf] at h hk;dsimp only at h hk
   cases h1:Nat.ble fn.ntmps 8 with
   |true=>rw [h1] at h hk;cases h;exact Y1 hf hk
   | false=>
     rw [h1] at h hk;dsimp only at h hk
     cases h2:Nat.ble fn.ntmps 64 with
     |true=>rw [h2] at h hk;cases h;exact Y2 hf hk
     |false=>rw [h2] at h hk;cases h;exact Y3 hf hk
end Go.PV
