/- A part of the proof: CT6. -/
import Derived.Test.YtmjfdiohjflnnaaGreatDoorP24
import Derived.Test.YtmjfdiohjflnnaaGreatDoorP25
import Derived.Test.YtmjfdiohjflnnaaGreatDoorP26
import Derived.Test.YtmjfdiohjflnnaaGreatDoorP27
import Derived.Test.YtmjfdiohjflnnaaGreatDoorP28
set_option linter.all false
namespace Go.PV
open Go Go.Proofs.YtmjfdiohjflnnaaGreatDoor Go.Proofs
set_option maxRecDepth 100000
theorem t9 (os:Os) (tape:Tape):(DataW.laidRun Tryz.prog (varsWorld Tryz.prog 400 (varsId Tryz.prog) os tape).memory 8 (laidL.map (·.1))).map (fun x=>decide x.2.Nodup&&laidRowsB Tryz.prog (varsWorld Tryz.prog 400 (varsId Tryz.prog) os tape).memory x.2)=some true:=by
 have h1:=t9a os tape;have h2:=t9b os tape;generalize DataW.laidRun Tryz.prog (varsWorld Tryz.prog 400 (varsId Tryz.prog) os tape).memory 8 (laidL.map (·.1))=o at h1 h2⊢
 cases o with
 |none=>cases h1
 | some x=>
   simp only [Option.map_some,Option.some.injEq] at h1 h2⊢;rw [h1,decide_eq_true (nodupB_ok _ _ h2).1];rfl
theorem tie:Tryz.prog.laidByTextLater laidL [.data,.listed,.data,.data,.data] true:=
 Program.laidByTextLater_by_run 400 8 t1 t2 t3 t4 t5 t6 t7 t8 t9 t10
theorem noOwnUnsafe:Tryz.pinned.checked.prog.headLifts.contains "ownunsafe" =false:=by kernel_rfl
end Go.PV
