/- A part of the proof: WJ3. -/
import Derived.Test.YtmjfdiohjflnnaaGreatDoorP15
import Derived.Test.YtmjfdiohjflnnaaGreatDoorP16
set_option linter.all false
namespace Go.PV
open Go Go.Proofs
open Go.Proofs.YtmjfdiohjflnnaaGreatDoor (Rows.spaceWalksUptoRow Rows.spaceWalksSpec)
set_option maxRecDepth 100000
theorem cloB':cloL3.all (fun g=>Nat.blt g 550)=true:=by kernel_rfl
theorem clo_lt' {g:Nat} (h:g∈cloL3):g<550:=by have:=List.all_eq_true.1 cloB' g h;exact Nat.le_of_ble_eq_true this
theorem ipR':(Rows.spaceWalksUptoRow.inPlace==cloL3.filterMap fun g=>(match Nat.beq ((ipM>>>g)%2) 1 with
 |true=>(Tryz.prog.funcs[g]?).map (·.name)
 |false=>none))=true:=by kernel_rfl
theorem j10':(Rows.spaceWalksUptoRow.inPlace==Tryz.prog.inPlace 3)=true:=by unfold Program.inPlace;rw [clo3,filterMap_congr' fun g hg=>ipQ g (clo_lt' hg)];exact ipR'
theorem unfW':156∈cloL3:=by decide+kernel
theorem unf':Tryz.prog.unfollowed 3=true:=by unfold Program.unfollowed;rw [clo3];exact List.any_eq_true.2 ⟨156,unfW',unfF⟩
theorem j11':(Rows.spaceWalksUptoRow.unfollowed==Tryz.prog.unfollowed 3)=true:=by rw [unf'];rfl
theorem j12':(Rows.spaceWalksUptoRow.recurses==Tryz.prog.recurses 3)=true:=by unfold Program.recurses;rw [unf'];rfl
theorem vnR':(Rows.spaceWalksUptoRow.named==(((cloL3.flatMap fun g=>lk glT g).eraseDups).filterMap (fun g=>(Tryz.prog.globals[g]?).map (·.name))++cloL3.filterMap fun g=>lkS erT g).eraseDups)=true:=by kernel_rfl
theorem j13':(Rows.spaceWalksUptoRow.named==Tryz.prog.varsNamed 3)=true:=by unfold Program.varsNamed;rw [clo3,flatMap_congr' fun g hg=>glQ g (clo_lt' hg),filterMap_congr' fun g hg=>erQ g (clo_lt' hg)];exact vnR'
theorem fnm':Tryz.prog.funcNamed Rows.spaceWalksUptoRow.func=some 3:=by kernel_rfl
theorem goes':false=Rows.spaceWalksUptoRow.goesBy Tryz.prog:=goesBy_none goesQ rfl
end Go.PV
