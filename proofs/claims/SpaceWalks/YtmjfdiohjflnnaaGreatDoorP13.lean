/- A part of the proof: WJ2. -/
import Derived.JoinedCond
import Derived.LaidByTextLater
import Derived.SevenTiedAt
import Derived.Test.YtmjfdiohjflnnaaGreatDoorRows
import GoSem.ClaimSeven
set_option linter.all false
namespace Go.PV
open Go Go.Proofs
open Go.Proofs.YtmjfdiohjflnnaaGreatDoor (Rows.spaceWalksUptoRow Rows.spaceWalksSpec Rows.OpenSpec.upto)
set_option maxRecDepth 100000
theorem j1':Rows.spaceWalksUptoRow.wf (OpenSpec.ofChange (Rows.OpenSpec.upto Rows.spaceWalksSpec).bare)=true:=by kernel_rfl
theorem j3':mapsRowed Tryz.prog=true:=by kernel_rfl
theorem j4':Tryz.f3.params.all (Tryz.prog.readableRec ·)=true:=by kernel_rfl
theorem j5':namedTie Tryz.prog Rows.spaceWalksUptoRow.named (Rows.OpenSpec.upto Rows.spaceWalksSpec).bare.vars=true:=by kernel_rfl
theorem j6':((Rows.spaceWalksUptoRow.stops== [])&&(Tryz.prog.stops== [])&&(Rows.spaceWalksUptoRow.knobs== [])&&(Tryz.prog.stopKnobs== []))=true:=by kernel_rfl
theorem j14':(Rows.spaceWalksUptoRow.maps==(Tryz.f3.params.toList++(Rows.OpenSpec.upto Rows.spaceWalksSpec).bare.plain.varTypes Tryz.prog).any (Tryz.prog.mapsRec ·))=true:=by kernel_rfl
theorem j15':(Rows.spaceWalksUptoRow.ifaces==(Tryz.f3.params.toList++(Rows.OpenSpec.upto Rows.spaceWalksSpec).bare.plain.varTypes Tryz.prog).any (Tryz.prog.ifacesRec ·))=true:=by kernel_rfl
theorem j15b':(Rows.spaceWalksUptoRow.mapsOut==Tryz.prog.mapsAmong Tryz.f3.resultTypes.toList)=true:=by kernel_rfl
theorem j16':(Rows.spaceWalksUptoRow.loops==(Tryz.f3.params.toList++(Rows.OpenSpec.upto Rows.spaceWalksSpec).bare.plain.varTypes Tryz.prog).any (Tryz.prog.loopsFrom ·))=true:=by kernel_rfl
theorem j17':(Rows.spaceWalksUptoRow.wideKeys==(Tryz.f3.params.toList++(Rows.OpenSpec.upto Rows.spaceWalksSpec).bare.plain.varTypes Tryz.prog++Tryz.f3.resultTypes.toList).any (Tryz.prog.wideKeysFrom ·))=true:=by kernel_rfl
theorem j18':(Rows.OpenSpec.upto Rows.spaceWalksSpec).bare.vars.all (Tryz.prog.varReadable ·)=true:=by kernel_rfl
theorem j19':Tryz.f3.resultTypes.all (fun t=>Tryz.prog.readableRec t&&decide (t<Tryz.prog.types.size))=true:=by kernel_rfl
theorem j20':(Rows.spaceWalksUptoRow.ifacesOut==Tryz.f3.resultTypes.toList.any (Tryz.prog.ifacesRec ·))=true:=by kernel_rfl
theorem j21':(Rows.spaceWalksUptoRow.loopsOut==Tryz.f3.resultTypes.toList.any (Tryz.prog.loopsFrom ·))=true:=by kernel_rfl
theorem j22':(Rows.spaceWalksUptoRow.plainKeys==Tryz.prog.plainKeys)=true:=by kernel_rfl
theorem j23':Rows.spaceWalksUptoRow.shortTexts.isNone=true:=by kernel_rfl
theorem j23b':Tryz.prog.stopsHeard=true:=by kernel_rfl
theorem j24':Tryz.prog.mayEnter=true:=by kernel_rfl
theorem j24b':(Rows.spaceWalksUptoRow.lifted==Tryz.prog.liftsFinal)=true:=by kernel_rfl
theorem j24c':(Tryz.prog.make==some Rows.spaceWalksUptoRow.make)=true:=by kernel_rfl
theorem j25':(Rows.spaceWalksUptoRow.kinds==(if Rows.spaceWalksUptoRow.domain.isEmpty then [] else Tryz.f3.params.toList.map fun t=>match Tryz.prog.underlying t with|some (.int k)=>some k|_=>none))=true:=by kernel_rfl
theorem j26':(Rows.spaceWalksUptoRow.pinned==Rows.spaceWalksUptoRow.pinnedBy)=true:=by kernel_rfl
theorem j27':(Rows.spaceWalksUptoRow.veiled==(Tryz.f3.params.toList++(Rows.OpenSpec.upto Rows.spaceWalksSpec).bare.plain.varTypes Tryz.prog++Tryz.f3.resultTypes.toList).any (Tryz.prog.veiledRec ·))=true:=by kernel_rfl
theorem j28':Rows.spaceWalksUptoRow.veiledFits Tryz.prog Tryz.f3.params.toList (Tryz.f3.params.toList++(Rows.OpenSpec.upto Rows.spaceWalksSpec).bare.plain.varTypes Tryz.prog++Tryz.f3.resultTypes.toList)=true:=by kernel_rfl
end Go.PV
