/- A part of the proof: CJ2. -/
import Derived.JoinedCond
import Derived.LaidByTextLater
import Derived.SevenTiedAt
import Derived.Test.YtmjfdiohjflnnaaGreatDoorRows
import GoSem.ClaimSeven
set_option linter.all false
namespace Go.PV
open Go Go.Proofs
open Go.Proofs.YtmjfdiohjflnnaaGreatDoor (Rows.spaceWaysRow Rows.spaceWaysSpec)
set_option maxRecDepth 100000
theorem j1:Rows.spaceWaysRow.wf (OpenSpec.ofChange (OpenSpec.ofChange Rows.spaceWaysSpec).bare)=true:=by kernel_rfl
theorem j3:mapsRowed Tryz.prog=true:=by kernel_rfl
theorem j4:Tryz.f4.params.all (Tryz.prog.readableRec ·)=true:=by kernel_rfl
theorem j5:namedTie Tryz.prog Rows.spaceWaysRow.named (OpenSpec.ofChange Rows.spaceWaysSpec).bare.vars=true:=by kernel_rfl
theorem j6:((Rows.spaceWaysRow.stops== [])&&(Tryz.prog.stops== [])&&(Rows.spaceWaysRow.knobs== [])&&(Tryz.prog.stopKnobs== []))=true:=by kernel_rfl
theorem j14:(Rows.spaceWaysRow.maps==(Tryz.f4.params.toList++(OpenSpec.ofChange Rows.spaceWaysSpec).bare.plain.varTypes Tryz.prog).any (Tryz.prog.mapsRec ·))=true:=by kernel_rfl
theorem j15:(Rows.spaceWaysRow.ifaces==(Tryz.f4.params.toList++(OpenSpec.ofChange Rows.spaceWaysSpec).bare.plain.varTypes Tryz.prog).any (Tryz.prog.ifacesRec ·))=true:=by kernel_rfl
theorem j15b:(Rows.spaceWaysRow.mapsOut==Tryz.prog.mapsAmong Tryz.f4.resultTypes.toList)=true:=by kernel_rfl
theorem j16:(Rows.spaceWaysRow.loops==(Tryz.f4.params.toList++(OpenSpec.ofChange Rows.spaceWaysSpec).bare.plain.varTypes Tryz.prog).any (Tryz.prog.loopsFrom ·))=true:=by kernel_rfl
theorem j17:(Rows.spaceWaysRow.wideKeys==(Tryz.f4.params.toList++(OpenSpec.ofChange Rows.spaceWaysSpec).bare.plain.varTypes Tryz.prog++Tryz.f4.resultTypes.toList).any (Tryz.prog.wideKeysFrom ·))=true:=by kernel_rfl
theorem j18:(OpenSpec.ofChange Rows.spaceWaysSpec).bare.vars.all (Tryz.prog.varReadable ·)=true:=by kernel_rfl
theorem j19:Tryz.f4.resultTypes.all (fun t=>Tryz.prog.readableRec t&&decide (t<Tryz.prog.types.size))=true:=by kernel_rfl
theorem j20:(Rows.spaceWaysRow.ifacesOut==Tryz.f4.resultTypes.toList.any (Tryz.prog.ifacesRec ·))=true:=by kernel_rfl
theorem j21:(Rows.spaceWaysRow.loopsOut==Tryz.f4.resultTypes.toList.any (Tryz.prog.loopsFrom ·))=true:=by kernel_rfl
theorem j22:(Rows.spaceWaysRow.plainKeys==Tryz.prog.plainKeys)=true:=by kernel_rfl
theorem j23:Rows.spaceWaysRow.shortTexts.isNone=true:=by kernel_rfl
theorem j23b:Tryz.prog.stopsHeard=true:=by kernel_rfl
theorem j24:Tryz.prog.mayEnter=true:=by kernel_rfl
theorem j24b:(Rows.spaceWaysRow.lifted==Tryz.prog.liftsFinal)=true:=by kernel_rfl
theorem j24c:(Tryz.prog.make==some Rows.spaceWaysRow.make)=true:=by kernel_rfl
theorem j25:(Rows.spaceWaysRow.kinds==(if Rows.spaceWaysRow.domain.isEmpty then [] else Tryz.f4.params.toList.map fun t=>match Tryz.prog.underlying t with|some (.int k)=>some k|_=>none))=true:=by kernel_rfl
theorem j26:(Rows.spaceWaysRow.pinned==Rows.spaceWaysRow.pinnedBy)=true:=by kernel_rfl
theorem j27:(Rows.spaceWaysRow.veiled==(Tryz.f4.params.toList++(OpenSpec.ofChange Rows.spaceWaysSpec).bare.plain.varTypes Tryz.prog++Tryz.f4.resultTypes.toList).any (Tryz.prog.veiledRec ·))=true:=by kernel_rfl
theorem j28:Rows.spaceWaysRow.veiledFits Tryz.prog Tryz.f4.params.toList (Tryz.f4.params.toList++(OpenSpec.ofChange Rows.spaceWaysSpec).bare.plain.varTypes Tryz.prog++Tryz.f4.resultTypes.toList)=true:=by kernel_rfl
end Go.PV
