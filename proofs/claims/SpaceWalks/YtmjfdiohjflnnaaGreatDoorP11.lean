/- A part of the proof: KB4. -/
import Derived.Test.YtmjfdiohjflnnaaGreatDoorP10
set_option linter.all false
namespace Go.PV
open Go Go.Proofs Go.Proofs.Tryz
set_option maxRecDepth 100000
theorem laidOut:laidOutB prog=true:=by kernel_rfl
theorem read25:prog.readableRec 25=true:=by kernel_rfl
theorem own:ownKnob prog.godebug=none:=by kernel_rfl
theorem u4:prog.underlying 4=some .bool:=by kernel_rfl
end Go.PV
