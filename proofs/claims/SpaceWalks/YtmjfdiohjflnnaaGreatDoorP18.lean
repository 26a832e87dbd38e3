/- A part of the proof: WB8, KB6, KB7. -/
import Derived.Deep.DeepHandedRow
import Derived.Test.YtmjfdiohjflnnaaGreatDoorP11
import Derived.Test.YtmjfdiohjflnnaaGreatDoorP12
import Derived.Test.YtmjfdiohjflnnaaGreatDoorP13
import Derived.Test.YtmjfdiohjflnnaaGreatDoorP17
set_option linter.all false
namespace Go.PV
open Go Go.Proofs Go.Proofs.Tryz Go.ChangeShapes Go.WideShapes Go.ChangeAt Go.RowKit
open Go.Proofs.YtmjfdiohjflnnaaGreatDoor (Rows.spaceWalksUptoRow Rows.spaceWalksSpec Rows.SpaceWalksUptoSaid Rows.OpenSpec.upto)
set_option maxRecDepth 100000
abbrev RunW:Prop:= ∀(W:World),laidMetH prog Rows.spaceWalksUptoRow.laid W→ ∀(c0:Array Value) (x1 x2:Value) (b:Nat),b≤1000000000000→Tok3 prog W (κ0 W).M 25 c0.toList b→Tok2 prog W (κ0 W).M 3 [x1]→Tok2 prog W (κ0 W).M 3 [x2]→
 Calls prog 3 #[.agg c0,x1,x2] W fun e W'=>e= .returned (.bool true)∧ ∃κ',Fr (κ0 W).own (κ0 W) κ' W W'
theorem lifted3 (hrun:RunW) (os:Os) (started:os.Started) (H:Type) (enc:TypeId×Value→H) (F:Stop.Interp):
  ReturnsInHanded {} checked os 3 .any ((Rows.OpenSpec.upto Rows.spaceWalksSpec).preRow enc prog f3 Rows.spaceWalksUptoRow.domain false Rows.spaceWalksUptoRow.laid) (((Rows.OpenSpec.upto Rows.spaceWalksSpec).at F).post enc prog f3 false true false false):=by
 refine returnsInHanded_of_row (C:=checked) (s:=Rows.OpenSpec.upto Rows.spaceWalksSpec) own started noInit3 func3
  (witness_row_atRef (enc:=enc) (C:=checked) false (laidWorld os) wargs3 rfl (variablesRef3 os) (heapRest3 os) (inputOk3 os) (witness_row3 os enc)) ?_
 intro W base args ds gs before hval hW _ hk hS hL _ _;exact contractW hrun H enc W base args ds gs before hval hW hS (hk _ rfl) hL
theorem jf3:joinedFacts prog 3 f3 (Rows.OpenSpec.upto Rows.spaceWalksSpec).bare Rows.spaceWalksUptoRow=true:=by have h6:=j6';simp only [joinedFacts,Bool.and_eq_true] at h6⊢;exact ⟨⟨⟨⟨⟨⟨⟨⟨⟨⟨⟨⟨⟨⟨⟨⟨⟨⟨⟨⟨⟨⟨⟨⟨⟨⟨⟨⟨⟨⟨⟨j1',laidOut⟩,j3'⟩,j4'⟩,j5'⟩,h6.1.1.1⟩,h6.1.1.2⟩,h6.1.2⟩,h6.2⟩,j10'⟩,j11'⟩,j12'⟩,j13'⟩,j14'⟩,j15'⟩,j15b'⟩,j16'⟩,j17'⟩,j18'⟩,j19'⟩,j20'⟩,j21'⟩,j22'⟩,j23'⟩,j23b'⟩,j24'⟩,j24b'⟩,j24c'⟩,j25'⟩,j26'⟩,j27'⟩,j28'⟩
theorem inst3:f3.isInstance prog Rows.spaceWalksUptoRow.origin Rows.spaceWalksUptoRow.targs:=of_decide_eq_true (by kernel_rfl)
theorem wrap3:f3.isWrapper prog Rows.spaceWalksUptoRow.wrapper Rows.spaceWalksUptoRow.mainSum:=by unfold Func.isWrapper;first|(rw [if_pos (by decide+kernel)];kernel_rfl)|(rw [if_neg (by decide+kernel)];exact ⟨rfl,rfl⟩)
theorem said3 (hrun:RunW):Rows.SpaceWalksUptoSaid:=
 OpenClaim.holds_of_cond (p:=Go.Proofs.YtmjfdiohjflnnaaGreatDoor.Tryz.pinned) 3 f3 rfl rfl rfl rfl rfl rfl rfl ⟨rfl,rfl,rfl,rfl,rfl⟩ rfl rfl rfl rfl rfl fnm' func3 jf3 inst3 wrap3
  (fun os started H enc _ F=>by rw [OpenClaim.pre_eq_preRow];exact lifted3 hrun os started H enc F)
open Go Go.Proofs Go.Proofs.Tryz Go.ChangeShapes Go.WideShapes Go.ChangeAt Go.RowKit
open Go.Proofs.YtmjfdiohjflnnaaGreatDoor (Rows.spaceWaysRow Rows.spaceWaysSpec)
set_option maxRecDepth 100000
open Go Go.Proofs Go.Proofs.Tryz Go.ChangeShapes Go.WideShapes Go.ChangeAt Go.RowKit
open Go.Proofs.YtmjfdiohjflnnaaGreatDoor (Rows.spaceWaysRow Rows.spaceWaysSpec Rows.SpaceWaysSaid)
set_option maxRecDepth 100000
end Go.PV
