/- A part of the proof: KB3. -/
import Derived.OpenShut
import Derived.ProofKit
import Derived.Shelf.Abstract
import Derived.Test.YtmjfdiohjflnnaaGreatDoorRows
import Derived.WalkKit
import Derived.Test.YtmjfdiohjflnnaaGreatDoorP09
set_option linter.all false
namespace Go.PV
open Go Go.Proofs Go.Proofs.Tryz Go.ChangeShapes Go.WideShapes Go.ChangeAt Go.RowKit
set_option maxRecDepth 100000
open Go.Proofs.YtmjfdiohjflnnaaGreatDoor (Rows.spaceWaysRow Rows.spaceWaysSpec)
noncomputable def nm (k:Nat):String:=Rows.spaceWaysRow.named.getD k ""
theorem tab_vr {P:Program} {W:World} {name:String} {k:IntKind} {zs:List Int} {g:Nat} (M:Mz) (h:Lib.TabIs P W name k zs) (hg:P.globalNamed name=some g):
  VR (cellAt W) M mu0 (.fptr (zs.map (Val.int k)) 0) (.pointer (some ⟨g,0,none⟩)):=by
 refine .fptr _ 0 g 0 (fun i=> .int k (zs.getD i 0)) (fun i hi=> ?_) (fun i v hv=> ?_)
 · rw [List.length_map] at hi;have:=h.cell hg i hi;rw [cell?_eq] at this;rw [Nat.zero_add];exact this
 · rw [List.getElem?_map] at hv
   cases hz:zs[i]? with
   |none=>rw [hz] at hv;cases hv
   | some z=>
     rw [hz] at hv;cases hv;have:zs.getD i 0=z:=by simp [List.getD,hz]
     rw [this];exact .int k z
def zs1:List Int:= [0,0,0,0,0,0,0,0,0,1,1,1,1,1,0,0,0,0,0,0,0,0,0,0,0,0,0,0,0,0,0,0,1,0,0,0,0,0,0,0,0,0,0,0,0,0,0,0,0,0,0,0,0,0,0,0,0,0,0,0,0,0,0,0,0,0,0,0,0,0,0,0,0,0,0,0,0,0,0,0,0,0,0,0,0,0,0,0,0,0,0,0,0,0,0,0,0,0,0,0,0,0,0,0,0,0,0,0,0,0,0,0,0,0,0,0,0,0,0,0,0,0,0,0,0,0,0,0,0,0,0,0,0,0,0,0,0,0,0,0,0,0,0,0,0,0,0,0,0,0,0,0,0,0,0,0,0,0,0,0,0,0,0,0,0,0,0,0,0,0,0,0,0,0,0,0,0,0,0,0,0,0,0,0,0,0,0,0,0,0,0,0,0,0,0,0,0,0,0,0,0,0,0,0,0,0,0,0,0,0,0,0,0,0,0,0,0,0,0,0,0,0,0,0,0,0,0,0,0,0,0,0,0,0,0,0,0,0,0,0,0,0,0,0,0,0,0,0,0,0,0,0,0,0,0,0]
def zs2:List Int:= [1,10,100,1000,10000,100000,1000000,10000000,100000000,1000000000,10000000000,100000000000,1000000000000,10000000000000,100000000000000,1000000000000000,10000000000000000,100000000000000000,1000000000000000000,10000000000000000000]
def zs4:List Int:= [0,1,28,2,29,14,24,3,30,22,20,15,25,17,4,8,31,27,13,23,21,19,16,7,26,12,18,6,11,5,10,9]
def zs5:List Int:= [0,1,56,2,57,49,28,3,61,58,42,50,38,29,17,4,62,47,59,36,45,43,51,22,53,39,33,30,24,18,12,5,63,55,48,27,60,41,37,16,46,35,44,21,52,32,23,11,54,26,40,15,34,20,31,10,25,14,19,9,13,8,7,6]
theorem gn1:prog.globalNamed (nm 0)=some 1:=by kernel_rfl
theorem gf1:globF 1= .fptr (zs1.map (Val.int .u8)) 0:=by kernel_rfl
theorem lf1:Rows.spaceWaysRow.laid.filter (fun x=>x.1==(nm 0))= [((nm 0),Lib.tabData .u8 zs1)]:=by kernel_rfl
theorem gn2:prog.globalNamed (nm 2)=some 2:=by kernel_rfl
theorem gf2:globF 2= .fptr (zs2.map (Val.int .u64)) 0:=by kernel_rfl
theorem lf2:Rows.spaceWaysRow.laid.filter (fun x=>x.1==(nm 2))= [((nm 2),Lib.tabData .u64 zs2)]:=by kernel_rfl
theorem gn4:prog.globalNamed (nm 3)=some 4:=by kernel_rfl
theorem gf4:globF 4= .fptr (zs4.map (Val.int .u8)) 0:=by kernel_rfl
theorem lf4:Rows.spaceWaysRow.laid.filter (fun x=>x.1==(nm 3))= [((nm 3),Lib.tabData .u8 zs4)]:=by kernel_rfl
theorem gn5:prog.globalNamed (nm 4)=some 5:=by kernel_rfl
theorem gf5:globF 5= .fptr (zs5.map (Val.int .u8)) 0:=by kernel_rfl
theorem lf5:Rows.spaceWaysRow.laid.filter (fun x=>x.1==(nm 4))= [((nm 4),Lib.tabData .u8 zs5)]:=by kernel_rfl
theorem gt1:(prog.globals[1]?).map (·.type)=some 451:=by kernel_rfl
theorem ua1:prog.underlying 451=some (.array 256 5):=by kernel_rfl
theorem ue1:prog.underlying 5=some (.int .u8):=by kernel_rfl
theorem ce1:prog.cellsOf 5=1:=by kernel_rfl
theorem ct1:prog.cellsOf 451=256:=by kernel_rfl
theorem tab1 {W:World} (h:laidMetH prog Rows.spaceWaysRow.laid W):Lib.TabIs prog W (nm 0) .u8 zs1:=by have h1:=h.filter (fun x=>x.1==(nm 0));rw [lf1] at h1;exact Lib.tabIs_of_head gn1 gt1 ua1 ue1 ce1 ct1 h1
theorem gt2:(prog.globals[2]?).map (·.type)=some 477:=by kernel_rfl
theorem ua2:prog.underlying 477=some (.array 20 254):=by kernel_rfl
theorem ue2:prog.underlying 254=some (.int .u64):=by kernel_rfl
theorem ce2:prog.cellsOf 254=1:=by kernel_rfl
theorem ct2:prog.cellsOf 477=20:=by kernel_rfl
theorem tab2 {W:World} (h:laidMetH prog Rows.spaceWaysRow.laid W):Lib.TabIs prog W (nm 2) .u64 zs2:=by have h1:=h.filter (fun x=>x.1==(nm 2));rw [lf2] at h1;exact Lib.tabIs_of_head gn2 gt2 ua2 ue2 ce2 ct2 h1
theorem gt4:(prog.globals[4]?).map (·.type)=some 514:=by kernel_rfl
theorem ua4:prog.underlying 514=some (.array 32 5):=by kernel_rfl
theorem ue4:prog.underlying 5=some (.int .u8):=by kernel_rfl
theorem ce4:prog.cellsOf 5=1:=by kernel_rfl
theorem ct4:prog.cellsOf 514=32:=by kernel_rfl
theorem tab4 {W:World} (h:laidMetH prog Rows.spaceWaysRow.laid W):Lib.TabIs prog W (nm 3) .u8 zs4:=by have h1:=h.filter (fun x=>x.1==(nm 3));rw [lf4] at h1;exact Lib.tabIs_of_head gn4 gt4 ua4 ue4 ce4 ct4 h1
theorem gt5:(prog.globals[5]?).map (·.type)=some 515:=by kernel_rfl
theorem ua5:prog.underlying 515=some (.array 64 5):=by kernel_rfl
theorem ue5:prog.underlying 5=some (.int .u8):=by kernel_rfl
theorem ce5:prog.cellsOf 5=1:=by kernel_rfl
theorem ct5:prog.cellsOf 515=64:=by kernel_rfl
theorem tab5 {W:World} (h:laidMetH prog Rows.spaceWaysRow.laid W):Lib.TabIs prog W (nm 4) .u8 zs5:=by have h1:=h.filter (fun x=>x.1==(nm 4));rw [lf5] at h1;exact Lib.tabIs_of_head gn5 gt5 ua5 ue5 ce5 ct5 h1
theorem gok (pr:Nat→Option (List Val→Hp→FRes)) {W:World} (h:laidMetH prog Rows.spaceWaysRow.laid W):GOK (E1 pr) (κ0 W):=by
 intro g;show VR (cellAt W) (κ0 W).M mu0 (globF g) _;by_cases e1:g=1
 · subst e1;rw [gf1];exact tab_vr _ (tab1 h) gn1
 by_cases e2:g=2
 · subst e2;rw [gf2];exact tab_vr _ (tab2 h) gn2
 by_cases e4:g=4
 · subst e4;rw [gf4];exact tab_vr _ (tab4 h) gn4
 by_cases e5:g=5
 · subst e5;rw [gf5];exact tab_vr _ (tab5 h) gn5
 have:globF g= .bad:=by unfold globF;split<;>simp_all
 rw [this];exact .bad _
end Go.PV
