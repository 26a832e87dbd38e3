/- A part of the proof. -/
import Derived.Deep.DeepLaidRun
import Derived.Deep.DeepWitnessRowRef
import Derived.LaidLaws
import Derived.Test.YtiodgpibgiodcaaGreatDoorP00
import Derived.Test.YtiodgpibgiodcaaGreatDoorP20
set_option linter.all false
set_option maxHeartbeats 4000000
namespace Go.aj
open Go Go.Proofs Go.Proofs.Tryz Go.ChangeShapes Go.WideShapes Go.ChangeAt Go.RowKit
open Go.Proofs.YtiodgpibgiodcaaGreatDoor (Rows.strictSameUptoRow Rows.strictSameSpec Rows.StrictSameUptoSaid Rows.OpenSpec.upto)
set_option maxRecDepth 100000
def abT:List Int:= [9,13,1,32,133,101,160,5760,5600,8192,8202,1,8232,8233,1,8239,8287,48,12288,12288,1]
noncomputable def JO (c:Os):World:=
 let b:=(World.settled prog c).heap.size;let d:=World.holding prog c ⟨#[Go.Obj.cells (abT.map λi=>Value.int .u16 i).toArray 360,Go.Obj.cells #[.slice (some ⟨b,0,none⟩) 7 7,.slice none 0 0,.int .i64 2] 357], #[],[]⟩;let a (h:Array Go.Obj) (g:Nat) (cs:Array Value):Array Go.Obj:=h.modify g fun
  |Go.Obj.cells _ f e=>Go.Obj.cells cs f e
  |o=>o
 {d with heap:=a (a (a (a (a d.heap 1 ((uJ 1).map (Value.int .u8)).toArray) 2 ((uJ 2).map (Value.int .u64)).toArray) 3 #[.pointer (some ⟨b+1,0,none⟩)]) 4 ((uJ 4).map (Value.int .u8)).toArray) 5 ((uJ 5).map (Value.int .u8)).toArray}
def uH:Value:= .string ⟨#[]⟩
def An:Array Value:=
 let a:=Value.slice none 0 0
 #[.agg #[uH,a,a,a,a,a,a,a,uH,a,a,uH,uH]]
noncomputable abbrev Fm (a:Os):World:=(JO a).forCall (λ_ _=>0) ⟨#[],An,[]⟩
def VW (a:Os):laidMet prog jx.laid (Fm a).memory:=laidMet_of_run3 10 aq aq aq
def abY (a:Os) {H:Type} (enc:TypeId×Value->H):
    (Rows.OpenSpec.upto Rows.strictSameSpec).preRow enc prog f5 jx.domain false jx.laid (Fm a).memory An:=by
 have e:(DataW.whole enc prog (Fm a).memory f5.params.toList Rows.strictSameSpec.vars false An.toList 8).map (λc=>(c.1,c.2.1))=
  some ([.agg [.lit (.string []),.agg [.nil,.nil,.nil,.nil,.nil],.nil,.nil,.lit (.string []),.nil,.nil,.lit (.string []),.lit (.string [])]],[]):=aq
 obtain ⟨⟨h,i,j⟩,f,b⟩:=tH.1 e;simp only [bz] at b;obtain ⟨rfl,rfl⟩:=b;exact OpenSpec.preRow_of_cond (s:=Rows.OpenSpec.upto Rows.strictSameSpec) 8 f aq (λg d=>by cases d;kernel_rfl) aq (VW a)
def lifted (a:Os) (m:a.Started) (H:Type) (enc:TypeId×Value->H) (F:Stop.Interp):
    ReturnsInHanded {} checked a 5 .any ((Rows.OpenSpec.upto Rows.strictSameSpec).preRow enc prog f5 jx.domain false jx.laid) (((Rows.OpenSpec.upto Rows.strictSameSpec).at F).post enc prog f5 false true false false):=by
 refine returnsInHanded_of_row (C:=checked) (s:=Rows.OpenSpec.upto Rows.strictSameSpec) own m aq func5
  (witness_row_atRef (enc:=enc) (C:=checked) false (JO a) An rfl aq aq aq (abY a enc)) ?_
 intro b d c f g e l j _ k i h _ _;exact Qp H enc b d c f g e l j i (k _ rfl) h
end Go.aj
