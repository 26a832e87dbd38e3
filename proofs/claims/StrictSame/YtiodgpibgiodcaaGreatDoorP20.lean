/- A part of the proof. -/
import Derived.Deep.DeepHandedRow
import Derived.Test.YtiodgpibgiodcaaGreatDoorP00
import Derived.Test.YtiodgpibgiodcaaGreatDoorP19
set_option linter.all false
set_option maxHeartbeats 4000000
namespace Go.aj
open Go Go.Proofs Go.Proofs.Tryz Go.ChangeShapes Go.WideShapes Go.ChangeAt Go.RowKit
open Go.Proofs.YtiodgpibgiodcaaGreatDoor (Rows.strictSameUptoRow Rows.strictSameSpec Rows.uptoBulk Rows.uptoBulkAll Rows.uptoSmall Rows.OpenSpec.upto)
set_option maxRecDepth 100000
def A6 {H:Type} (l:List (DataW H)):Rows.uptoBulkAll l=(l.map Rows.uptoBulk).sum:=by
 induction l with
 |nil=>simp [Rows.uptoBulkAll]
 |cons b l a=>simp [Rows.uptoBulkAll,a]
def Ge (H:Type):FD H Rows.uptoBulk where
 one:=λa=>by
  cases a with
  |lit b=>cases b<;>simp [Rows.uptoBulk]
  |_=>simp [Rows.uptoBulk]
 A:=λc e=>by simp only [Rows.uptoBulk,A6];omega
 agg:=λd=>by simp only [Rows.uptoBulk,A6];omega
def laidOut:laidOutB prog=true:=aq
def own:ownKnob prog.godebug=none:=aq
def F3 {W:World} {d:Nat} {t:TypeId} {v:Value} (b:Value.okWide prog W .any d t v) (a:(prog.underlying t).any (λx=>match x with| .struct _=>true|_=>false)=true): ∃cs,v= .agg cs/\cs.size=prog.cellsOf t:=by
 cases c:prog.underlying t with
 |none=>rw [c] at a;cases a
 | some g=>
   rw [c] at a;cases g<;>first|cases a|skip
   unfold Value.okWide at b;rw [c] at b;obtain ⟨cs,e,f,-⟩:=b;exact ⟨cs,e,f⟩
def asx {H:Type} (P:Program) (c:TypeId) (a:DataW H) (b:(DataW.weightsEach P [c] [a]).all (· <=reachBytes)=true):
    (a.weights P c).all (· <=reachBytes)=true:=by
 simp only [DataW.weightsEach,rE,br] at b;exact b.1
def Qp (H:Type) (enc:TypeId×Value->H) (W:World) (u:Nat) (args:Array Value) (ds f:List (DataW H)) (w:List MemPlace)
    (p: ∀(j:Nat) t v,f5.params[j]? =some t->args[j]? =some v->Value.okWide prog W .any u t v)
    (n:DataW.Whole enc prog f5.params.toList Rows.strictSameSpec.vars false W args.toList ds f w) (m:(DataW.weightsEach prog (f5.params.toList++(OpenSpec.ofChange Rows.strictSameSpec).bare.plain.varTypes prog) (ds++f)).all (· <=reachBytes)=true)
    (E:Rows.uptoSmall H (ds++f)=true)
    (y:laidMetH prog jx.laid W):
    Calls prog 5 args W λe d=> ∃v,e= .returned v/\Rows.strictSameSpec.post enc prog f5 false true false false W args v d:=by
 have o:=n;obtain ⟨a,T,x,A,rfl,R,S⟩:=n;have l:DataW.TrodAll enc prog W 0 (λ_=>true) true f5.params.toList args.toList ds a:=x;rw [show f5.params= #[31] by kernel_rfl] at l p m;obtain ⟨r,X,b,P,h,U,Q,rfl,rfl,k,O⟩:=trodAll_cons l;obtain ⟨rfl,rfl,rfl⟩:=trodAll_nil O;obtain rfl:args= #[r]:=by cases args;simp_all
 obtain ⟨rfl,rfl⟩:=trodVars_none A;have z:=asx prog 31 b m;have C:Rows.uptoBulk b<=1048576:=by have F:decide (Rows.uptoBulkAll ([b]++ [])<=1048576)=true:=E;have:=of_decide_eq_true F;rw [A6] at this;simp only [bl,a6,fS,rG,kE,List.sum_nil] at this;omega
 obtain ⟨i,rfl,-⟩:=F3 (p 0 31 r rfl rfl) aq;have L:kd prog W (eS W).M 31 i.toList (Rows.uptoBulk b):=by obtain ⟨N,I⟩:=k;exact ED enc prog W (eS W).M Rows.uptoBulk (Ge H) _ _ N _ _ _ ⟨b,h,I,z,rfl⟩
 have G:=o.lt;refine (XC W (kq y) i _ C L).mono λe d ⟨D,Y,g⟩=> ?_;subst D;have J: ∀a∈h++ []++ [],W.sameAt d a:=λa c=>ZN g a (G a c);have q:prog.underlying 4=some .bool:=aq;refine ⟨_,rfl,Yq (pa:=h++ []) (pv:= []) o (λ_ _ _=>trodAll_cons_mk (shut_bool q _) trodAll_mk0) (λV K=> ?_) (λ_ _=>rfl) rfl
  (VR g _) (λs B=>RY g s B) (ok_one aq rfl (okWide_bool_mk q _))⟩
 refine trodAll_cons_mk (WideElems.Trod_stays laidOut aq (of_decide_eq_true aq) k (λa c=>J a (by simp [c])) (λa c=>K a (by simp [c])))
  trodAll_mk0
end Go.aj
