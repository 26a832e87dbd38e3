/- A part of the proof. -/
import Derived.Deep.DeepHandedRow
import Derived.Test.YtiodgpibgiodcaaGreatDoorP00
import Derived.Test.YtiodgpibgiodcaaGreatDoorP19
set_option linter.all false
set_option maxHeartbeats 4000000
namespace Go.aj
open Go Go.Proofs Go.Proofs.Tryz Go.ChangeShapes Go.WideShapes Go.ChangeAt Go.RowKit
open Go.Proofs.YtiodgpibgiodcaaGreatDoor (Rows.strictBackUptoRow Rows.strictBackSpec Rows.uptoBulk Rows.uptoBulkAll Rows.uptoSmall Rows.OpenSpec.upto)
set_option maxRecDepth 100000
def A6 {H:Type} (l:List (DataW H)):Rows.uptoBulkAll l=(l.map Rows.uptoBulk).sum:=by
 induction l with
 |nil=>simp [Rows.uptoBulkAll]
 |cons b l a=>simp [Rows.uptoBulkAll,a]
def Ge (H:Type):FD H Rows.uptoBulk where
 one:=λa=>by
  cases a with
  |lit b=>cases b<;>simp [Rows.uptoBulk]
  |_=>simp [Rows.uptoBulk]
 A:=λc e=>by simp only [Rows.uptoBulk,A6];omega
 agg:=λd=>by simp only [Rows.uptoBulk,A6];omega
def laidOut:laidOutB prog=true:=aq
def own:ownKnob prog.godebug=none:=aq
def F3 {W:World} {d:Nat} {t:TypeId} {v:Value} (b:Value.okWide prog W .any d t v) (a:(prog.underlying t).any (λx=>match x with| .struct _=>true|_=>false)=true): ∃cs,v= .agg cs/\cs.size=prog.cellsOf t:=by
 cases c:prog.underlying t with
 |none=>rw [c] at a;cases a
 | some g=>
   rw [c] at a;cases g<;>first|cases a|skip
   unfold Value.okWide at b;rw [c] at b;obtain ⟨cs,e,f,-⟩:=b;exact ⟨cs,e,f⟩
def abQ {H:Type} (P:Program) (d t1:TypeId) (b c:DataW H) (a:(DataW.weightsEach P [d,t1] [b,c]).all (· <=reachBytes)=true):
    (b.weights P d).all (· <=reachBytes)=true/\(c.weights P t1).all (· <=reachBytes)=true:=by
 simp only [DataW.weightsEach,rE,br] at a;exact ⟨a.1,a.2.1⟩
def Qp (H:Type) (enc:TypeId×Value->H) (W:World) (F:Nat) (args:Array Value) (ds g:List (DataW H)) (G:List MemPlace)
    (k: ∀(j:Nat) t v,f3.params[j]? =some t->args[j]? =some v->Value.okWide prog W .any F t v)
    (x:DataW.Whole enc prog f3.params.toList Rows.strictBackSpec.vars false W args.toList ds g G) (u:(DataW.weightsEach prog (f3.params.toList++(OpenSpec.ofChange Rows.strictBackSpec).bare.plain.varTypes prog) (ds++g)).all (· <=reachBytes)=true)
    (P:Rows.uptoSmall H (ds++g)=true)
    (J:laidMetH prog jx.laid W):
    Calls prog 3 args W λe f=> ∃v,e= .returned v/\Rows.strictBackSpec.post enc prog f3 false true false false W args v f:=by
 have y:=x;obtain ⟨a,ad,I,K,rfl,aa,ab⟩:=x;have s:DataW.TrodAll enc prog W 0 (λ_=>true) true f3.params.toList args.toList ds a:=I;rw [show f3.params= #[31,35] by kernel_rfl] at s k u;obtain ⟨C,ah,c,X,m,ae,Z,rfl,rfl,q,U⟩:=trodAll_cons s;obtain ⟨D,ai,d,Y,n,af,rfl,rfl,rfl,r,V⟩:=trodAll_cons U;obtain ⟨rfl,rfl,rfl⟩:=trodAll_nil V;obtain rfl:args= #[C,D]:=by cases args;simp_all
 obtain ⟨rfl,rfl⟩:=trodVars_none K;have w:=abQ prog 31 35 c d u;have N:Rows.uptoBulk c+Rows.uptoBulk d<=1048576:=by have Q:decide (Rows.uptoBulkAll ([c,d]++ [])<=1048576)=true:=P;have:=of_decide_eq_true Q;rw [A6] at this;simp only [bl,a6,fS,rG,kE,List.sum_nil] at this;omega
 obtain ⟨o,rfl,-⟩:=F3 (k 0 31 C rfl rfl) aq;obtain ⟨p,rfl,-⟩:=F3 (k 1 35 D rfl rfl) aq;have S:kd prog W (eS W).M 31 o.toList (Rows.uptoBulk c):=by obtain ⟨l,i⟩:=q;exact ED enc prog W (eS W).M Rows.uptoBulk (Ge H) _ _ l _ _ _ ⟨c,m,i,w.1,rfl⟩
 have T:kd prog W (eS W).M 35 p.toList (Rows.uptoBulk d):=by obtain ⟨l,i⟩:=r;exact ED enc prog W (eS W).M Rows.uptoBulk (Ge H) _ _ l _ _ _ ⟨d,n,i,w.2,rfl⟩
 have R:=y.lt;refine (XC W (kq J) o p _ _ N S T).mono λe f ⟨O,aj,h⟩=> ?_;subst O;have z: ∀a∈m++(n++ [])++ [],W.sameAt f a:=λa b=>ZN h a (R a b);have B:prog.underlying 4=some .bool:=aq;refine ⟨_,rfl,Yq (pa:=m++(n++ [])) (pv:= []) y (λ_ _ _=>trodAll_cons_mk (shut_bool B _) trodAll_mk0) (λag A=> ?_) (λ_ _=>rfl) rfl
  (VR h _) (λE L=>RY h E L) (ok_one aq rfl (okWide_bool_mk B _))⟩
 refine trodAll_cons_mk (WideElems.Trod_stays laidOut aq (of_decide_eq_true aq) q (λa b=>z a (by simp [b])) (λa b=>A a (by simp [b])))
  (trodAll_cons_mk (WideElems.Trod_stays laidOut aq (of_decide_eq_true aq) r (λa b=>z a (by simp [b])) (λa b=>A a (by simp [b]))) trodAll_mk0)
end Go.aj
