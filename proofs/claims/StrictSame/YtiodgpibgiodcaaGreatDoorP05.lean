/- A part of the proof. -/
import Derived.Test.YtiodgpibgiodcaaGreatDoorP00
import Derived.Test.YtiodgpibgiodcaaGreatDoorP04
set_option linter.all false
set_option maxHeartbeats 4000000
namespace Go.aj
def cE (L:List aa):bf->bf
 | .ok a _ H=> .ok a L H
 |r=>r
section
variable {E:Env} {cf:cb} {fid:Nat} {tm L:List aa} {H:af}
theorem hb (r:Option aa):bb r L H=cE L (bb r tm H):=by cases r<;>simp [bb,cE]
theorem zp (r:Option (aa×af)):ha r L=cE L (ha r tm):=by cases r<;>simp [ha,cE]
theorem XS (c a b:aa):lY c a b L H=cE L (lY c a b tm H):=by unfold lY;split<;>first|exact hb _|rfl
theorem XQ (x:aa):j1 x L H=cE L (j1 x tm H):=by unfold j1;split<;>first|exact hb _|rfl
theorem Kz (t:Nat) (d:Option TypeDesc) (x:aa):n5 t d x L H=cE L (n5 t d x tm H):=by unfold n5;split<;>(try split)<;>simp [cE]
theorem Ky (f:Fn) (a c:List aa):lu E f a c L H=cE L (lu E f a c tm H):=by
 unfold lu;split
 . unfold t_;split
   . split
     . exact zp _
     . exact hb _
   . rfl
 . rfl
theorem KA (r:Option Operand):qx r L H=cE L (qx r tm H):=by unfold qx qw;split<;>simp [cE]
theorem KB (t:Nat) (l c:aa):mX E t l c L H=cE L (mX E t l c tm H):=by
 unfold mX;split
 . split
   . split<;>simp [cE]
   . rfl
 . rfl
theorem XZ (t:Nat) (d:Option TypeDesc) (x:aa) (lo a mx:Option aa):ij E t d x lo a mx L H=cE L (ij E t d x lo a mx tm H):=by unfold ij;split<;>first|exact hb _|rfl
theorem zr (t:Nat) (m k v:aa):ih E t m k v L H=cE L (ih E t m k v tm H):=by
 unfold ih;split
 . split<;>rfl
 . rfl
theorem XV (d:Option TypeDesc) (x:aa):mY d x L H=cE L (mY d x tm H):=by unfold mY;split<;>simp [cE]
theorem XN (s:Bool) (x:aa):qy s x L H=cE L (qy s x tm H):=by
 unfold qy;split
 . unfold rV;split
   . split
     . unfold wj;split
       . split;simp [cE]
       . rfl
     . rfl
   . rfl
 . rfl
theorem XG (x:aa) (i:Nat):lX x i L H=cE L (lX x i tm H):=by unfold lX;split<;>first|exact hb _|rfl
theorem KD (x:aa):qz x H=cE L (qz x H):=by unfold qz;split<;>rfl
theorem Ph (b:Builtin) (a:List Nat) (args:List aa):kj E b a args L H=cE L (kj E b a args tm H):=by unfold kj;split<;>first|exact hb _|exact zp _|rfl
theorem El (b:Builtin) (a:List Nat) (args:List aa):hy E b a args L H=cE L (hy E b a args tm H):=by
 unfold hy;split
 . split<;>first|exact KD _|rfl
 . exact Ph _ _ _
theorem G4 (f:Nat) (args:List aa):az E cf f args H L=cE L (az E cf f args H tm):=by
 unfold az;split
 . split
   . unfold nB;split
     . simp only [bu];split<;>(try split)<;>simp [cE]
     . rfl
   . unfold sX;split
     . split
       . simp [cE]
       . split<;>simp [cE]
     . split<;>simp [cE]
     . rfl
 . rfl
theorem Kx (f:aa) (args:List aa):cx E cf f args H L=cE L (cx E cf f args H tm):=by
 unfold cx;split
 . simp only [bu];exact G4 _ _
 . rfl
theorem Zp {p:aa} (a: ∀s st off,p= .cR s st off->M L s=M tm s):gq L H p=gq tm H p:=by unfold gq;split<;>first|rfl|(rename_i s st off;rw [a s st off rfl])
theorem Wg {t:Nat} {p:aa} (a: ∀s st off,p= .cR s st off->M L s=M tm s):dW E t p L H=dW E t p tm H:=by unfold dW;rw [Zp a]
theorem WK {d:Nat} (cs:List aa) (a:M L d=M tm d):newLocal d cs L H=cE L (newLocal d cs tm H):=by unfold newLocal;rw [a];split<;>exact hb _
theorem Ku {loc:Bool} {d:Option Nat} {el:Nat} {z:Option aa} (b: ∀a,d=some a->M L a=M tm a):fF loc d el z L H=cE L (fF loc d el z tm H):=by
 unfold fF;split
 . split
   . split
     . exact WK _ (b _ rfl)
     . unfold o4;simp [cE]
   . rfl
 . rfl
theorem Mh (id a off b n:Nat) (vs:List aa):hD id a off b n vs L H=cE L (hD id a off b n vs tm H):=by
 unfold hD;split
 . split
   . split<;>simp [cE]
   . rfl
 . rfl
theorem aax {t:Nat} {p v:aa} (a:fh p=true):hd E t p v L H=cE L (hd E t p v tm H):=by
 unfold hd;split
 . unfold hf;split
   . split
     . exact Mh _ _ _ _ _ _
     . simp [fh] at a
     . rfl
   . rfl
 . rfl
theorem D0 {xs:Array Operand} (a: ∀x,x∈xs->B E L x=B E tm x):xs.toList.map (B E L)=xs.toList.map (B E tm):=
 vS λx b=>a x (by simpa using b)
theorem J8 {a:Array (Nat×Operand)} (b: ∀x,x∈a.map (·.2)->B E L x=B E tm x):
  (a.toList.map λp=>(p.1,B E L p.2))=a.toList.map λp=>(p.1,B E tm p.2):=
 vS λp c=>by rw [b p.2 (Array.mem_map.2 ⟨p,by simpa using c,rfl⟩)]
theorem Hr {o:Oper} (b: ∀x,x∈o.op.operands->B E L x=B E tm x) (r: ∀d,o.dst=some d->M L d=M tm d)
  (y: ∀t a s st off,o.op= .load t a->B E tm a= .cR s st off->M L s=M tm s) (z: ∀t a x,o.op= .store t a x->fh (B E tm a)=true):
  evalOp E cf fid o L H=cE L (evalOp E cf fid o tm H):=by
 unfold evalOp;cases p:o.op<;>simp only [p,Op.operands] at b|-
 case move x=>rw [b x ai];exact hb _
 case assign x=>rw [b x ai];exact hb _
 case pick f a k=>rw [b f ai,b a ai,b k ai];exact XS _ _ _
 case alloc J=>exact Ku r
 case box t x=>rw [b x ai];exact Ku r
 case build t G=>rw [J8 λx e=>b x (by simpa using e)];exact hb _
 case buildSlice t K G=>rw [J8 λx e=>b x (by simpa using e)];exact zp _
 case load t a=>rw [b a ai,Wg (y t a · · · p)];exact hb _
 case store t a x=>rw [b a ai,b x ai];exact aax (z t a x p)
 case nilCheck x=>rw [b x ai];exact XQ _
 case binOp k t x g N=>rw [b x ai,b g ai];exact hb _
 case unOp k t x=>rw [b x ai];exact hb _
 case convert s d x=>rw [b x ai];exact hb _
 case makeInterface t x=>rw [b x ai];exact Kz _ _ _
 case makeFunc l a f=>rw [D0 λx e=>b x (by simp [e]),D0 λx e=>b x (by simp [e])];exact Ky _ _ _
 case makeMap t I=>exact KA _
 case makeSlice t C f=>rw [b C ai,b f ai];exact KB _ _ _
 case slice t x D w F=>
  have n: ∀g:Option Operand,(∀c,g=some c->B E L c=B E tm c)->g.map (B E L)=g.map (B E tm):=by
   intro g A;cases g with
   |none=>rfl
   |some c=>simp [A c rfl]
  rw [b x ai,n D (λc i=>b c (by simp [i])),n w (λc i=>b c (by simp [i])),n F (λc i=>b c (by simp [i]))];exact XZ _ _ _ _ _ _
 case fieldAddr s x l=>rw [b x ai];exact hb _
 case field t x l=>rw [b x ai];exact hb _
 case indexAddr t x m=>rw [b x ai,b m ai];exact hb _
 case index t x m=>rw [b x ai,b m ai];exact hb _
 case lookup t h j ok=>rw [b h ai,b j ai];exact hb _
 case mapUpdate t h j q=>rw [b h ai,b j ai,b q ai];exact zr _ _ _ _
 case insert t h j q=>rw [b h ai,b j ai,b q ai];exact zr _ _ _ _
 case range t x=>rw [b x ai];exact XV _ _
 case next x s=>rw [b x ai];exact XN _ _
 case typeAssert x O a ok=>rw [b x ai];exact hb _
 case extract x m=>rw [b x ai];exact XG _ _
 case panic x=>rw [b x ai];exact KD _
 case call f=>
  have u:f.args.toList.map (B E L)=f.args.toList.map (B E tm):=D0 λx e=>b x (by simp [Call.operands,e]);rw [u];unfold o7
  cases v:f.callee with
  |builtin k=>exact El _ _ _
  | value l=>
    simp only;rw [b l (by simp [Call.operands,v])];exact Kx _ _
  |invoke I h=>rfl
 all_goals rfl
end
end Go.aj
