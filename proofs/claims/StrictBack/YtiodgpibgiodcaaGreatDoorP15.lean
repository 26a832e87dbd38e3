/- A part of the proof. -/
import Derived.Test.YtiodgpibgiodcaaGreatDoorP00
import Derived.Test.YtiodgpibgiodcaaGreatDoorP07
import Derived.Test.YtiodgpibgiodcaaGreatDoorP12
import Derived.Test.YtiodgpibgiodcaaGreatDoorP14
set_option linter.all false
set_option maxHeartbeats 4000000
namespace Go.aj
open Go Go.Proofs.Tryz
set_option maxRecDepth 100000
def aid (kN jv rop j3:Y) (t:ak1):Bool:=aix t&&ah6 kN jv rop j3 t
def aiy (kN jv rop j3:Y) (r:List aa) (w:aa):Prop:= ∃a,w= .bool a/\(a=true->om 60 r)/\a=aid kN jv rop j3 (ah2 r)
section
variable {ax:aa} {s:List aa} {kN jv rop j3 aJ:Y} (ag:dO ax s kN jv rop j3 aJ)
include ag
omit ag in
mutual
theorem ajp: ∀t,ah6 kN jv rop j3 t=true->aib t
 | .n c i e g f h b d,a=>by simp only [ah6,br,List.isEmpty_iff,bne_iff_ne] at a;rw [aib];exact ⟨a.1.1,a.1.2,ajn b a.2.1⟩
theorem ajn: ∀l,aiq kN jv rop j3 l=true-> ∀t∈l,aib t
 | [],_=>λ_ ag=>by cases ag
 | b::l,a=>λt ag=>by
   simp only [aiq,br] at a;have c:=ajp b a.1;have d:=ajn l a.2;rcases b2.1 ag with rfl|ag
   . exact c
   . exact d t ag
end
omit ag in
theorem ajB {t:ak1} {b:Bool} (ag:aib t->b=aix t):(b&&ah6 kN jv rop j3 t)=aid kN jv rop j3 t:=by
 unfold aid
 cases bc:ah6 kN jv rop j3 t with
 |false=>simp
 |true=>rw [ag (ajp t bc)]
def Jf {r} (j:aN r):dt 49 [ax,.agg r] (aiy kN jv rop j3 r) bQ:=by
 obtain ⟨y,q⟩:=(aji j).val;obtain ⟨z,u⟩:bo λd e=>aih (ah2 r)-> ∀a f,Tidy a->az G (X G R d e) 83 [ax,.agg r] a f= .ok (.bool (ah6 kN jv rop j3 (ah2 r))) f a:=by
  by_cases i:aih (ah2 r)
  . obtain ⟨l,o⟩:=(UZ ag j i).eq;exact ⟨l,λd e g n _ a f c=>o d e g n a f c⟩
  . exact ⟨0,λ_ _ _ _ g=>absurd g i⟩
 obtain ⟨A,O,B,P,Q,S⟩:=ag.val;refine aL.run (m:=10) rfl rfl rfl rfl rfl (by simp only [aO,B];rfl) rfl rfl (y+z) λd e i I a c=> ?_;obtain ⟨_,⟨H,rfl,k,v⟩,p⟩:=q d e ab ab a c;have h:=λag f=>u d e ab ab ag a f c;have hT:=ajB (kN:=kN) (jv:=jv) (rop:=rop) (j3:=j3) v;unfold aiy;generalize ah2 r=N at*;obtain ⟨l,K,C,D,E,F,T,V,L,M,rfl,w,x⟩:=j.t;simp only [go_sem,w.J,x.J,p];refine ak.aE ?_ ?_<;>intro b
 . have h:=h (k b).2;simp only [go_sem,b,A,h];exact ak.mk ⟨_,rfl,λ_=>(k b).1,by rw [<-hT,b];rfl⟩ rfl c (U.refl _)
 . simp only [go_sem,b];exact ak.mk ⟨_,rfl,λag=>(by cases ag),by rw [<-hT,b];rfl⟩ rfl c (U.refl _)
end
inductive ek (B:Nat):List aa->Prop
  |mk {r k n l1 m1 gJ mQ y z ky i} (ag:kX r k n l1 m1 gJ mQ y z ky i) (afG:ky.length<=B) (afH:i.length<=B) (dh: ∀x∈ky,ek B x) (cq: ∀x∈i,ek B x):ek B r
def ek.wt {B r} (ag:ek B r):aN r:=by
 induction ag with
 |mk ag _ _ _ _ a b=>exact .mk ag a b
def ek.mono {B a r} (ag:ek B r) (d:B<=a):ek a r:=by
 induction ag with
 |mk ag e f _ _ b c=>exact .mk ag ab ab b c
def e1.abS {r n} (ag:e1 r n):ek n r:=by
 induction ag with
 | @mk r l n m p o q t u d e c ag g h j k=>
   have i:(d++e).length<=((d++e).map c).sum:=qq λb a=>((cr.1 a).elim (g b) (h b)).pos;rw [bD] at i;exact .mk ag ab ab (λb a=>(j b a).mono (by have:=o3 (f:=c) (hP e a);omega)) λb a=>(k b a).mono (by have:=o3 (f:=c) (h7 d a);omega)
inductive l_:List aa->List aa->Prop
  |mk {r k n l1 m1 gJ mQ y z ky i} (f:List aa->List aa) (ag:kX r k n l1 m1 gJ mQ y z ky i) (dh: ∀x∈ky,l_ x (f x)) (cq: ∀x∈i,l_ x (f x)):l_ r [.int .i64 k,.int .i64 n,.str l1 m1,.str gJ mQ,dk (ky.map f),dk (i.map f)]
def l_.wt {r e} (ag:l_ r e):aN e:=by
 induction ag with
 | @mk r l n m p o q t u h j d ag _ _ f g=>
   exact .mk (ky:=h.map d) (i:=j.map d) ⟨rfl,ag.c5,ag.pw,ag.s1,ag.s2,fW _,fW _,by rw [di];exact ag.zm,by rw [di];exact ag.Kn⟩ (λk b=>by obtain ⟨c,a,rfl⟩:=cd.1 b;exact f c a) (λk b=>by obtain ⟨c,a,rfl⟩:=cd.1 b;exact g c a)
def l_.aj3 {r c} (ag:l_ r c):aN r:=by
 induction ag with
 |mk d ag _ _ a b=>exact .mk ag a b
def l_.iU {r i} (ag:l_ r i):ah2 i=ah2 r:=by
 induction ag with
 | @mk r o n t v u w x y p q c ag g h k l=>
   have d: ∀ {b:Y},(∀a∈b,l_ a (c a))->(∀a∈b.map c,aN a)/\ ∀a∈b,aN a:=λag=>⟨λa e=>by obtain ⟨m,j,rfl⟩:=cd.1 e;exact (ag m j).wt,λa e=>(ag a e).aj3⟩;rw [ah9 ag (d g).2 (d h).2,ah9 ⟨rfl,ag.c5,ag.pw,ag.s1,ag.s2,fW _,fW _,by rw [di];exact ag.zm,by rw [di];exact ag.Kn⟩ (d g).1 (d h).1,tB,tB];have f: ∀ {b:Y},(∀a∈b,ah2 (c a)=ah2 a)->b.map (ah2∘c)=b.map ah2:=λag=>vS ag;rw [f k,f l]
def I4 {ad n:Nat} {x:aa} {rows:Y} {f:List aa->List aa} {H:af} (w:Tidy H) (e:F x rows) (ar: ∀r∈rows,aN r) (ai: ∀r∈rows,aN (f r)) (aH:rows.length<900000) (aI:rows.length<ad)
    (T: ∀r∈rows,∀H tm,Tidy H->az G (X G R ad n) 53 [.agg r] H tm= .ok (.agg (f r)) tm H):
    ∃v H',P 35 6 H H' v (rows.map f)/\ ∀tm,az G (X G R ad (n+1)) 88 [x] H tm= .ok v tm H':=by
 have ak:(rows.map f).length=rows.length:=di ..
 refine bn.at (m:=18) rfl rfl rfl rfl rfl (by simp only [aO,e.aD];rfl) rfl rfl ?_;simp only [go_sem,e.O,e.len];have hF:=trivial;generalize aG:a1 _ _ _ _ _ _ _ _ _ _=C;revert C;refine cv [6] (λs=> [(3,s.1)]) (λs=>s.2) (λo s=>P 35 6 H s.2 s.1 ((rows.map f).take o)) rows.length (.V,H) (P.new _ _ w) ?_ ?_
 . rintro o ⟨v,g⟩ tm aj a hF;simp only at a hF|-;obtain ⟨c,j⟩:=bA aj;have l:=aV j;have N:=λtm=>T c l g tm a.tidy;have q:=(ai c l).row;have ah:=ki q g;have u:Rows 6 [f c]:=λaM av=>by rw [bs.1 av];exact q
   obtain ⟨aB,B,Q,h,-⟩:=a.app (k:=6) (E:=G) (t:=33) (b:=96) (i:=t35) Ah aq rfl rfl al al (x:= .A [f c] true) (aQ:= [_]) (dR (.inr ⟨_,rfl⟩) u.len) u (by rw [h6,ak];show _+1<_;omega);have S:(rows.map f)[o]? =some (f c):=by rw [hO,j];rfl
   rw [<-od S] at h;generalize f c=aF at*;have p:=ar c l;have ao:=e.a_ (k:=6) j p.len;obtain ⟨aw,aA,D,I,K,L,aC,aE,aK,aL,rfl,Z,ae⟩:=p.t;refine au.kp [8,7,6] (λz tm H'=>g=H'/\ ∃y,M tm 3=v/\M tm 5= .W y [.int .i64 aw,.int .i64 aA,.str D I,.str K L,aC,aE]/\z tm) ?_ ?_
   . simp only [go_sem,hF,e.O,ao,Z.J,ae.J];exact an.mk ⟨rfl,_,by simp only [go_sem,hF];trivial⟩
   clear hF;rintro tm _ ⟨rfl,y,hF⟩;simp only [go_sem,hF,N,ah,bH,a.O,Q,h.O];exact au.next (aB,B) rfl h ay
 . rintro ⟨v,g⟩ tm a hF;simp only at a hF;rw [fT ab] at a;simp only [go_sem,hF,a.O,a.nl,dX,if_true];exact bn.mk (a.gc w (U.refl _) (d:=19) id)
def Uk {B:Nat} (aL:B<900000) {r:List aa} (b:ek B r): ∃i,l_ r i/\K 53 [.agg r] (.agg i):=by
 induction b with
 | @mk r I L M P N Q aF aG w x b aR aS ah ai an ao=>
 have ak: ∀a∈w++x,∃i,l_ a i/\K 53 [.agg a] (.agg i):=λa d=>(cr.1 d).elim (an a) (ao a)
 classical
 let c:List aa->List aa:=λa=>if d: ∃i,l_ a i/\K 53 [.agg a] (.agg i) then Classical.choose d else []
 have q: ∀a∈w++x,l_ a (c a)/\K 53 [.agg a] (.agg (c a)):=λa d=>by have ag:=ak a d;have A:c a=Classical.choose ag:=dif_pos ag;rw [A];exact Classical.choose_spec ag
 obtain ⟨aq,u⟩:=C.all (l:=w++x) (f:=53) (g:=λa=> [.agg a]) (v:=λa=> .agg (c a)) λa d=>(q a d).2;generalize c=c at*;refine ⟨_,.mk c b (λa d=>(q a (hP _ d)).1) (λa d=>(q a (h7 _ d)).1),aq+B+2,λt h aM aN e j p=> ?_⟩;obtain ⟨h,rfl⟩: ∃ar,h=ar+1+1:=⟨h-2,ab⟩;obtain ⟨rfl,-,-,-,-,D,E,aP,aQ⟩:=b;obtain ⟨aB,z,k,U⟩:=I4 (ad:=t) (n:=h) (f:=c) p D (λr b=>(ah r b).wt) (λr b=>(q r (hP _ b)).1.wt) ab ab λr b e j p=>u t h ab ab r (hP _ b) e j p;obtain ⟨aC,aH,o,V⟩:=I4 (ad:=t) (n:=h) (f:=c) k.tidy E (λr b=>(ai r b).wt) (λr b=>(q r (h7 _ b)).1.wt) ab ab λr b e j p=>u t h ab ab r (h7 _ b) e j p;have F:=k.at o.tidy o.up;have Y:=o.mono k.up;have ae: ∀id,cW aC=some id->cW aB≠some id:=λid u Z=>by have:=o.W.ge u;have:=k.W.lt Z;omega
 obtain ⟨aK,aw,aA,aD,av⟩:=F.aZ 48 al al;have H:=Y.bS aA (aD e (aT _) F.up) λid au af ag=>av id au af (ae id ag);obtain ⟨T,ay,aU,aE,-⟩:=H.aZ 48 al al;have: ∃S z,(S= .agg [.int .i64 I,.int .i64 L,.str M P,.str N Q,dk (w.map c),dk (x.map c)]/\z=e)/\ ∀j,az G (X G R t (h+1+1)) 53 [.agg [.int .i64 I,.int .i64 L,.str M P,.str N Q,aF,aG]] e j= .ok S j z:=by
  refine dJ.at (m:=11) rfl rfl rfl rfl rfl rfl rfl rfl ?_;simp only [go_sem,D.J,E.J,D.O,E.O,U,k.O,V,o.O,k.ok,o.ok,k.cs,o.cs];refine dJ.mk (wB (H':=T) ?_) ⟨rfl,gV p (aE e (aT _) H.up) ?_⟩
  . simp only [cD,Go.aj.zB,Go.aj.wC,aw,ay]
  . show List.all [_,_,_,_,_,_] (y e.n 19)=true;simp only [aO,fR e.n 19 19 _ (aT _) ((fW _).aI 18)];rfl
 obtain ⟨_,_,⟨rfl,rfl⟩,A⟩:=this;exact A j
abbrev oj:=List (Bool×Nat×Nat×Nat)
def vv (kN jv rop j3 aJ:Y) (b:oj) (u:Sub):Bool:=b.all λa=>l7 kN jv rop j3 aJ ((dw u a.2.1).getD eb)==a.1
structure sz (ax:aa) (VT r:List aa) (O:Option Sub) (AA:oj) (rg:List aa):Prop where
  eq: ∃p nl n3 qT qU w n_ pc,r=j5 p nl n3 qT qU w/\F w (AA.map jf)/\rg=eX qU cM/\F qT n_/\F qU pc/\bo λad n=> ∀(PK:Bool) H,Tidy H-> ∃v,ka O v/\ ∀tm,az G (X G R ad n) 50 [ax,.A [[.V]] PK,.agg (eX qT cM),.agg VT] H tm= .ok v tm H
  aaJ: ∀u,O=some u->c7 u/\AN u/\ek 200000 (cj u 4 rg)
  Am:iB 4 rg
  c: ∀q∈AA,q.2.1<10
  P1:AA.length<=100
section
variable {ax:aa} {s:List aa} {kN jv rop j3 aJ:Y} (ag:dO ax s kN jv rop j3 aJ)
include ag
def ais (kN jv rop j3 aJ:Y) (c:Option Sub) (b:oj) (d:List aa):Prop:= ∃a,c=some a/\vv kN jv rop j3 aJ b a=true/\aid kN jv rop j3 (ah2 (cj a 4 d))=true
def pB (kN jv rop j3 aJ:Y) (g:Y) (P:List aa->Option Sub->oj->List aa->Prop) (v:aa):Prop:=(v= .av [.agg eb,.int .i64 4]/\ ∀e∈g,∃d c a,P e d c a/\ ¬ais kN jv rop j3 aJ d c a)\/
 ∃e d c a b f,P e d c a/\d=some b/\c7 b/\vv kN jv rop j3 aJ c b=true/\(om 60 (cj b 4 a)/\aid kN jv rop j3 (ah2 (cj b 4 a))=true)/\l_ (cj b 4 a) f/\v= .av [.agg f,.int .i64 0]
theorem Vn {aC:List aa} (ct:aN aC) (P:List aa->Option Sub->oj->List aa->Prop) (i:Y) (cW:i.length<1048560) (bs: ∀r∈i,∃e b d,sz ax aC r e b d/\P r e b d):bo λad n=> ∀x H,cG H 7 x i->Tidy H->
  ∃v,pB kN jv rop j3 aJ i P v/\ ∀tm,az G (X G R ad n) 28 [ax,x,.agg aC] H tm= .ok v tm H:=by
 obtain ⟨bh,db,cP,dc,dd,df⟩:=ag.val;obtain ⟨cF,aw⟩:=dE (l:=i) (Q:=λr ad n=> ∃e b d,P r e b d/\(∃u I K o g y aq ar,r=j5 u I K o g y/\F y (b.map jf)/\d=eX g cM/\F o aq/\F g ar/\ ∀(ae:Bool) H,Tidy H-> ∃v,ka e v/\ ∀tm,az G (X G R ad n) 50 [ax,.A [[.V]] ae,.agg (eX o cM),.agg aC] H tm= .ok v tm H)/\
   ∀ a,e=some a->c7 a/\aN (cj a 4 d)/\(∀x H,F x (a.map cg)->Tidy H-> ∀tm,az G (X G R ad n) 51 [.agg d,x] H tm= .ok (.agg (cj a 4 d)) tm H)/\
     (∀aF x H,F aF (b.map jf)->F x (a.map cg)->Tidy H-> ∀tm,az G (X G R ad n) 52 [ax,aF,x] H tm= .ok (.bool (vv kN jv rop j3 aJ b a)) tm H)/\
     (∀H,Tidy H-> ∃v,aiy kN jv rop j3 (cj a 4 d) v/\ ∀tm,az G (X G R ad n) 49 [ax,.agg (cj a 4 d)] H tm= .ok v tm H)/\
     ∃B,l_ (cj a 4 d) B/\ ∀H tm,Tidy H->az G (X G R ad n) 53 [.agg (cj a 4 d)] H tm= .ok (.agg B) tm H) λr aY=>by
  obtain ⟨e,b,d,C,ah⟩:=bs r aY;obtain ⟨u,I,K,o,g,y,aq,ar,bz,f,bE,a7,a8,L,bp⟩:=C.eq
  cases af:e with
  |none=>exact ⟨L,λad n bJ bK=>⟨none,b,d,by rw [<-af];exact ah,⟨u,I,K,o,g,y,aq,ar,bz,f,bE,a7,a8,λae H f=>by rw [<-af];exact bp ad n bJ bK ae H f⟩,λa M=>by cases M⟩⟩
  | some a=>
    obtain ⟨bd,cN,bf⟩:=C.aaJ a af;obtain ⟨S,b0⟩:=Vm 4 al;obtain ⟨T,b1⟩:=Vs ag b C.c C.P1 bd;obtain ⟨Z,b2⟩:=(Jf ag bf.wt).val;obtain ⟨B,cp,bN,b3⟩:=Uk al bf;refine ⟨L+S+T+Z+bN,λad n bJ bK=>⟨some a,b,d,by rw [<-af];exact ah,⟨u,I,K,o,g,y,aq,ar,bz,f,bE,a7,a8,λae H f=>by rw [<-af];exact bp ad n ab ab ae H f⟩,λcO M=> ?_⟩⟩;cases M;exact ⟨bd,bf.wt,λx H q f tm=>b0 ad n ab ab d a x H C.Am bd cN q f tm,λaF x H cD q f tm=>b1 ad n ab ab aF x H cD q f tm,λH f=>b2 ad n ab ab H f,B,cp,λH tm f=>b3 ad n ab ab H tm f⟩
 have cc: ∀r∈i,r.length=7:=λr aY=>by obtain ⟨_,_,_,C,-⟩:=bs r aY;obtain ⟨_,_,_,_,_,_,_,_,rfl,-⟩:=C.eq;rfl
 refine ⟨cF+i.length+10,λad n cY cZ x H q f=> ?_⟩;obtain ⟨n,rfl⟩:=bY n;have cu:=ct;obtain ⟨ba,bb,L,S,T,Z,bj,bk,c3,c6,rfl,cd,cf⟩:=cu.t;refine hg (aL.at (m:=54) rfl rfl rfl rfl rfl (by simp only [aO,q.aD,cP];rfl) rfl rfl ?_);refine ak.bM (λtm p=>H=p/\aM 57 [(0,ax),(1,x),(5,.W 0 [.int .i64 ba,.int .i64 bb,.str L S,.str T Z,bj,bk]),(6,.W 0 [.int .i64 0,.int .i64 0,.str 0 0,.str 0 0,.V,.V]),(7,.int .i64 0)] tm) ?_ ?_
 . simp only [go_sem,cd.J,cf.J];exact an.mk ⟨rfl,dC⟩
 rintro tm _ ⟨rfl,hF⟩;simp only [go_sem,hF,q.O,q.len];generalize b8:a1 _ _ _ _ _ _ _ _ _ _=aH;revert aH;refine dA [0,5,6,7,13] (λE=> ∀r∈i.take E,∃e b d,P r e b d/\ ¬ais kN jv rop j3 aJ e b d) i.length ai ?_ ?_
 rotate_left
 . rintro bc tm aB hF;rw [bX] at aB;simp only [go_sem,hF];exact ak.mk (.inl ⟨rfl,aB⟩) rfl f (U.refl _)
 clear hF;rintro E bc tm cr aB hF;obtain ⟨r,aZ⟩:=bA cr;have cx:=aV aZ;obtain ⟨e,b,d,ah,⟨u,I,K,o,g,y,aq,ar,rfl,a6,rfl,a7,a8,b5⟩,bG⟩:=aw ad n ab ab r cx;have ca: ¬ais kN jv rop j3 aJ e b (eX g cM)-> ∀r∈i.take (E+1),∃e b d,P r e b d/\ ¬ais kN jv rop j3 aJ e b d:=λag cL aX=>by
  rcases tT aZ aX with aX|rfl
  . exact aB cL aX
  . exact ⟨e,b,_,ah,ag⟩
 obtain ⟨v,aj,bn⟩:=b5 true H f;obtain ⟨-,c2,cB⟩:=aj.aI 0;have c1:J cM=true:=rfl;obtain ⟨da,bC,cv,bB,-⟩:=q.at cc aZ;have bD:F (.A [wH u o g] true) [wH u o g]:= .inr ⟨_,rfl⟩;have aW:=bD.vJ (k:=11) rfl rfl;have cl:=Gl (w:= .V) (r:= []) (.inl ⟨rfl,rfl⟩) H;have c0:J (if rp u then aa.str 0 0 else .str 1 105)=true:=by split<;>rfl
 simp only [j5,wH,eX] at bB aW bn bG bD;generalize (if rp u then aa.str 0 0 else .str 1 105)=bl at*;refine au.bM (λtm p=>H=p/\ ∃bg,aM 57 [(15,.int .i64 (E:Nat)),(14,.int .i64 (i.length:Nat)),(0,ax),(5,.W 0 [.int .i64 ba,.int .i64 bb,.str L S,.str T Z,bj,bk]),(6,.W 0 [.int .i64 0,.int .i64 0,.str 0 0,.str 0 0,.V,.V]),(7,.int .i64 0),(13,x),(9,.W bg [.str I K,.A [[.str 1 107,bl,.int .i64 7,.int .i64 0,.str 0 0,.str 0 0,o,cM,.A [[.int .i64 7,.int .i64 0,.str 0 0,.str 0 0,g,cM]] true,.int .i64 0,.int .i64 0]] true,y,.V,.V,.int .i64 0,.int .i64 0])] tm) ?_ ?_
 . simp only [go_sem,hF,q.O,bC,cv,CI bC,bB,a6.J];exact an.mk ⟨rfl,_,by simp only [go_sem,hF];trivial⟩
 clear hF;rintro tm _ ⟨rfl,bg,hF⟩;refine au.bF hF (λaG tm p=>H=p/\ ∃h:Nat,(iL v=some (.int .i64 (h:Nat))/\h<=1/\(h=0->e=none))/\aM 57 [(27,v),(28,.int .i64 (h:Nat)),(29,.int .i64 0)] tm/\aG tm) ?_ ?_
 . obtain ⟨h,aA,br,aU⟩: ∃h:Nat,iL v=some (.int .i64 (h:Nat))/\h<=1/\(h=0->e=none):=by
    cases e with
    |none=>cases aj;exact ⟨0,rfl,al,λ_=>rfl⟩
    |some a=>obtain ⟨z,aK,-,rfl⟩:=aj;exact ⟨1,rfl,al,λag=>absurd ag al⟩
   have bZ:D bR .V=true:=rfl;simp only [go_sem,hF,bh,cl,bZ,bH,aW,bn,cB,aA];exact an.mk ⟨rfl,h,⟨aA,br,aU⟩,ay⟩
 clear hF;rintro tm _ ⟨rfl,h,⟨aA,br,aU⟩,hF⟩;simp only [go_sem];generalize b8:a1 _ _ _ _ _ _ _ _ _ _=aH;revert aH;refine dA [15,14,0,5,6,7,13,9,27] (λE=>E=0\/ ¬ais kN jv rop j3 aJ e b (eX g cM)) h (.inl rfl) ?_ ?_
 rotate_left
 . rintro bc tm cb hF;simp only [go_sem];refine au.next () rfl (ca (cb.elim (λag=> ?_) id)) ay;rintro ⟨a,bI,-⟩;rw [aU ag] at bI;cases bI
 clear hF;rintro cE bc tm cX-hF;obtain rfl:cE=0:=ab
 cases e with
 |none=>cases aj;simp only [iL,N,aa.int.injEq,true_and] at aA;omega
 | some a=>
   obtain ⟨z,aK,ao,rfl⟩:=aj;obtain ⟨cz,cC,aP,aQ,aR,B,bx,aS⟩:=bG a rfl;have aP:=λtm=>aP z H ao.A f tm;have aQ:=λtm=>aQ y z H a6 ao.A f tm;obtain ⟨_,⟨bm,rfl,ck,bt⟩,aR⟩:=aR H f;have aS:=λtm=>aS H tm f;have b6:=λ(M:bm=true) (aT:vv kN jv rop j3 aJ b a=true)=>(show pB kN jv rop j3 aJ i P (.av [.agg B,.int .i64 0]) from .inr ⟨_,some a,b,_,a,B,ah,rfl,cz,aT,⟨ck M,bt.symm.trans M⟩,bx,rfl⟩);have ch:(vv kN jv rop j3 aJ b a=false\/bm=false)-> ¬ais kN jv rop j3 aJ (some a) b (eX g cM):=by
    rintro ag ⟨cO,cA,aw,b4⟩;cases cA;rcases ag with ag|ag
    . rw [ag] at aw;cases aw
    . have bq:=bt.trans b4;rw [ag] at bq;cases bq
   have cq:=bx.wt;generalize vv kN jv rop j3 aJ b a=cV at*;generalize cj a 4 _=cU at*;obtain ⟨cH,cJ,bO,bP,bQ,bS,cQ,cS,c4,c8,rfl,cm,cn⟩:=cC.t;obtain ⟨cI,cK,bT,bU,bV,bW,cR,cT,c5,c9,rfl,bu,bw⟩:=cq.t;have b7:F (.A [[z]] aK) [[z]]:= .inr ⟨_,rfl⟩;have b9:=b7.a_ (k:=1) (j:=0) (r:= [z]) rfl rfl;have cw:F (.A [[.int .i64 7,.int .i64 0,.str 0 0,.str 0 0,g,cM]] true) [[.int .i64 7,.int .i64 0,.str 0 0,.str 0 0,g,cM]]:= .inr ⟨_,rfl⟩;have cy:=cw.vJ (k:=6) rfl rfl;refine au.bM (λtm p=>H=p/\aM 57 [(29,.int .i64 ((0:Nat):Int)),(28,.int .i64 (h:Nat)),(15,.int .i64 (E:Nat)),(14,.int .i64 (i.length:Nat)),(0,ax),(5,.W 0 [.int .i64 ba,.int .i64 bb,.str L S,.str T Z,bj,bk]),(6,.W 0 [.int .i64 0,.int .i64 0,.str 0 0,.str 0 0,.V,.V]),(7,.int .i64 0),(13,x),(9,.W bg [.str I K,.A [[.str 1 107,bl,.int .i64 7,.int .i64 0,.str 0 0,.str 0 0,o,cM,.A [[.int .i64 7,.int .i64 0,.str 0 0,.str 0 0,g,cM]] true,.int .i64 0,.int .i64 0]] true,y,.V,.V,.int .i64 0,.int .i64 0]),(27,.A [[z]] aK),(11,z)] tm) ?_ ?_
   . simp only [go_sem,hF,b9,ao.A.O];exact an.mk ⟨rfl,ay⟩
   clear hF;rintro tm _ ⟨rfl,hF⟩;refine au.bF hF (λaG tm p=>H=p/\ ∃bL,aM 57 [(12,.W bL [.int .i64 cH,.int .i64 cJ,.str bO bP,.str bQ bS,cQ,cS])] tm/\aG tm) ?_ ?_
   . simp only [go_sem,hF,aW,cy,ao.A.O,aP,cm.J,cn.J];exact an.mk ⟨rfl,_,by simp only [go_sem,hF];trivial⟩
   clear hF;rintro tm _ ⟨rfl,bL,hF⟩;simp only [go_sem,hF,bh,a6.O,ao.A.O,aQ]
   iterate 2 all_goals try (refine au.aE ?_ ?_<;>intro aT<;>try simp only [go_sem,hF,aT,bh,aR,aS,bu.J,bw.J])
   all_goals first
    |exact au.next () rfl (.inr (ch de)) ay
    |skip
   refine au.stop rfl ?_;simp only [go_sem];refine au.stop rfl ?_;simp only [go_sem,hF];refine ak.mk (b6 (by assumption) (by assumption)) ?_ f (U.refl _);show ([aa.int .i64 cI,.int .i64 cK,.str bT bU,.str bV bW,cR,cT].all (D 18)&&_)=true;simp only [aO,bu.aI 17,bw.aI 17];rfl
end
def BR {l m j:Nat} (f:T l m) (e:j<8):T (fe l) (gD l m j):=by
 unfold T at*;unfold fe gD;rw [yY,yY];have b:2^(8*l)=256^l:=by rw [vW]
 have c:2^(8*(l+1))=256*256^l:=by rw [vW,rL,rK]
 have d:256^(l+1+1)=65536*256^l:=by rw [rL,rL];omega
 rw [b,c,d];generalize 256^l=a at*;have:(48+(j+1))*(256*a)<=56*(256*a):=fU _ ab;omega
def ek.kids {B:Nat} {r:List aa} (a:ek B r):(f (M r 4)).length<=B/\ ∀x∈f (M r 4),ek B x:=by
 cases a with
 | @mk _ e n h k i l m o g q a j s d p=>
   obtain ⟨rfl,-,-,-,-,c,-⟩:=a;have b:f (M [.int .i64 e,.int .i64 n,.str h k,.str i l,m,o] 4)=g:=bm c;rw [b];exact ⟨j,d⟩
def ach (B):ek B eb:= .mk (ky:= []) (i:= []) ⟨rfl,by unfold T;decide,by unfold T;decide,al,al,.inl ⟨rfl,rfl⟩,.inl ⟨rfl,rfl⟩,al,al⟩ (fV _) (fV _) (λ_ a=>by cases a) (λ_ a=>by cases a)
def V9 {u:Sub} {a:Nat} {P:List aa->Prop} (c:P eb) (b: ∀p∈u,P p.2):P ((dw u a).getD eb):=by
 unfold dw
 cases d:u.find? λp=>p.1==a with
 |none=>exact c
 |some p=>exact b p (yS d)
def vg {u:Sub} (h:c7 u) {B:Nat} (k:B<1048560) (g: ∀p∈u,ek B p.2): ∀ {d r},d<1000->iB d r->ek (B+8*d) (cj u d r)
 |0,_,_,b=>b.elim
 | d +1,r,I,b=>by
   rcases b with ⟨E,F,G,rfl,o,J⟩|⟨K,z,L,O,x,y,V,W,m,j,b,q,N,w,n,l⟩
   . rw [BN h o];exact (V9 (P:=ek B) (ach B) g).mono ab
   . obtain ⟨rfl,C,U,A,S,t,v,Q,R⟩:=b;rw [BM u d z x y q t v];have s:(m.map (cj u d)++j.flatMap λa=>f (M (cj u d a) 4)).length<=B+8*(d+1):=by have:=nF (λa=>f (M (cj u d a) 4)) (B+8*d) j λa e=>(vg h k g ab (l a e)).kids.1;rw [bD,di];have H:j.length*(B+8*d)<=1*(B+8*d):=fU _ w;omega
     refine .mk (ky:=m.map (cj u d)++j.flatMap λa=>f (M (cj u d a) 4)) (i:= []) ⟨rfl,C,by unfold T;decide,A,al,fW _,.inl ⟨rfl,rfl⟩,ab,al⟩ s (fV _) (λD c=> ?_) (λ_ b=>by cases b);rcases cr.1 c with c|c
     . obtain ⟨a,e,rfl⟩:=cd.1 c;exact (vg h k g ab (n a e)).mono ab
     . obtain ⟨a,e,c⟩:=fC.1 c;exact ((vg h k g ab (l a e)).kids.2 D c).mono ab
def Fk {d a c e:Nat} (b:a<10) (f:T c e/\c<4611686018427387904):iB (d+1) (c_ a c e):= .inl ⟨a,c,e,rfl,b,pr f.1 f.2 b⟩
def Nt {d l m:Nat} {y:aa} {rows:Y} (b:T l m/\l<4611686018427387904) (e:F y rows) (c:rows.length<=8) (a: ∀r∈rows,iB d r):iB (d+1) (cm l m y):=
 .inr ⟨5,0,l,m,0,0,y,.V,rows,[],⟨rfl,b.1,by unfold T;decide,b.2,al,e,.inl ⟨rfl,rfl⟩,ab,al⟩,al,c,al,a,λ_ a=>by cases a⟩
def Nu {d:Nat} {y:aa} {rows:Y} (e:F y rows) (b:rows.length<=8) (a: ∀r∈rows,iB (d+1) r):iB (d+2) (eX y cM):=
 .inr ⟨7,0,0,0,0,0,y,cM,rows,[c_ 0 4 1953720652],⟨rfl,by unfold T;decide,by unfold T;decide,al,al,e,zH,ab,al⟩,al,b,al,a,λr c=>by rw [bs.1 c];exact Fk al rQ⟩
theorem Nj {args:Y} (e:b8 args) {i:Nat} (f:i<args.length): ∃a b,args[i]? =some [.str a b]/\(cp args)[i]? =some (c_ (i+2) a b)/\T a b/\a<4611686018427387904:=by obtain ⟨g,c⟩:=bA f;obtain ⟨a,b,rfl,d⟩:=e g (aV c);refine ⟨a,b,c,?_,d⟩;unfold cp;rw [yO,c];rfl
def abN {args:Y} (g:b8 args) (j:args.length<=8): ∀r∈cp args,∃i a b,i<args.length/\r=c_ (i+2) a b/\T a b/\a<4611686018427387904:=λr h=>by
 obtain ⟨i,c⟩:=jo h;have d:=(e6.1 c).1;rw [qP] at d;obtain ⟨a,b,-,e,f⟩:=Nj g d;rw [e] at c;cases c;exact ⟨i,a,b,d,rfl,f⟩
def wZ {args:Y} (a:b8 args) (b:args.length<=8) (d:Nat): ∀r∈cp args,iB (d+1) r:=λr c=>by
 obtain ⟨i,f,g,h,rfl,e⟩:=abN a b r c;exact Fk ab e
def nL (args st:Y) (a j:Nat):oj:=((st.take a).map λb=>(true,(hh args)[(j7 b-1).toNat]?.getD (0,0,0)))++ [(false,(hh args)[j]?.getD (0,0,0))]
def Nq {args:Y} (d:b8 args) {i:Nat} (e:i<args.length): ∃a b,args[i]? =some [.str a b]/\(hh args)[i]? =some (i+2,a,b):=by
 obtain ⟨f,c⟩:=bA e;obtain ⟨a,b,rfl,g⟩:=d f (aV c);exact ⟨a,b,c,by unfold hh;rw [yO,c];rfl⟩
theorem M6 {args:Y} (d:b8 args) {i:Int} (k:1<=i) (l:i<=args.length): ∃a b,(hh args)[(i-1).toNat]? =some ((i-1).toNat+2,a,b)/\jA args i=c_ ((i-1).toNat+2) a b:=by obtain ⟨a,b,e,f⟩:=Nq d (i:=(i-1).toNat) ab;obtain ⟨h,j,c,g,-⟩:=Nj d (i:=(i-1).toNat) ab;rw [e] at c;cases c;refine ⟨a,b,f,?_⟩;unfold jA;rw [g];rfl
theorem Sy {args st:Y} (c:b8 args) {d j:Nat} (m: ∀q∈st,∃i:Int,q= [.int .i64 i]/\1<=i/\i<=args.length) (n:j<args.length):(nL args st d j).map jf=lQ args st d j:=by
 unfold nL lQ;rw [vR,tB];congr 1
 . refine vS λq l=> ?_;obtain ⟨i,rfl,h,k⟩:=m q (hQ l);obtain ⟨e,f,a,b⟩:=M6 c h k;show jf (true,(hh args)[(i-1).toNat]?.getD (0,0,0))=fb (jA args i);rw [a,b];rfl
 . obtain ⟨e,f,a,b⟩:=M6 c (i:=((j+1:Nat):Int)) ab ab;have g:(((j+1:Nat):Int)-1).toNat=j:=ab;rw [g] at a b;rw [b,a];rfl
def Sx {args st:Y} (e:b8 args) (l:args.length<=8) {g j:Nat} (k:j<args.length): ∀q∈nL args st g j,q.2.1<10:=λq a=>by
 have c: ∀b:Nat,((hh args)[b]?.getD (0,0,0)).1<10:=λb=>by
  by_cases f:b<args.length
  . obtain ⟨h,i,-,d⟩:=Nq e f;rw [d];show b+2<10;omega
  . have:(hh args)[b]? =none:=List.getElem?_eq_none_iff.2 (by unfold hh;rw [C2];omega);rw [this];decide
 unfold nL at a;rcases cr.1 a with a|a
 . obtain ⟨m,-,rfl⟩:=cd.1 a;exact c _
 . rw [bs.1 a];exact c j
def Cc (l m:Nat) (args:Y) (j:Nat):List aa:=eX (.A [jA args ((j+1:Nat):Int),cm (fe l) (gD l m j) (.A ((cp args).eraseIdx j) false)] true) cM
def A7 (l m:Nat) (args:Y) (j:Nat):List aa:=eX (.A [cm l m (dk ((cp args).set j (ps args j)))] true) cM
def NG {y:aa} {rows:Y} (c:F y rows) (b: ∀r∈rows,aN r) (a:rows.length<4611686018427387904):aN (eX y cM):=
 .mk (ky:=rows) (i:= [c_ 0 4 1953720652]) ⟨rfl,by unfold T;decide,by unfold T;decide,al,al,c,zH,a,al⟩ b λr ag=>by rw [bs.1 ag];exact pr rQ.1 rQ.2 al
def NF {l m:Nat} {y:aa} {rows:Y} (a:T l m/\l<4611686018427387904) (d:F y rows) (c: ∀r∈rows,aN r) (b:rows.length<4611686018427387904):aN (cm l m y):=
 .mk (ky:=rows) (i:= []) ⟨rfl,a.1,by unfold T;decide,a.2,al,d,.inl ⟨rfl,rfl⟩,b,al⟩ c λ_ ag=>by cases ag
def Mf {kN jv rop j3:Y} {a c d:Nat} {t:List aa} {u f:Sub} {P:List aa->Prop} (ag: ∀p∈u,P p.2) (g:P t) (e:fx kN jv rop j3 a c d t u=some f): ∀p∈f,P p.2:=λp b=>by
 unfold fx at e;split at e
 . cases e;unfold gj at b;rcases cr.1 b with b|b
   . exact ag p (hQ b)
   . rcases b2.1 b with rfl|b
     . exact g
     . exact ag p (List.mem_of_mem_drop b)
 . cases e
def Lj {B:Nat} {y:aa} {rows:Y} (b:F y rows) (c:B<1048560) (d:rows.length<=B) (a: ∀r∈rows,ek B r) (n:Nat):ek B (j2 y n):=
 .mk (ky:=rows.drop n) (i:= []) ⟨rfl,by unfold T;decide,by unfold T;decide,al,al,BB b n,.inl ⟨rfl,rfl⟩,by rw [oW];omega,al⟩ (by rw [oW];omega) (fV _) (λr ag=>a r (List.mem_of_mem_drop ag)) (λ_ ag=>by cases ag)
def Mb {kN jv rop j3:Y} {l m:Nat} {L:gS} (c:jG L) {t:List aa} {u b:Sub} {P:List aa->Prop} (g: ∀p∈u,∀q∈L,p.1<q.1) (ag: ∀p∈u,P p.2) (d: ∀x∈f (M t 4),P x) (e:ly kN jv rop j3 l m L t u=some b): ∀p∈b,P p.2:=λp a=>by
 obtain ⟨k,n,o,r,i,rfl,j,rfl⟩:=zW c g e;rcases cr.1 a with a|a
 . exact ag p a
 . unfold k2 at a;obtain ⟨i,h,rfl⟩:=cd.1 a;exact d _ (C5 h).2
section
variable {kN jv rop j3:Y}
theorem Md {B:Nat} (T:B<1048560) {l m:Nat} {L:gS} (h:jG L) {t:List aa} (D:ek B t) {u:Sub} (e:sd kN jv rop j3 l m L t []=some u):
  c7 u/\(∀p∈u,ek B p.2)/\ ∃k n w y z q rest,t= [.int k 7,n,.str 0 0,w,y,z]/\f y=q::rest/\(∃o r w' d v,q= [.int o 5,r,.str l m,w',d,v]/\L.length=(f d).length/\u=(0,j2 y 1)::k2 L (f d)):=by
 have W:=D;obtain ⟨X,F,ah,ai,K,N,I,J,H,ar,E,ak,an⟩:=D.wt.ea;have ao:=E.zm;obtain ⟨rfl,g,aq⟩:=E.c;obtain ⟨x,i⟩:=W.kids;have S:f (M [.int .i64 X,.int .i64 F,.str ah ai,.str K N,I,J] 4)=H:=bm g;rw [S] at x i;simp only [sd,bm g] at e;split at e
 . rename_i U;obtain ⟨rfl,rfl,rfl⟩:=U
   cases H with
   |nil=>cases e
   | cons q af=>
     simp only at e
     cases b:ly kN jv rop j3 l m L q [] with
     |none=>rw [b] at e;cases e
     | some aj=>
       rw [b] at e;simp only [nT] at e;have A:=i q (dF ..);have j: ∀p∈([]:Sub),∀q∈L,p.1<q.1:=λ_ ag=>by cases ag
       obtain ⟨Z,ab⟩:=zX (u:= []) h A.wt wP j b;have G: ∀p∈aj,0<p.1:=λp V=>by
        rcases ab p V with ag|ag
        . cases ag
        . omega
       have C:=Lj g T x i 1;obtain ⟨ad,ae⟩:=se (a:=0) al C.wt Z (s7 G) e;have Y:=Mb (P:=ek B) h j (λ_ ag=>by cases ag) A.kids.2 b;refine ⟨ad,Mf Y C e,.i64,.int .i64 F,.str K N,I,J,q,af,rfl,bm g,?_⟩;obtain ⟨o,r,w',d,v,O,Q,R⟩:=zW h j b;refine ⟨o,r,w',d,v,O,Q,?_⟩;rw [ae,IQ G,R];rfl
 . cases e
theorem Mc {B:Nat} (Z:B<1048560) {c d l m:Nat} {L:gS} (j:jG L) {t:List aa} (I:ek B t) {u:Sub} (e:sc kN jv rop j3 c d l m L t []=some u):
  c7 u/\(∀p∈u,ek B p.2)/\ ∃k n w y z q q' rest,t= [.int k 7,n,.str 0 0,w,y,z]/\f y=q::q'::rest/\ja kN jv (eh kN rop j3 q).1 (eh kN rop j3 q).2 c d=true/\(∃x A w' i D,q'= [.int x 5,A,.str l m,w',i,D]/\L.length=(f i).length/\u=(0,j2 y 2)::(1,q)::k2 L (f i)):=by
 have af:=I;obtain ⟨aj,K,aw,ay,S,T,Q,R,O,aF,J,aB,aC⟩:=I.wt.ea;have aD:=J.zm;obtain ⟨rfl,r,aE⟩:=J.c;obtain ⟨E,o⟩:=af.kids;have Y:f (M [.int .i64 aj,.int .i64 K,.str aw ay,.str S T,Q,R] 4)=O:=bm r;rw [Y] at E o;simp only [sc,bm r] at e;split at e
 . rename_i ad;obtain ⟨rfl,rfl,rfl⟩:=ad
   cases O with
   |nil=>cases e
   |cons q C=>
   cases C with
   |nil=>cases e
   | cons q' C=>
     simp only at e
     cases b:fx kN jv rop j3 1 c d q [] with
     |none=>rw [b] at e;cases e
     |some az=>
     rw [b] at e;simp only [nT] at e;have F:=o q (dF ..);have G:=o q' ai;have ae:oq 1 ([]:Sub):=x_ λ_ ag=>by cases ag
     obtain ⟨an,ao⟩:=se (a:=1) al F.wt wP ae b;have U:az= [(1,q)]:=by rw [ao];rfl
     have ab:ja kN jv (eh kN rop j3 q).1 (eh kN rop j3 q).2 c d=true:=by
      unfold fx at b;split at b
      . assumption
      . cases b
     subst U
     cases g:ly kN jv rop j3 l m L q' [(1,q)] with
     |none=>rw [g] at e;cases e
     | some aA=>
       rw [g] at e;simp only [nT] at e;have v: ∀p∈([(1,q)]:Sub),∀z∈L,p.1<z.1:=λp h z ah=>by rw [bs.1 h];have:=(j.lt z ah).1;show 1<z.1;omega
       obtain ⟨aq,ar⟩:=zX j G.wt an v g;have N: ∀p∈aA,0<p.1:=λp h=>by
        rcases ar p h with ag|ag
        . rw [bs.1 ag];show 0<1;decide
        . omega
       have H:=Lj r Z E o 2;obtain ⟨au,av⟩:=se (a:=0) al H.wt aq (s7 N) e;have ak:=Mb (P:=ek B) j v (λp h=>by rw [bs.1 h];exact F) G.kids.2 g;refine ⟨au,Mf ak H e,.i64,.int .i64 K,.str S T,Q,R,q,q',C,rfl,bm r,ab,?_⟩;obtain ⟨x,A,w',i,D,V,W,X⟩:=zW j v g;refine ⟨x,A,w',i,D,V,W,?_⟩;rw [av,IQ N,X];rfl
 . cases e
end
def SB {l m:Nat} {args:Y} (g:T l m/\l<1000) (c:b8 args) (b:args.length<=8) {j:Nat} (h:j<args.length):iB 4 (Cc l m args j):=by
 have i:(cp args).length<=8:=by rw [qP];exact b
 have f:jA args ((j+1:Nat):Int)∈cp args:=M5 ab ab;have e:T (fe l) (gD l m j)/\fe l<4611686018427387904:=⟨BR g.1 ab,by unfold fe;omega⟩;exact Nu (.inr ⟨_,rfl⟩) ai λd a=>by
  simp only [b2,dG,or_false] at a;rcases a with rfl|rfl
  . exact wZ c b 2 _ f
  . exact Nt e (.inr ⟨_,rfl⟩) (by have:=C0 (cp args) j;omega) λd a=>wZ c b 1 d (tC a)
def ai7 {l m:Nat} {args:Y} (o:T l m/\l<1000) (e:b8 args) (d:args.length<=8) {j:Nat} (t:j<args.length) {a b:Nat} (f:args[j]? =some [.str a b]):iB 4 (A7 l m args j):=by
 have n:(cp args).length<=8:=by rw [qP];exact d
 have i:ps args j=c_ 1 a b:=by unfold ps;rw [f];rfl
 obtain ⟨p,k⟩:T a b/\a<4611686018427387904:=by obtain ⟨q,r,h,ag⟩:=e _ (aV f);cases h;exact ag
 exact Nu (.inr ⟨_,rfl⟩) ai λg c=>by
  rw [bs.1 c];refine Nt ⟨o.1,ab⟩ (fW _) (by rw [aiY];exact n) λg c=> ?_;rcases C4 c with c|rfl
  . exact wZ e d 1 g c
  . rw [i];exact Fk al ⟨p,k⟩
section
variable {ax:aa} {s:List aa} {kN jv rop j3 aJ:Y} (ag:dO ax s kN jv rop j3 aJ)
include ag
theorem Zi {p:Y} {h:List aa} {B:Nat} (H:B<=100000) (e:ek B h) {l m:Nat} {args st:Y} (o:T l m/\l<1000) (b:b8 args) (a:args.length<=8) (D: ∀q∈st,∃i:Int,q= [.int .i64 i]/\1<=i/\i<=args.length) (I:st.length<=8) {g j:Nat} (d:j<args.length):
  sz ax h (gX p l m args st g j) (sd kN jv rop j3 l m (hh args) h []) (nL args st g j) (Cc l m args j):=by
 obtain ⟨k,x⟩:=Al b a;have r:T l m/\l<4611686018427387904:=⟨o.1,ab⟩;have C:F (dk (cp args)) (gv (hh args)):=by rw [x];exact fW _
 have E: ∀c∈cp args,aN c:=λc f=>(wZ b a 0 c f).wt;have J:(cp args).length<=8:=by rw [qP];exact a
 have y:aN (eX (.A [cm l m (dk (cp args))] true) cM):=NG (.inr ⟨_,rfl⟩) (λc f=>by rw [bs.1 f];exact NF r (fW _) E ab) ai;have w:=I3 ag y e.wt (QR ag k r C e.wt);have n:=SB o b a d;refine ⟨⟨p,_,_,_,_,dk (lQ args st g j),_,_,rfl,by rw [Sy b D d];exact fW _,rfl,.inr ⟨_,rfl⟩,.inr ⟨_,rfl⟩,w⟩,λK v=> ?_,n,Sx b a d,?_⟩
 . obtain ⟨t,u,-⟩:=Md ab k e v;exact ⟨t,λG z=>by have:=(u G z).kids.1;omega,(vg t ab u al n).mono ab⟩
 . unfold nL;rw [bD,di,h6,yQ];omega
theorem Zh {p:Y} {i:List aa} {B:Nat} (M:B<=100000) (h:ek B i) {l m:Nat} {args:Y} (t:T l m/\l<1000) (d:b8 args) (c:args.length<=8) {j:Nat} (D:j<args.length) {a b:Nat} (g:args[j]? =some [.str a b]):
  sz ax i (kl p l m args j) (sc kN jv rop j3 a b (fe l) (gD l m j) ((hh args).eraseIdx j) i []) [(true,1,a,b)] (A7 l m args j):=by
 obtain ⟨z,C⟩:=Al d c;have k:=z.erase j;have H:F (.A ((cp args).eraseIdx j) false) (gv ((hh args).eraseIdx j)):=by rw [abO,C];exact .inr ⟨_,rfl⟩
 have N:(cp args).length<=8:=by rw [qP];exact c
 have n:ps args j=c_ 1 a b:=by unfold ps;rw [g];rfl
 obtain ⟨u,q⟩:T a b/\a<4611686018427387904:=by obtain ⟨K,L,f,ag⟩:=d _ (aV g);cases f;exact ag
 have o:T (fe l) (gD l m j)/\fe l<4611686018427387904:=⟨BR t.1 ab,by unfold fe;omega⟩;have E:aN (eX (.A [c_ 1 a b,cm (fe l) (gD l m j) (.A ((cp args).eraseIdx j) false)] true) cM):=NG (.inr ⟨_,rfl⟩) (λv e=>by
  simp only [b2,dG,or_false] at e;rcases e with rfl|rfl
  . exact pr u q al
  . exact NF o (.inr ⟨_,rfl⟩) (λv e=>(wZ d c 0 v (tC e)).wt) (by have:=C0 (cp args) j;omega)) ai
 have y:=I3 ag E h.wt (QO ag k ⟨u,q⟩ o H h.wt);have r:=ai7 t d c D g;refine ⟨⟨p,_,_,_,_,.A [fb (ps args j)] true,_,_,rfl,by rw [n];exact .inr ⟨_,rfl⟩,rfl,.inr ⟨_,rfl⟩,.inr ⟨_,rfl⟩,by rw [n];exact y⟩,λP f=> ?_,r,(λO I=>by rw [bs.1 I];show 1<10;decide),ai⟩;obtain ⟨w,x,-⟩:=Mc ab k h f;exact ⟨w,λJ G=>by have:=(x J G).kids.1;omega,(vg w ab x al r).mono ab⟩
end
def NT (p rop ahI kN jv j3 aJ:Y) (v:aa):Prop:= ∃k e a c b f h l i j m n o g,v= .av [.agg [k,e,a,c,b,f,h,l,i,j,m,n,o],.int .i64 g]/\
 (∀q∈ [k,e,a,c,b,f,h,l,i,j,m,n,o],J q=true/\D 18 q=true)/\(g=0->gf kN jv rop j3 aJ/\lD p rop ahI/\F e kN/\F a jv/\F c (eZ rop)/\F b (j3.map ct)/\F f aJ)
structure oA (kN jv rop j3 aJ ahJ p aU ahI:Y):Prop where
  Ii:kN.length+jv.length+rop.length+j3.length+aJ.length<800000
  cP: ∀r∈j3,nk r
  t: ∃N,bL (eE ahJ p aU ahI) N/\N<50000
def En {r} (c:c6 r):c6 (il r)/\ ∃l m args ls ms st a p i j,fB r l m args ls ms st/\il r= [.str l m,a,.str ls ms,p,.int .i64 i,.int .i64 j,.V]:=by
 obtain ⟨-,l,m,args,ls,ms,st,a,p,t,i,j,b,f,g,q,o,h,k,n⟩:=Kw c;have e:il r= [.str l m,a,.str ls ms,p,.int .i64 i,.int .i64 j,.V]:=by unfold il;rw [f];rfl
 refine ⟨⟨l,m,args,ls,ms,[],⟨⟨a,p,.V,i,j,e,g,.inl ⟨rfl,rfl⟩,o,h,k,n⟩,b.c5,b.pw,b.s1,b.s2,b.hS,b.zk,λ_ c=>(by cases c),al⟩⟩,l,m,args,ls,ms,st,a,p,i,j,b,e⟩
def XD {r} (f:c6 r):c6 (ct r):=by
 obtain ⟨-,n,q,c,o,t,x,b,u,w,l,m,a,e,g,k,v,h,i,j⟩:=Kw f;exact ⟨n,q,c,o,t,x,⟨⟨b,u,w,l,m,e,g,k,v,h,i,j⟩,a.c5,a.pw,a.s1,a.s2,a.hS,a.zk,a.rs,a.rS⟩⟩
def LD {p kN rop j3 ahI:Y} (H: ∀r∈rop,c6 r) (J:nm kN rop j3) (E:lD p rop ahI) {b c:Bool} {u:List aa} (a:u∈kO p b c rop):
    ∃ r∈rop,∃l m args ls ms st e j,fB r l m args ls ms st/\st[e]? =some [.int .i64 ((j+1:Nat):Int)]/\j<args.length/\args.length<=8/\(∀q∈st,∃i:Int,q= [.int .i64 i]/\1<=i/\i<=args.length)/\st.length<=8/\l<1000/\
      ((b=true/\u=gX p l m args st e j)\/(c=true/\u=kl p l m args j)):=by
 obtain ⟨r,t,a⟩:=fC.1 a;obtain ⟨e,v,a⟩:=fC.1 a;obtain ⟨l,m,args,ls,ms,st,w⟩:=H r t;obtain ⟨C,z,D⟩:=J.st t w;have G:=w;obtain ⟨g,k,o,n,ac,rfl,A,I,P,L,-⟩:=G.eq;have h:f (M [.str l m,g,.str ls ms,k,.int .i64 n,.int .i64 ac,o] 6)=st:=bm I;rw [h,h9] at v;obtain ⟨q,x⟩:=bA v;obtain ⟨i,rfl,N,O⟩:=z q (aV x);have y:iR [.str l m,g,.str ls ms,k,.int .i64 n,.int .i64 ac,o] e=i.toNat-1:=by unfold iR;rw [h,x];rfl
 have B:i=((i.toNat-1+1:Nat):Int):=ab;have F:l<1000:=by have:=E.n3 (gX p l m args st e (i.toNat-1)) (fC.2 ⟨_,t,fC.2 ⟨e,by rw [h];exact h9.2 v,by show _∈(if true then [gX p l m (f g) (f (M _ 6)) e (iR _ e)] else [])++_;rw [h,y,bm A];simp⟩⟩);have K:l+6+1<=40:=this;omega
 refine ⟨_,t,l,m,args,ls,ms,st,e,i.toNat-1,w,by rw [x,<-B],ab,C,z,D,F,?_⟩;have a:u∈(if b then [gX p l m (f g) (f (M [.str l m,g,.str ls ms,k,.int .i64 n,.int .i64 ac,o] 6)) e (iR [.str l m,g,.str ls ms,k,.int .i64 n,.int .i64 ac,o] e)] else [])++(if c then [kl p l m (f g) (iR [.str l m,g,.str ls ms,k,.int .i64 n,.int .i64 ac,o] e)] else []):=a;rw [h,y,bm A] at a;rcases cr.1 a with a|a
 . cases b with
   |false=>cases a
   |true=>exact .inl ⟨rfl,bs.1 a⟩
 . cases c with
   |false=>cases a
   |true=>exact .inr ⟨rfl,bs.1 a⟩
section
variable {d s:List aa} {kN jv rop j3 aJ ahJ p aU ahI:Y} (aX:fz d s kN jv rop j3 aJ ahJ p aU ahI) (nO:oA kN jv rop j3 aJ ahJ p aU ahI)
include aX
theorem abR (nO:oA kN jv rop j3 aJ ahJ p aU ahI) (C:gf kN jv rop j3 aJ) (I:lD p rop ahI) {so be op cP bJ:aa} (L:F so kN) (N:F be jv) (O:F op (eZ rop)) (P:F cP (j3.map ct)) (Q:F bJ aJ):oz [so,be,op,cP,bJ] kN jv (eZ rop) (j3.map ct) aJ:=by
 refine ⟨⟨so,be,op,cP,bJ,rfl,L,N,O,P,Q⟩,aX.bT.so,aX.bT.be,λw a=> ?_,λw a=> ?_,aX.bT.bJ,?_⟩
 . rcases cr.1 a with a|a
   . obtain ⟨m,e,rfl⟩:=cd.1 a;exact (En (aX.bT.op m e)).1
   . obtain ⟨m,e,a⟩:=fC.1 a;obtain ⟨g,r,rfl⟩:=cd.1 a;obtain ⟨b,c,n,j,k,D,h⟩:=aX.bT.op m e;obtain ⟨G,z,H⟩:=C.v.st e h;have J:=h;obtain ⟨l,t,x,u,ac,rfl,A,K,Y,V,-⟩:=J.eq;have o:f (M [.str b c,l,.str j k,t,.int .i64 u,.int .i64 ac,x] 6)=D:=bm K;rw [o,h9] at r;obtain ⟨R,B⟩:=bA r;obtain ⟨i,rfl,W,X⟩:=z R (aV B);have y:iR [.str b c,l,.str j k,t,.int .i64 u,.int .i64 ac,x] g=i.toNat-1:=by unfold iR;rw [o,B];rfl
     have U:b<1000:=by have:=I.n3 (gX p b c n D g (i.toNat-1)) (fC.2 ⟨_,e,fC.2 ⟨g,by rw [o];exact h9.2 r,by show _∈(if true then [gX p b c (f l) (f (M _ 6)) g (iR _ g)] else [])++_;rw [o,y,bm A];simp⟩⟩);have q:b+6+1<=40:=this;omega
     have E:oM [.str b c,l,.str j k,t,.int .i64 u,.int .i64 ac,x] g=ko b c n j k (i.toNat-1):=by show ko b c (f l) j k (iR _ g)=_;rw [bm A,y]
     rw [E];have T:=C0 n (i.toNat-1);exact ⟨fe b,gD b c (i.toNat-1),n.eraseIdx (i.toNat-1),j,k,[],⟨⟨_,_,_,_,_,rfl,.inr ⟨_,rfl⟩,.inl ⟨rfl,rfl⟩,[],.inl ⟨rfl,rfl⟩,al,λ_ q=>by cases q⟩,BR h.c5 ab,h.pw,by unfold fe;omega,h.s2,λw a=>h.hS w (tC a),ab,λ_ q=>(by cases q),al⟩⟩
 . obtain ⟨m,e,rfl⟩:=cd.1 a;exact XD (aX.bT.cP m e)
 . have G:=nO.Ii;have z:=HQ aX C.v;have H:(eZ rop).length=rop.length+(oN rop).length:=by unfold eZ;rw [bD,di]
   have S:(j3.map ct).length=j3.length:=di ..
   omega
include nO
theorem U5:dt 9 [.agg d] (NT p rop ahI kN jv j3 aJ) bQ:=by
 obtain ⟨aq,hT,I⟩:=nO.t;obtain ⟨an,F⟩:=(U3 aX hT I).gg;obtain ⟨ao,H⟩:bo λf g=>gf kN jv rop j3 aJ-> ∀b,Tidy b-> ∃k,xe p rop ahI kN jv j3 aJ k/\ ∀Z,az G (X G R f g) 26 [.agg d] b Z= .ok k Z b:=by
  by_cases L:gf kN jv rop j3 aJ
  . obtain ⟨al,ai⟩:=(UT aX L.v nO.Ii nO.cP hT I).val;exact ⟨al,λf g ad i _ b e=>ai f g ad i b e⟩
  . exact ⟨0,λ_ _ _ _ h=>absurd h L⟩
 have ah:=aX.eq;obtain ⟨aG,av,aH,aA,aF,aK,aN,aP,rfl,⟨aW,a7,rfl,aR,aC⟩,N,Q,⟨aV,a1,rfl,aQ,aB⟩,P,T,⟨aY,a8,rfl,aS,aD⟩,⟨aZ,bb,rfl,aT,aE⟩⟩:=ah;obtain ⟨aM,ar,aI,aw,aO,rfl,W,M,S,O,Y⟩:=aX.bT.eq;simp only [bl,a6] at F H|-;refine aL.run (m:=11) rfl rfl rfl rfl rfl rfl rfl rfl (an+ao) λf g ax ay b e=> ?_;obtain ⟨i,K,E⟩:=F f g ab ab b e;have aj: ∀a∈([.str 0 0,.V,.V,.V,.V,.V,.V,.V,.str 0 0,.V,.V,.str 0 0,.str 0 0]:List aa),J a=true/\D 18 a=true:=λa c=>by simp only [b2,dG,or_false] at c;rcases c with rfl|rfl|rfl|rfl|rfl|rfl|rfl|rfl|rfl|rfl|rfl|rfl|rfl<;>exact ⟨rfl,rfl⟩
 cases i with
 | false=>
   simp only [go_sem,W.J,M.J,S.J,O.J,Y.J,N.J,Q.J,P.J,T.J,E];exact ak.mk ⟨_,_,_,_,_,_,_,_,_,_,_,_,_,2,rfl,aj,λh=>by cases h⟩ rfl e (U.refl _)
 | true=>
   obtain ⟨k,⟨l,n,u,w,x,y,z,A,B,C,o,q,r,ae,rfl,j,ag⟩,af⟩:=H f g ab ab (K rfl) b e;have ok:=λa c=>(j a c).1;have au:=λa c=>rU (ok a c);simp only [go_sem,W.J,M.J,S.J,O.J,Y.J,N.J,Q.J,P.J,T.J,E,af,ok,b2,true_or,or_true];refine ak.mk ⟨l,n,u,w,x,y,z,A,B,C,o,q,r,ae,rfl,j,λh=>⟨K rfl,ag h⟩⟩ ?_ e (U.refl _);show ([l,n,u,w,x,y,z,A,B,C,o,q,r].all (D 18)&&_)=true;rw [ba.2 λa c=>(j a c).2];rfl
end
def EP (f g h i j:Y):Y:=(oF f).flatMap λa=>(oF g).flatMap λb=>(oF h).flatMap λc=>(oF i).flatMap λd=>(oF j).map λe=> [a,b,c,d,e]
def ZB {f g h i j:Y} {a b c d e:aa} (k:F a f) (l:F b g) (m:F c h) (n:F d i) (o:F e j): [a,b,c,d,e]∈EP f g h i j:=
 fC.2 ⟨a,sO k,fC.2 ⟨b,sO l,fC.2 ⟨c,sO m,fC.2 ⟨d,sO n,cd.2 ⟨e,sO o,rfl⟩⟩⟩⟩⟩
def xv (a b c e f:Y):List aa:=(EP a b c e f).flatMap λs=>uV s a b c e
def pI (rop kN jv j3 aJ:Y) (ax:aa):Prop:= ∃s,dO ax s kN jv (eZ rop) (j3.map ct) aJ
def aip (r:List aa):Bool:=match r with
 | .int _ a::_=>a==7
 |_=>false
def ai5 (b:aa):Int:=match b with
 | .av [_,.int _ a]=>a
 |_=>0
def Av (p rop ahI kN jv j3 aJ:Y) (b:List aa) (c:Int) (v:aa):Prop:=(c≠0/\v= .av [.dz,.int .i64 c])\/(c=0/\gf kN jv rop j3 aJ/\lD p rop ahI/\
 if aip b&&aid kN jv (eZ rop) (j3.map ct) (ah2 b) then∃a,v= .av [a,.int .i64 0]/\pI rop kN jv j3 aJ a/\a∈xv kN jv (eZ rop) (j3.map ct) aJ/\om 60 b else v= .av [.dz,.int .i64 2])
section
variable {d s:List aa} {kN jv rop j3 aJ ahJ p aU ahI:Y} (aX:fz d s kN jv rop j3 aJ ahJ p aU ahI) (nO:oA kN jv rop j3 aJ ahJ p aU ahI)
include aX nO
theorem Va {h:List aa} (f:aN h):bo λad n=> ∀x H,Tidy H->NT p rop ahI kN jv j3 aJ x->(∀tm,az G (X G R ad n) 9 [.agg d] H tm= .ok x tm H)-> ∃v,Av p rop ahI kN jv j3 aJ h (ai5 x) v/\ ∀tm,az G (X G R ad (n+1)) 27 [.agg d,.agg h] H tm= .ok v tm H:=by
 obtain ⟨bs,aR⟩:=dE (l:=EP kN jv (eZ rop) (j3.map ct) aJ) (Q:=λs ad n=>oz s kN jv (eZ rop) (j3.map ct) aJ-> ∀H,Tidy H-> ∃a,(dO a s kN jv (eZ rop) (j3.map ct) aJ/\a∈uV s kN jv (eZ rop) (j3.map ct))/\ ∀tm,az G (X G R ad n) 48 [.agg s] H tm= .ok a tm H) λs _=>by
  by_cases k:oz s kN jv (eZ rop) (j3.map ct) aJ
  . obtain ⟨L,f⟩:=(Dw k).val;exact ⟨L,λad n z i _ H b=>f ad n z i H b⟩
  . exact ⟨0,λ_ _ _ _ C=>absurd C k⟩
 obtain ⟨bt,aS⟩:=dE (l:=xv kN jv (eZ rop) (j3.map ct) aJ) (Q:=λa ad n=>pI rop kN jv j3 aJ a-> ∀H,Tidy H-> ∃v,aiy kN jv (eZ rop) (j3.map ct) h v/\ ∀tm,az G (X G R ad n) 49 [a,.agg h] H tm= .ok v tm H) λa _=>by
  by_cases j:pI rop kN jv j3 aJ a
  . obtain ⟨bY,ba⟩:=id j;obtain ⟨L,f⟩:=(Jf ba f).val;exact ⟨L,λad n z i _ H b=>f ad n z i H b⟩
  . exact ⟨0,λ_ _ _ _ C=>absurd C j⟩
 have bd:=λ(k:gf kN jv rop j3 aJ) (a7:lD p rop ahI) {P A N B S:aa} (o:F P kN) (q:F A jv) (r:F N (eZ rop)) (u:F B (j3.map ct)) (w:F S aJ)=>abR aX nO k a7 o q r u w;have aZ:=aX.eq;obtain ⟨bX,aK,bw,bO,bu,bx,bZ,b4,rfl,⟨bD,bI,rfl,b6,bU⟩,bh,bm,⟨bC,bH,rfl,b5,bS⟩,bk,bp,⟨bE,bJ,rfl,b7,bV⟩,⟨bG,bK,rfl,b8,bW⟩⟩:=aZ;obtain ⟨P,A,N,B,S,rfl,bq,bg,bn,bj,br⟩:=aX.bT.eq;simp only [bl,a6];have a1:=f;obtain ⟨ai,aj,T,V,Y,Z,ao,aq,bP,bR,rfl,aT,aV⟩:=a1.t;refine ⟨bs+bt,λad n bL bN x H b bc aO=> ?_⟩;obtain ⟨ar,au,aA,aB,aC,aD,aF,aG,aH,aI,aw,ax,ay,g,rfl,a8,aY⟩:=bc;refine hg (aL.at (m:=28) rfl rfl rfl rfl rfl rfl rfl rfl ?_);show ak (Av p rop ahI kN jv j3 aJ _ g) bQ H _;have ok:=λbB bf=>(a8 bB bf).1;refine ak.bM (λtm c=>H=c/\aM 30 [(2,.W 0 [.str bD bI,P,A,N,B,S,aK,bw,.str bC bH,bu,bx,.str bE bJ,.str bG bK]),(3,.W 0 [.int .i64 ai,.int .i64 aj,.str T V,.str Y Z,ao,aq]),(6,.av [])] tm) ?_ ?_
 . simp -implicitDefEqProofs only [go_sem,bq.J,bg.J,bn.J,bj.J,br.J,bh.J,bm.J,bk.J,bp.J,aT.J,aV.J];exact an.mk ⟨rfl,w0⟩
 rintro tm _ ⟨rfl,hF⟩;refine ak.bM (λtm c=>H=c/\aM 30 [(3,.W 0 [.int .i64 ai,.int .i64 aj,.str T V,.str Y Z,ao,aq]),(6,.W 0 [ar,au,aA,aB,aC,aD,aF,aG,aH,aI,aw,ax,ay]),(7,.int .i64 g)] tm) ?_ ?_
 . simp -implicitDefEqProofs only [go_sem,hF,aO,ok,b2,true_or,or_true];exact an.mk ⟨rfl,dm⟩
 clear hF;rintro tm _ ⟨rfl,hF⟩;by_cases e:g=0
 rotate_left
 . have O:(g !=0)=true:=by simpa using e
   simp -implicitDefEqProofs only [go_sem,hF,O];exact ak.mk (.inl ⟨e,rfl⟩) rfl b (U.refl _)
 have O:(g !=0)=false:=by simpa using e
 obtain ⟨I,E,o,q,r,u,w⟩:=aY e;have bb:=bd I E o q r u w;have ah:=ZB o q r u w;obtain ⟨a,⟨K,aW⟩,aP⟩:=aR ad n ab ab _ ah bb H b;have ag:a∈xv kN jv (eZ rop) (j3.map ct) aJ:=fC.2 ⟨_,ah,aW⟩;obtain ⟨_,⟨i,rfl,j,af⟩,aQ⟩:=aS ad n ab ab a ag ⟨_,K⟩ H b;obtain ⟨al,b0,bz,b1,b3,bA⟩:=K.val;refine ak.bF hF (λy tm c=>H=c/\y tm) ?_ ?_
 . simp -implicitDefEqProofs only [go_sem,hF,O];exact an.mk ⟨rfl,dm⟩
 clear hF;rintro tm _ ⟨rfl,hF⟩;refine ak.kp [3] (λy tm c=>H=c/\M tm 8=a/\y tm) ?_ ?_
 . simp -implicitDefEqProofs only [go_sem,hF,aP,al];exact an.mk ⟨rfl,dm⟩
 clear hF;rintro tm _ ⟨rfl,hF⟩;simp -implicitDefEqProofs only [go_sem,hF]
 iterate 2 all_goals try (refine ak.aE ?_ ?_<;>intro ae<;>try simp -implicitDefEqProofs only [go_sem,hF,ae,al,bz,aQ])
 all_goals first
  |exact ak.mk (.inr ⟨e,I,E,by rw [if_neg (by rw [<-af];simp_all [aip])]⟩) rfl b (U.refl _)
  |exact ak.mk (.inr ⟨e,I,E,by rw [if_pos (by rw [<-af];simp_all [aip])];exact ⟨a,rfl,⟨_,K⟩,ag,j (by simpa using ae)⟩⟩) (by show (D 19 a&&_)=true;rw [bA 18];rfl) b (U.refl _)
end
structure FL (rop:Y) (r:List aa) (l m:Nat) (args:Y) (ls ms:Nat) (st:Y) (rN j:Nat):Prop where
  mem:r∈rop
  Ef:fB r l m args ls ms st
  dp:st[rN]? =some [.int .i64 ((j+1:Nat):Int)]
  gE:j<args.length
  FX:args.length<=8
  bB: ∀q∈st,∃i:Int,q= [.int .i64 i]/\1<=i/\i<=args.length
  ag7:st.length<=8
  cQ:l<1000
section
variable (rop kN jv j3:Y) (ig:List aa)
def FK (i:Option Sub) (h:oj) (m:List aa):Prop:= ∃l c e a j k g f b,FL rop l c e a j k g f b/\i=sd kN jv (eZ rop) (j3.map ct) c e (hh a) ig []/\h=nL a g f b/\m=Cc c e a b
def FJ (i:Option Sub) (h:oj) (n:List aa):Prop:= ∃m c g b k l o j a e f,FL rop m c g b k l o j a/\b[a]? =some [.str e f]/\i=sc kN jv (eZ rop) (j3.map ct) e f (fe c) (gD c g a) ((hh b).eraseIdx a) ig []/\h= [(true,1,e,f)]/\n=A7 c g b a
end
def aiQ (p rop ahI kN jv j3 aJ:Y) (ig:List aa) (c:Int) (F:aa->Prop) (v:aa):Prop:=(c≠0/\v= .av [.agg eb,.int .i64 c])\/(c=0/\gf kN jv rop j3 aJ/\lD p rop ahI/\
 if aip ig&&aid kN jv (eZ rop) (j3.map ct) (ah2 ig) then F v else v= .av [.agg eb,.int .i64 2])
def pB.wt {kN jv rop j3 aJ a:Y} {P:List aa->Option Sub->oj->List aa->Prop} {v:aa} (b:pB kN jv rop j3 aJ a P v): ∃t e,v= .av [.agg t,.int .i64 e]/\aN t:=by
 rcases b with ⟨rfl,-⟩|⟨_,_,_,_,_,f,_,_,_,_,_,c,rfl⟩
 . exact ⟨_,_,rfl,w7⟩
 . exact ⟨_,_,rfl,c.wt⟩
def ah4 (r:List aa):List aa:=putAt 2 [.V] r
section
variable {d s:List aa} {kN jv rop j3 aJ ahJ p aU ahI:Y} (aX:fz d s kN jv rop j3 aJ ahJ p aU ahI)
include aX
theorem Zg {ax:aa} (q:pI rop kN jv j3 aJ ax) (o:gf kN jv rop j3 aJ) (n:lD p rop ahI) {ig:List aa} {B:Nat} (m:B<=100000) (u:ek B ig): ∀r∈kO p true false rop,∃c b j,sz ax ig r c b j/\FK rop kN jv j3 ig c b j:=λI y=>by
 obtain ⟨r,x,C,E,k,D,F,H,A,z,a,G,e,f,g,h,i,w⟩:=LD aX.bT.op o.v n y;rcases w with ⟨-,rfl⟩|⟨l,-⟩
 . obtain ⟨J,t⟩:=q;exact ⟨_,_,_,Zi t m u ⟨a.c5,i⟩ a.hS f g h e,r,C,E,k,D,F,H,A,z,⟨x,a,G,e,f,g,h,i⟩,rfl,rfl,rfl⟩
 . cases l
theorem Zf {ax:aa} (t:pI rop kN jv j3 aJ ax) (q:gf kN jv rop j3 aJ) (o:lD p rop ahI) {ig:List aa} {B:Nat} (n:B<=100000) (w:ek B ig): ∀r∈kO p false true rop,∃f e i,sz ax ig r f e i/\FJ rop kN jv j3 ig f e i:=λM z=>by
 obtain ⟨r,y,D,F,k,E,G,L,C,A,a,I,c,g,J,K,h,x⟩:=LD aX.bT.op q.v o z;rcases x with ⟨m,-⟩|⟨-,rfl⟩
 . cases m
 . obtain ⟨N,u⟩:=t;obtain ⟨H,b⟩:=bA c;obtain ⟨j,l,rfl,-⟩:=a.hS H (aV b);exact ⟨_,_,_,Zh u n w ⟨a.c5,h⟩ a.hS g c b,r,D,F,k,E,G,L,C,A,j,l,⟨y,a,I,c,g,J,K,h⟩,b,rfl,rfl,rfl⟩
theorem aku {ig:List aa} {B:Nat} (L:ek B ig) {P9:List aa->Option Sub->oj->List aa->Prop} {f:Nat} {b:Bool} {g:List aa->List aa} (bq:f=10/\b=true/\g=id\/f=14/\b=false/\g=id\/f=11/\b=false/\g=ah4) (bU: ∀ax,pI rop kN jv j3 aJ ax->gf kN jv rop j3 aJ->lD p rop ahI-> ∀r∈(kO p b (!b) rop).map g,∃bk bg bw,sz ax ig r bk bg bw/\P9 r bk bg bw):bo λad n=> ∀ag c H,Tidy H->Av p rop ahI kN jv j3 aJ ig c ag->(∀tm,az G (X G R ad n) 27 [.agg d,.agg ig] H tm= .ok ag tm H)->
  ∃v,aiQ p rop ahI kN jv j3 aJ ig c (pB kN jv (eZ rop) (j3.map ct) aJ ((kO p b (!b) rop).map g) P9) v/\ ∀tm,az G (X G R ad (n+1)) f [.agg d,.agg ig] H tm= .ok v tm H:=by
 obtain ⟨bM,K⟩:bo λad n=>gf kN jv rop j3 aJ->(kO p b (!b) rop).length<1048560/\ ∀H,Tidy H-> ∃v i,P 64 7 H i v (kO p b (!b) rop)/\ ∀tm,az G (X G R ad n) 29 [.agg d,.bool b,.bool !b] H tm= .ok v tm i:=by
  by_cases aP:gf kN jv rop j3 aJ
  . obtain ⟨a8,L⟩:=Jx aX aP.v;exact ⟨a8,λad n aq c _=>⟨by have:=LC (p:=p) aX aP.v b (!b);omega,λH w=>L ad n aq c _ _ H w⟩⟩
  . exact ⟨0,λ_ _ _ _ bF=>absurd bF aP⟩
 obtain ⟨bN,S⟩:=dE (l:=xv kN jv (eZ rop) (j3.map ct) aJ) (Q:=λax ad n=>pI rop kN jv j3 aJ ax->gf kN jv rop j3 aJ->lD p rop ahI-> ∀o H,cG H 7 o ((kO p b (!b) rop).map g)->Tidy H-> ∃v,pB kN jv (eZ rop) (j3.map ct) aJ ((kO p b (!b) rop).map g) P9 v/\ ∀tm,az G (X G R ad n) 28 [ax,o,.agg ig] H tm= .ok v tm H) λax _=>by
  by_cases u:pI rop kN jv j3 aJ ax/\gf kN jv rop j3 aJ/\lD p rop ahI
  . obtain ⟨u,x,T⟩:=u;obtain ⟨bW,aK⟩:=id u;obtain ⟨a8,L⟩:=Vn aK L.wt P9 ((kO p b (!b) rop).map g) (by have:=LC (p:=p) aX x.v b (!b);rw [di];omega) (bU ax u x T);exact ⟨a8,λad n aq b _ _ _ o H k w=>L ad n aq b o H k w⟩
  . exact ⟨0,λ_ _ _ _ K S bG=>absurd ⟨K,S,bG⟩ u⟩
 have bI:=aX.eq;obtain ⟨cp,aD,bP,cg,bO,bV,cr,cB,rfl,⟨b0,b4,rfl,cD,cl⟩,aR,aV,⟨bZ,b3,rfl,cC,ck⟩,aT,aY,⟨b1,b5,rfl,cE,cm⟩,⟨b2,b6,rfl,cF,cn⟩⟩:=bI;obtain ⟨bX,bC,bQ,bE,bY,rfl,aZ,aQ,aW,aS,a7⟩:=aX.bT.eq;simp only [bl,a6] at K|-;have bJ:=L.wt;obtain ⟨ae,af,C,E,M,I,ah,an,ch,cj,rfl,aG,aH⟩:=bJ.t;refine ⟨bM+bN+(kO p b (!b) rop).length+5,λad n cc cf ag c H w bK aE=> ?_⟩;have bn: ∀ar,ar≠0->ag= .av [.dz,.int .i64 ar]-> ∀tm,az G (X G R ad (n+1)) f [.agg [.str b0 b4,bX,bC,bQ,bE,bY,aD,bP,.str bZ b3,bO,bV,.str b1 b5,.str b2 b6],.agg [.int .i64 ae,.int .i64 af,.str C E,.str M I,ah,an]] H tm= .ok (.av [.agg eb,.int .i64 ar]) tm H:=λc Z aD=>by
  subst aD;have bS:(c !=0)=true:=by simpa using Z
  rcases bq with ⟨rfl,-⟩|⟨rfl,-⟩|⟨rfl,-⟩<;>
  . first
     |refine jQ (aL.at (m:=23) rfl rfl rfl rfl rfl rfl rfl rfl ?_)
     |refine jQ (aL.at (m:=36) rfl rfl rfl rfl rfl rfl rfl rfl ?_)
    simp only [go_sem,aZ.J,aQ.J,aW.J,aS.J,a7.J,aR.J,aV.J,aT.J,aY.J,aG.J,aH.J,aE,bS];exact ak.mk rfl rfl w (U.refl _)
 rcases bK with ⟨Z,e⟩|⟨rfl,x,T,e⟩
 . exact ⟨_,.inl ⟨Z,rfl⟩,bn c Z e⟩
 split at e
 rotate_left
 . rename_i aM;exact ⟨_,.inr ⟨rfl,x,T,by rw [if_neg aM]⟩,bn 2 al e⟩
 rename_i aM;obtain ⟨ax,rfl,u,bH,-⟩:=e;obtain ⟨ca,K⟩:=K ad n ab ab x;obtain ⟨o,bh,k,Y⟩:=K H w;have S:=λi (k:P 64 7 H i o ((kO p b (!b) rop).map g))=>S ad n ab ab ax bH u x T o i k.cw k.tidy;obtain ⟨bW,aK⟩:=id u;obtain ⟨bf,cu,cx,cy,cz,cA⟩:=aK.val;have br: ∀v,pB kN jv (eZ rop) (j3.map ct) aJ ((kO p b (!b) rop).map g) P9 v->aiQ p rop ahI kN jv j3 aJ [.int .i64 ae,.int .i64 af,.str C E,.str M I,ah,an] 0 (pB kN jv (eZ rop) (j3.map ct) aJ ((kO p b (!b) rop).map g) P9) v:=λv e=> .inr ⟨rfl,x,T,by rw [if_pos aM];exact e⟩;generalize kO p b (!b) rop=a at*;have aF: ∀i (q:P 64 7 H i o (a.map g)),∃A j,aN A/\(∀tm,az G (X G R ad n) 28 [ax,o,.agg [.int .i64 ae,.int .i64 af,.str C E,.str M I,ah,an]] i tm= .ok (.av [.agg A,.int .i64 j]) tm i)/\aiQ p rop ahI kN jv j3 aJ [.int .i64 ae,.int .i64 af,.str C E,.str M I,ah,an] 0 (pB kN jv (eZ rop) (j3.map ct) aJ (a.map g) P9) (.av [.agg A,.int .i64 j]):=λi q=>by obtain ⟨v,e,N⟩:=S i q;obtain ⟨A,j,rfl,W⟩:=e.wt;exact ⟨A,j,W,N,br _ e⟩
 have bp: ∀ {ba bd aw aA aB aC aj ao bb bc} (j:Int),F aj bb->F ao bc->([aa.agg [.int .i64 ba,.int .i64 bd,.str aw aA,.str aB aC,aj,ao],.int .i64 j].all (D 19))=true:=λj y z=>by show ([aa.int .i64 _,.int .i64 _,.str _ _,.str _ _,_,_].all (D 18)&&_)=true;simp only [aO,y.aI 17,z.aI 17];rfl
 rcases bq with ⟨rfl,rfl,rfl⟩|⟨rfl,rfl,rfl⟩|⟨rfl,rfl,rfl⟩
 rotate_left 2
 . refine hg (aL.at (m:=36) rfl rfl rfl rfl rfl rfl rfl rfl ?_);simp only [Bool.not_false] at Y;simp only [go_sem,aZ.J,aQ.J,aW.J,aS.J,a7.J,aR.J,aV.J,aT.J,aY.J,aG.J,aH.J,aE,bf,Y,k.O,k.len];have hF:=trivial;generalize b9:a1 _ _ _ _ _ _ _ _ _ _=bx;revert bx;refine cv [3,4,6,8] (λ_=> []) (λs=>s) (λh s=>P 64 7 H s o ((a.map ah4).take h++a.drop h)) a.length bh (by simpa using k) ?_ ?_
   . clear hF;rintro h s tm cb q hF;obtain ⟨r,bu⟩: ∃r,a[h]? =some r:=⟨a[h],ai⟩;have bL:(a.map ah4)[h]? =some (ah4 r):=by rw [hO,bu];rfl
     have cd:(a.map ah4).length=a.length:=di ..
     have bt:=Sg (a.map ah4) a h ab;rw [bu] at bt;obtain ⟨cq,bR,bj,C,E,M,I,bz,b7,bA,bm,b8⟩:=q.pn bt 2 [.V] al (λv e=>by rw [bs.1 e];exact ⟨rfl,rfl⟩);have bD:((a.map ah4).take h++a.drop h).set h (putAt 2 [.V] r)=(a.map ah4).take (h+1)++a.drop (h+1):=Z0 (a.map ah4) a h (ah4 r) bL ab;rw [bD] at bm;have bB: ∀tm,hf 1 bR [.V] tm s= .ok (.av []) tm bj:=bA;simp only [go_sem,hF,q.O,C,E,I,bz,bB];exact au.next bj rfl bm ay
   . rintro s tm q hF;rw [fT ai,tv ab,fw] at q;obtain ⟨A,j,W,N,e⟩:=aF s q;obtain ⟨ba,bd,aw,aA,aB,aC,aj,ao,bb,bc,rfl,y,z⟩:=W.t;simp only [go_sem,hF,bf,q.O,N,y.J,z.J];exact ak.mk e (bp j y z) w q.up
 all_goals
  rw [ahT] at aF br;obtain ⟨A,j,W,N,e⟩:=aF bh k;rw [ahT];refine ⟨_,e,?_⟩;clear e;obtain ⟨ba,bd,aw,aA,aB,aC,aj,ao,bb,bc,rfl,y,z⟩:=W.t;simp only [Bool.not_true,Bool.not_false] at Y;refine jQ (aL.at (m:=23) rfl rfl rfl rfl rfl rfl rfl rfl ?_);simp only [go_sem,aZ.J,aQ.J,aW.J,aS.J,a7.J,aR.J,aV.J,aT.J,aY.J,aG.J,aH.J,aE,bf,Y,k.O,N,y.J,z.J];exact ak.mk rfl (bp j y z) w k.up
end
def pH (rows:Y) (ad n:Nat):Prop:= ∀e (left c:Int) b,F e rows-> -1<=left->left<=10000->0<=c->c<=81->Tidy b->
 ∃a:Int,(-1<=a/\a<=left/\(0<=a->bL rows (left-a).toNat))/\ ∀d,az G (X G R ad n) 39 [e,.int .i64 left,.int .i64 c] b d= .ok (.int .i64 a) d b
def bL.nil (N):bL [] N:=⟨λ_=>0,λ_ a=>(by cases a),fV _⟩
def bL.node {r k n l1 m1 h j y z ky i} (f:kX r k n l1 m1 h j y z ky i) {a b:Nat} (d:bL ky a) (e:bL i b):bL [r] (1+a+b):=by
 have m:=d.sum;have o:=e.sum;refine ⟨λ_=>1+((ky++i).map mT).sum,λp g=>by rw [bs.1 g];exact .mk mT f (λl c=>(d.g_ c).1) λl c=>(e.g_ c).1,?_⟩;simp only [fS,rG,kE,List.sum_nil,vR,List.sum_append];omega
theorem Dx (rows:Y) (V: ∀r∈rows,aN r) (bh:rows.length<4611686018427387904) (aH: ∀r∈rows,bo λad n=>pH (f (M r 4)) ad n/\pH (f (M r 5)) ad n):bo λad n=>pH rows ad n:=by
 obtain ⟨aP,aC⟩:=dE (l:=rows) (Q:=λr ad n=>pH (f (M r 4)) ad n/\pH (f (M r 5)) ad n) aH;refine ⟨aP+rows.length+2,λad n bf bj a6 left h g o S bg bc bd s=> ?_⟩;obtain ⟨n,rfl⟩:=bY n;have: ∃v,(∃a:Int,v= .int .i64 a/\(-1<=a/\a<=left/\(0<=a->bL rows (left-a).toNat)))/\ ∀b,az G (X G R ad (n+1)) 39 [a6,.int .i64 left,.int .i64 h] g b= .ok v b g:=by
  refine hg (aL.at (m:=43) (rs:= [.tmp 6]) rfl rfl rfl rfl rfl (by simp only [aO,o.aD];rfl) rfl rfl ?_);have L: ∀ {j},j=g->ak (λv=> ∃a:Int,v= .int .i64 a/\(-1<=a/\a<=left/\(0<=a->bL rows (left-a).toNat))) bQ g (.ret (.int .i64 (-1)) j):=λ{j} B=>by subst B;exact ak.mk ⟨-1,rfl,ab,S,λC=>absurd C al⟩ rfl s (U.refl _)
  by_cases P:h>80
  . have z:decide (h>80)=true:=by simpa using P
    simp only [go_sem,z];exact L rfl
  have z:decide (h>80)=false:=by simpa using P
  have aU:IntKind.i64.wrap (h+1)=h+1:=wrap64 _ ab ab;simp only [go_sem,z,o.O,o.len];have hF:=trivial;generalize bb:a1 _ _ _ _ _ _ _ _ _ _=ao;revert ao;refine cv [2,11] (λc=> [(1,.int .i64 c)]) (λ_=>g) (λaf c=> -1<=c/\c<=left/\(0<=c->bL (rows.take af) (left-c).toNat)) rows.length left ⟨S,Int.le_refl _,λ_=>bL.nil _⟩ ?_ ?_
  . rintro af c b aG ⟨Z,aa,q⟩ hF;obtain ⟨r,E⟩:=bA aG;have D:=aV E;obtain ⟨ag,ah⟩:=aC ad n ab ab r D;have aF:=o.a_ (k:=6) E (V r D).len;obtain ⟨F,H,d,I,e,K,w,x,aQ,aR,ae,-,-⟩:=(V r D).ea;have aM:=ae;obtain ⟨rfl,-,-,bn,bp,t,u,-,-⟩:=aM;have aA:f (M [.int .i64 F,.int .i64 H,.str d I,.str e K,w,x] 4)=aQ:=bm t;have aB:f (M [.int .i64 F,.int .i64 H,.str d I,.str e K,w,x] 5)=aR:=bm u;rw [aA] at ag;rw [aB] at ah;have aW:IntKind.i64.wrap ((d:Int)+(e:Int))=((d+e:Nat):Int):=by rw [wrap64 _ ab ab];rfl
    have aI:((d+e:Nat):Int).tdiv 50=(((d+e)/50:Nat):Int):=by rfl
    have aX:IntKind.i64.wrap (((d+e:Nat):Int).tdiv 50)=(((d+e)/50:Nat):Int):=by rw [aI,wrap64 _ ab ab]
    generalize bl:(d+e)/50=p at*;have bk:p<1000000000000000000:=ab;have aY:IntKind.i64.wrap (1+(p:Int))=1+(p:Int):=wrap64 _ ab ab;obtain ⟨i,aK⟩: ∃i:Int,i=c-(1+(p:Int)):=⟨_,rfl⟩;have aZ:IntKind.i64.wrap (c-(1+(p:Int)))=i:=by rw [aK];exact wrap64 _ ab ab
    refine au.kp [13,12,1,2,11] (λy b j=>g=j/\ ∃aj,M b 8= .W aj [.int .i64 F,.int .i64 H,.str d I,.str e K,w,x]/\y b) ?_ ?_
    . simp only [go_sem,hF,o.O,aF,t.J,u.J];exact an.mk ⟨rfl,_,by simp only [go_sem,hF];trivial⟩
    clear hF;rintro b _ ⟨rfl,aj,hF⟩;refine au.kp [13,12,2,11,8] (λy b j=>g=j/\M b 1= .int .i64 i/\y b) ?_ ?_
    . simp only [go_sem,hF,aW,aX,aY,aZ];exact an.mk ⟨rfl,ay⟩
    clear hF;rintro b _ ⟨rfl,hF⟩;by_cases T:i<0
    . have A:decide (i<0)=true:=by simpa using T
      simp only [go_sem,hF,A];exact au.stop rfl (by simp only [go_sem,hF];exact L rfl)
    have A:decide (i<0)=false:=by simpa using T
    obtain ⟨aS,⟨a7,a8,aq⟩,aw⟩:=ag w i (h+1) g t ab ab ab ab s;obtain ⟨ai,⟨ar,ba,av⟩,ax⟩:=ah x aS (h+1) g u ab ab ab ab s;simp only [go_sem,hF,A,t.O,u.O,aU,aw,ax];refine au.aE ?_ ?_<;>intro N<;>try simp only [go_sem,N]
    . exact au.stop rfl (by simp only [go_sem,hF];exact L rfl)
    . have aJ:0<=ai:=by simpa using N
      refine au.next ai rfl ⟨ar,ab,λ_=> ?_⟩ ay;have aT:=bL.node ae (aq ab) (av aJ);rw [od E];exact ((q ab).app aT).mono ab
  . rintro c b ⟨Z,aa,q⟩ hF;rw [bX] at q;simp only [go_sem,hF];exact ak.mk ⟨c,rfl,Z,aa,q⟩ rfl s (U.refl _)
 obtain ⟨_,⟨a,rfl,C⟩,B⟩:=this;exact ⟨a,C,B⟩
def YI {r:List aa} (w:aN r):bo λad n=>pH (f (M r 4)) ad n/\pH (f (M r 5)) ad n:=by
 induction w with
 | @mk r b n g i h j k l d e a s t z A=>
   have u:=a.zm;have v:=a.Kn;obtain ⟨rfl,x,y⟩:=a.c;have m:f (M [.int .i64 b,.int .i64 n,.str g i,.str h j,k,l] 4)=d:=bm x;have o:f (M [.int .i64 b,.int .i64 n,.str g i,.str h j,k,l] 5)=e:=bm y;rw [m,o];obtain ⟨B,p⟩:=Dx d s u z;obtain ⟨C,q⟩:=Dx e t v A;exact ⟨B+C,λad n D E=>⟨p ad n ab ab,q ad n ab ab⟩⟩
def UY (rows:Y) (a: ∀r∈rows,aN r) (b:rows.length<4611686018427387904):bo λad n=>pH rows ad n:=
 Dx rows a b λr c=>YI (a r c)
def Jz (rows:Y) (j: ∀r∈rows,aN r) (i:rows.length<4611686018427387904):bo λad n=> ∀x (m:Nat) H,m<=10000->F x rows->Tidy H->
    ∃b:Bool,(b=true->bL rows m)/\ ∀tm,az G (X G R ad n) 21 [.int .i64 (m:Nat),x] H tm= .ok (.bool b) tm H:=by
 obtain ⟨k,a⟩:=UY rows j i;refine ⟨k+1,λad n p s x m H q c d=> ?_⟩;obtain ⟨n,rfl⟩:=bY n;obtain ⟨e,⟨l,o,h⟩,f⟩:=a ad n ab ab x m 0 H c ab ab al al d;refine ⟨decide (e>=0),λa=>by
  have g:0<=e:=by simpa using a
  exact (h g).mono ab,fa (aL.at (m:=7) (rs:= [.tmp 4]) rfl rfl rfl rfl rfl (by simp only [aO,c.aD];rfl) rfl rfl ?_)⟩
 simp only [go_sem,c.O,f];exact ak.mk rfl rfl d (U.refl _)
def Ka {α:Type} (f:α->Nat): ∀ {l:List α} {x},x∈l->f x<=(l.map f).sum
 | b::l,x,a=>by
   rw [fS,kE];rcases b2.1 a with rfl|a
   . omega
   . have:=Ka f a;omega
def MX:aW G 24=some (.slice 52):=aq
@[go_sem] theorem acV (H):cT G 24 0 [] H=some (.A [] true,H):=aq
def c6.row {r} (d:c6 r):r.length=7/\ ∀v∈r,J v=true/\D 20 v=true:=by
 obtain ⟨i,k,f,j,l,o,⟨⟨e,m,s,g,h,rfl,a,p8,⟨n,b,-⟩⟩,-⟩⟩:=d;refine ⟨rfl,λv c=> ?_⟩;simp only [b2,dG,or_false] at c;rcases c with rfl|rfl|rfl|rfl|rfl|rfl|rfl
 . exact ⟨rfl,rfl⟩
 . exact ⟨a.J,a.aI _⟩
 . exact ⟨rfl,rfl⟩
 . exact ⟨b.J,b.aI _⟩
 . exact ⟨rfl,rfl⟩
 . exact ⟨rfl,rfl⟩
 . exact ⟨p8.J,p8.aI _⟩
def wS (r:List aa):Nat:=(f (M r 1)).length+(f (M r 3)).length+(f (M r 6)).length
def pA (r:List aa):Prop:= ∀c e a d f b,fB r c e a d f b->a.length<1000000000/\b.length<1000000000
structure sv (kN jv rop j3 aJ:Y):Prop where
  so:kN.length<=60
  be:jv.length<=250
  op:rop.length+j3.length<=250
  bJ:aJ.length<=100
  aac: ∀r∈rop++j3,nk r
section
variable {s:List aa} {kN jv rop j3 aJ:Y} (p8:oz s kN jv rop j3 aJ)
include p8
theorem VJ (aI: ∀r∈rop++j3,pA r):bo λad n=> ∀H,Tidy H->
  ∃b:Bool,(b=true->sv kN jv rop j3 aJ)/\ ∀tm,az G (X G R ad n) 33 [.agg s] H tm= .ok (.bool b) tm H:=by
 have bg:=p8.n;have aj: ∀r∈rop++j3,c6 r:=λr z=>(cr.1 z).elim (p8.op r) (p8.cP r);obtain ⟨bl,a6,bj,a7,bq,rfl,a,c,d,e,i⟩:=p8.eq;refine ⟨1048570,λad n bf bh H D=>sG ?_⟩;obtain ⟨n,rfl⟩:=bY n;refine aL.at (m:=59) (rs:= [.tmp 2]) rfl rfl rfl rfl rfl rfl rfl rfl ?_;have L: ∀ {j},j=H->ak (j9 (sv kN jv rop j3 aJ)) bQ H (.ret (.bool false) j):=λ{j} aC=>by subst aC;exact ak.mk ⟨false,rfl,λT=>by cases T⟩ rfl D (U.refl _)
 have aa:IntKind.i64.wrap ((rop.length:Int)+(j3.length:Int))=(rop.length:Int)+(j3.length:Int):=wrap64 _ ab ab;by_cases a8:kN.length>60
 . have p:decide ((kN.length:Int)>60)=true:=decide_eq_true ab;simp only [go_sem,a.J,c.J,d.J,e.J,i.J,a.O,a.len,p];exact L rfl
 have p:decide ((kN.length:Int)>60)=false:=decide_eq_false ab;by_cases ba:jv.length>250
 . have y:decide ((jv.length:Int)>250)=true:=decide_eq_true ab;simp only [go_sem,a.J,c.J,d.J,e.J,i.J,a.O,c.O,a.len,c.len,p,y];exact L rfl
 have y:decide ((jv.length:Int)>250)=false:=decide_eq_false ab;by_cases bb:rop.length+j3.length>250
 . have B:decide ((rop.length:Int)+(j3.length:Int)>250)=true:=decide_eq_true ab;simp only [go_sem,a.J,c.J,d.J,e.J,i.J,a.O,c.O,d.O,e.O,a.len,c.len,d.len,e.len,p,y,aa,B];exact L rfl
 have B:decide ((rop.length:Int)+(j3.length:Int)>250)=false:=decide_eq_false ab;by_cases bc:aJ.length>100
 . have S:decide ((aJ.length:Int)>100)=true:=decide_eq_true ab;simp only [go_sem,a.J,c.J,d.J,e.J,i.J,a.O,c.O,d.O,e.O,i.O,a.len,c.len,d.len,e.len,i.len,p,y,aa,B,S];exact L rfl
 have S:decide ((aJ.length:Int)>100)=false:=decide_eq_false ab;have V:Rows 7 (rop++j3):=λr z=>(aj r z).row;obtain ⟨bp,aX,br,Q,aD,aG,aF,Y,bn,ax⟩:=aks (ti:=t52) (k:=7) MX aq rfl al al D d e V ab;have aQ:=Y.cw V.len;have av:=Y.O;have ar:=Y.len;rw [bD] at ar;simp only [go_sem,a.J,c.J,d.J,e.J,i.J,a.O,c.O,d.O,e.O,i.O,a.len,c.len,d.len,e.len,i.len,p,y,aa,B,S,aD,aG,aF,bH,av,ar];have hF:=trivial;generalize bd:a1 _ _ _ _ _ _ _ _ _ _=aB;revert aB;refine cv [38] (λs=> [(3,.int .i64 s)]) (λ_=>Q) (λA s=>s=((((rop++j3).take A).map wS).sum:Nat)/\s<=3000) (rop.length+j3.length) 0 ⟨rfl,al⟩ ?_ ?_
 . rintro A s tm ah ⟨ao,aS⟩ hF;obtain ⟨aA,Z⟩: ∃r,(rop++j3)[A]? =some r:=⟨(rop++j3)[A]'(by rw [bD];exact ah),by simp only [lj (show A<(rop++j3).length by rw [bD];exact ah)]⟩;have ai:=aV Z;obtain ⟨bk,aM,aN,aO,-⟩:=aQ.at V.len Z;have aK:=aI aA ai;obtain ⟨E,I,g,F,K,l,C⟩:=aj aA ai;obtain ⟨aY,aZ⟩:=aK _ _ _ _ _ _ C;have ae:=uu wS Z;obtain ⟨o,v,w,N,ac,rfl,q,u,⟨h,t,aP,-⟩⟩:=C.eq;have af:wS [.str E I,o,.str F K,v,.int .i64 N,.int .i64 ac,w]=g.length+h.length+l.length:=by show (f o).length+(f v).length+(f w).length=_;rw [bm q,bm t,bm u]
   rw [af] at ae;have aT:IntKind.i64.wrap ((g.length:Int)+(h.length:Int))=(g.length:Int)+(h.length:Int):=wrap64 _ ab ab;have aU:IntKind.i64.wrap ((g.length:Int)+(h.length:Int)+(l.length:Int))=(g.length:Int)+(h.length:Int)+(l.length:Int):=wrap64 _ ab ab;obtain ⟨x,aR⟩: ∃x:Int,x=s+((g.length:Int)+(h.length:Int)+(l.length:Int)):=⟨_,rfl⟩;have aW:IntKind.i64.wrap (s+((g.length:Int)+(h.length:Int)+(l.length:Int)))=x:=by rw [aR];exact wrap64 _ ab ab
   refine au.kp [40,3,38] (λP tm j=>Q=j/\ ∃aw,M tm 39= .int .i64 ((rop.length:Int)+(j3.length:Int))/\M tm 5= .W aw [.str E I,o,.str F K,v,.int .i64 N,.int .i64 ac,w]/\P tm) ?_ ?_
   . simp only [go_sem,hF,av,aM,aN,aO,q.J,t.J,u.J];exact an.mk ⟨rfl,_,by simp only [go_sem,hF];exact ⟨rfl,rfl⟩⟩
   clear hF;rintro tm _ ⟨rfl,aw,hF⟩;refine au.kp [40,39,38] (λP tm j=>Q=j/\M tm 3= .int .i64 x/\P tm) ?_ ?_
   . simp only [go_sem,hF,q.len,t.len,u.len,q.O,t.O,u.O,aT,aU,aW];exact an.mk ⟨rfl,ay⟩
   clear hF;rintro tm _ ⟨rfl,hF⟩;simp only [go_sem,hF];refine au.aE ?_ ?_<;>intro ag<;>try simp only [go_sem,ag]
   . exact au.stop rfl (by simp only [go_sem,hF];exact ak.mk ⟨false,rfl,λT=>by cases T⟩ rfl D ax)
   . have aH:x<=3000:=by simpa using ag
     exact au.next x rfl ⟨by rw [ae];omega,aH⟩ (by simp only [go_sem,hF];rfl)
 . rintro s tm ⟨ao,aS⟩ hF;rw [fT uF] at ao;simp only [go_sem,hF];refine ak.mk ⟨true,rfl,λ_=>⟨ab,ab,ab,ab,λr z E I g F K l C=> ?_⟩⟩ rfl D ax;have:=Ka wS z;obtain ⟨o,v,w,N,ac,rfl,q,u,⟨h,t,aP,-⟩⟩:=C.eq;have af:wS [.str E I,o,.str F K,v,.int .i64 N,.int .i64 ac,w]=g.length+h.length+l.length:=by show (f o).length+(f v).length+(f w).length=_;rw [bm q,bm t,bm u]
   constructor<;>omega
end
def abj:prog.underlying 22=some (.slice 9):=ai
def PE:prog.cellsOf 9=1:=aq
def abe:prog.underlying 50=some (.slice 3):=ai
def Px:prog.cellsOf 3=1:=aq
def aba:prog.underlying 23=some (.slice 166):=ai
def Pl:prog.cellsOf 166=2:=aq
def ZA:lz prog 166=some [9,9]:=aq
def abh:prog.underlying 48=some (.slice 88):=ai
def PC:prog.cellsOf 88=2:=aq
def ZI:lz prog 88=some [9,9]:=aq
def MK:prog.underlying 24=some (.slice 52):=ai
def Gx:prog.cellsOf 52=7:=aq
def ZG:lz prog 52=some [9,22,9,48,3,49,50]:=aq
def aa9:prog.underlying 49=some (.int .i64):=ai
def abb:prog.underlying 27=some (.slice 81):=ai
def Pp:prog.cellsOf 81=15:=aq
def ZE:lz prog 81=some [35,35,33,3,3]:=aq
def MH:prog.underlying 28=some (.slice 83):=ai
def Gt:prog.cellsOf 83=10:=aq
def ZC:lz prog 83=some [9,9,35,3,3]:=aq
def abg:prog.underlying 61=some (.slice 85):=ai
def PB:prog.cellsOf 85=11:=aq
def ZH:lz prog 85=some [9,9,35,33,3,3]:=aq
def abc:prog.underlying 62=some (.slice 114):=ai
def Pq:prog.cellsOf 114=1:=aq
def ZF:lz prog 114=some [33]:=aq
def abi:prog.underlying 29=some (.slice 64):=ai
def PD:prog.cellsOf 64=7:=aq
def ZJ:lz prog 64=some [9,61,33,62,22,3,3]:=aq
def ZK:lz prog 26=some [22,23,24,24,22]:=aq
def ZD:lz prog 31=some [9,26,27,28,9,28,29,9,9]:=aq
def xo {vs} (f:gz 22 vs): ∃x rows,vs= [x]/\F x rows/\iS x=1+hY rows/\b8 rows/\rows.length<=hY rows:=by
 obtain ⟨x,rows,rfl,h,i,g⟩:=jH abj PE al f;have e: ∀a∈rows,∃b c,a= [.str b c]/\T b c/\b<4611686018427387904:=λa d=>i_ (g a d).2;refine ⟨x,rows,rfl,h,i,e,?_⟩;have:=kP 1 rows λa d=>by obtain ⟨b,c,rfl,-⟩:=e a d;simp [E,iS]
 omega
def F0 {vs} (e:lH prog gz [9,9] vs):gd vs/\E vs=2:=by
 obtain ⟨l,n,rfl,-,f,m,o,rfl,-,g,rfl⟩:=e;obtain ⟨a,b,rfl,j,h⟩:=i_ f;obtain ⟨c,d,rfl,k,i⟩:=i_ g;exact ⟨⟨a,b,c,d,rfl,j,k,h,i⟩,by simp [E,iS]⟩
def xp {N:Nat} (hN:N<1048576) {vs} (d:gz 33 vs) (e:E vs<=N): ∃x rows,vs= [x]/\F x rows/\iS x=1+hY rows/\(∀r∈rows,aN r)/\6*rows.length<=hY rows:=by
 obtain ⟨x,rows,rfl,f,c,b⟩:=jH Fa A8 al d;simp only [E,c] at e;refine ⟨x,rows,rfl,f,c,λr a=>qS N r (by have:=l5 a;omega) ab (b r a).2,kP 6 rows λr a=> ?_⟩;obtain ⟨_,_,_,_,_,_,_,_,_,_,-,-,-,-,-,-,-,g,-⟩:=oD (b r a).2;omega
def FZ {N:Nat} (hN:N<1048576) {r} (q:gz 52 r) (C:E r<=N):c6 r/\pA r/\7<=E r:=by
 obtain ⟨R,Z,rfl,-,s,S,aa,rfl,-,t,T,ad,rfl,-,u,U,ae,rfl,-,v,V,af,rfl,-,w,W,ag,rfl,-,x,X,ai,rfl,-,y,rfl⟩:=mi ZG q;obtain ⟨e,g,rfl,L,J⟩:=i_ s;obtain ⟨j,k,rfl,z,O,G,an⟩:=xo t;obtain ⟨f,h,rfl,M,K⟩:=i_ u;obtain ⟨o,i,rfl,B,P,H⟩:=jH abh PC al v;obtain ⟨c,rfl⟩:=kZ na w;obtain ⟨n,rfl⟩:=kZ aa9 x;obtain ⟨p,d,rfl,D,Q,I⟩:=jH abe Px al y;have aj: ∀a∈i,gd a/\E a=2:=λa b=>F0 (mi ZI (H a b).2);have l: ∀a∈d,∃c,a= [.int .i64 c]:=λa b=>kZ na (I a b).2;have ao:=kP 2 i ah;have F:=kP 1 d λa b=>by obtain ⟨c,rfl⟩:=l a b;simp [E,iS]
 simp only [bl,a6,E,O,P,Q,iS] at C|-;have m:fB [.str e g,j,.str f h,o,.int .i64 c,.int .i64 n,p] e g k f h d:=⟨⟨j,o,p,c,n,rfl,z,D,i,B,ab,ah⟩,L,M,J,K,G,ab,l,ab⟩;refine ⟨⟨e,g,k,f,h,d,m⟩,λak aq Y F ar au A=> ?_,ab⟩;obtain ⟨-,-,rfl,-,-,rfl⟩:=m.uniq A;omega
def N1 {N:Nat} (hN:N<1048560) {r} (m:gz 81 r) (h:E r<=N):xb r/\2*e7 r<=E r:=by
 obtain ⟨a,x,rfl,G,f,b,y,rfl,H,g,u,z,rfl,-,n,v,A,rfl,-,o,w,B,rfl,-,p,rfl⟩:=mi ZE m;obtain ⟨c,rfl⟩:=kZ na o;obtain ⟨d,rfl⟩:=kZ na p;simp only [sj] at h|-;obtain ⟨e,t,rfl,i,s,q,F⟩:=xp (N:=N) ab n ab;have j:=qS N a ab ab f;have k:=qS N b ab ab g;obtain ⟨_,_,_,_,_,_,_,_,_,_,-,-,-,-,-,-,-,C,-⟩:=oD f;obtain ⟨_,_,_,_,_,_,_,_,_,_,-,-,-,-,-,-,-,D,-⟩:=oD g;simp only [E,s] at h|-;have l:a++(b++([e]++([aa.int .i64 c]++([aa.int .i64 d]++ []))))=a++b++ [e,.int .i64 c,.int .i64 d]:=ai;rw [l];refine ⟨⟨a,b,e,_,_,rfl,j,k,⟨t,i,q,ab⟩,⟨c,rfl⟩,⟨d,rfl⟩⟩,?_⟩;unfold e7;rw [BF j.len k.len,bm i];omega
def FY {N:Nat} (hN:N<1048560) {r} (j:gz 83 r) (c:E r<=N):iz r/\10<=E r:=by
 obtain ⟨u,y,rfl,-,k,v,z,rfl,-,l,a,A,rfl,F,b,w,B,rfl,-,m,x,C,rfl,-,n,rfl⟩:=mi ZC j;obtain ⟨d,f,rfl,q,o⟩:=i_ k;obtain ⟨e,g,rfl,s,p⟩:=i_ l;obtain ⟨h,rfl⟩:=kZ na m;obtain ⟨i,rfl⟩:=kZ na n;simp only [sj] at c|-;have t:=qS N a ab ab b;obtain ⟨_,_,_,_,_,_,_,_,_,_,-,-,-,-,-,-,-,D,-⟩:=oD b;simp only [E,iS] at c|-;refine ⟨⟨.str d f,.str e g,a,.int .i64 h,.int .i64 i,ai,⟨d,f,rfl,q,o⟩,⟨e,g,rfl,s,p⟩,t,⟨h,rfl⟩,⟨i,rfl⟩⟩,ab⟩
def N3 {N:Nat} (hN:N<1048560) {r} (o:gz 85 r) (j:E r<=N):lG r/\2*iO r<=E r/\11<=E r:=by
 obtain ⟨C,I,rfl,-,p,D,J,rfl,-,q,a,K,rfl,S,i,F,L,rfl,-,s,G,O,rfl,-,t,H,P,rfl,-,u,rfl⟩:=mi ZH o;obtain ⟨c,e,rfl,A,y⟩:=i_ p;obtain ⟨d,f,rfl,B,z⟩:=i_ q;obtain ⟨g,rfl⟩:=kZ na t;obtain ⟨h,rfl⟩:=kZ na u;simp only [sj] at j|-;obtain ⟨b,x,rfl,k,w,v,R⟩:=xp (N:=N) ab s ab;have l:=qS N a ab ab i;obtain ⟨_,_,_,_,_,_,_,_,_,_,-,-,-,-,-,-,-,Q,-⟩:=oD i;simp only [E,iS,w] at j|-;have m: [aa.str c e]++([aa.str d f]++(a++([b]++([aa.int .i64 g]++([aa.int .i64 h]++ [])))))= [.str c e,.str d f]++a++ [b,.int .i64 g,.int .i64 h]:=ai;rw [m];refine ⟨⟨_,_,a,b,_,_,rfl,⟨c,e,rfl,A,y⟩,⟨d,f,rfl,B,z⟩,l,⟨x,k,v,ab⟩,⟨g,rfl⟩,⟨h,rfl⟩⟩,?_,ab⟩;have n:M ([.str c e,.str d f]++a++ [b,.int .i64 g,.int .i64 h]) 8=b:=by
  match a,l.len with
  | [T,U,V,W,X,Y],_=>rfl
 unfold iO;rw [n,bm k];omega
def N2 {N:Nat} (hN:N<1048560) {r} (d:gz 114 r) (a:E r<=N):AE r/\2*lp r<=E r/\1<=E r:=by
 obtain ⟨j,k,rfl,-,e,rfl⟩:=mi ZF d;simp only [sj] at a|-;obtain ⟨c,i,rfl,b,h,g,l⟩:=xp (N:=N) ab e ab;simp only [E,h] at a|-;refine ⟨⟨c,rfl,i,b,g,ab⟩,?_,ab⟩;show 2*(f c).length<=_;rw [bm b];omega
def N4 {N:Nat} (hN:N<1048560) {r} (p:gz 64 r) (k:E r<=N):lI r/\2*kJ r<=E r/\ju r+6<=E r:=by
 obtain ⟨P,W,rfl,-,q,Q,X,rfl,-,s,R,Y,rfl,-,t,S,Z,rfl,-,u,T,aa,rfl,-,v,U,ad,rfl,-,w,V,ae,rfl,-,x,rfl⟩:=mi ZJ p;obtain ⟨B,C,rfl,K,J⟩:=i_ q;obtain ⟨g,c,rfl,e,M,H⟩:=jH abg PB al s;obtain ⟨n,d,rfl,l,O,I⟩:=jH abc Pq al u;obtain ⟨h,o,rfl,i,L,G,aj⟩:=xo v;obtain ⟨D,rfl⟩:=kZ na w;obtain ⟨F,rfl⟩:=kZ na x;simp only [sj] at k|-;obtain ⟨m,A,rfl,j,z,y,ai⟩:=xp (N:=N) ab t ab;simp only [E,iS,M,O,L,z] at k|-;have af: ∀a∈c,lG a/\2*iO a<=E a/\11<=E a:=λa b=>N3 hN (H a b).2 (by have:=l5 b;omega);have ag: ∀a∈d,AE a/\2*lp a<=E a/\1<=E a:=λa b=>N2 hN (I a b).2 (by have:=l5 b;omega);have ak:=qM 2 iO c ah;have an:=kP 11 c ah;have ao:=qM 2 lp d ah;have aq:=kP 1 d ah;simp only [bl,a6];refine ⟨⟨_,g,m,n,h,_,_,rfl,⟨B,C,rfl,K,J⟩,⟨c,e,ah,ab⟩,⟨A,j,y,ab⟩,⟨d,l,ah,ab⟩,⟨o,i,G,ab⟩,⟨D,rfl⟩,⟨F,rfl⟩⟩,?_,?_⟩
 . show 2*(((f g).map iO).sum+(f m).length+((f n).map lp).sum)<=_;rw [bm e,bm j,bm l];omega
 . show 1+(f h).length+(f g).length+6<=_;rw [bm i,bm e];omega
def N0 {N:Nat} (hN:N<1048571) {vs} (y:gz 31 vs) (h:E vs<=N): ∃s kN jv rop j3 e c p d b,fz vs s kN jv rop j3 e c p d b/\ ∀r∈rop++j3,pA r:=by
 obtain ⟨aH,aQ,rfl,-,f,aI,aR,rfl,-,g,aJ,aS,rfl,-,z,aK,aT,rfl,-,A,aL,aU,rfl,-,B,aM,aV,rfl,-,C,aN,aW,rfl,-,D,aO,aX,rfl,-,F,aP,aY,rfl,-,G,rfl⟩:=mi ZD y;obtain ⟨aZ,bb,rfl,-,L,a1,bc,rfl,-,M,a7,bd,rfl,-,O,a8,bf,rfl,-,P,ba,bg,rfl,-,Q,rfl⟩:=mi ZK g;obtain ⟨V,W,rfl,aq,ae⟩:=i_ f;obtain ⟨an,kN,rfl,bm,aF,w,bz⟩:=xo L;obtain ⟨j,jv,rfl,bh,ay,m⟩:=jH aba Pl al M;obtain ⟨Y,rop,rfl,bk,aD,u⟩:=jH MK Gx al O;obtain ⟨l,j3,rfl,bj,aA,o⟩:=jH MK Gx al P;obtain ⟨ao,e,rfl,bn,aG,x,bA⟩:=xo Q;obtain ⟨k,c,rfl,H,az,n⟩:=jH abb Pp al z;obtain ⟨X,p,rfl,J,aC,t⟩:=jH MH Gt al A;obtain ⟨R,S,rfl,ar,af⟩:=i_ B;obtain ⟨U,d,rfl,I,aB,q⟩:=jH MH Gt al C;obtain ⟨ad,b,rfl,K,aE,v⟩:=jH abi PD al D;obtain ⟨aj,ak,rfl,au,ag⟩:=i_ F;obtain ⟨aw,ax,rfl,av,ai⟩:=i_ G;simp only [bl,a6,E,iS,aF,ay,aD,aA,aG,az,aC,aB,aE] at h;have bB: ∀r∈jv,gd r/\E r=2:=λr a=>F0 (mi ZA (m r a).2);have bF: ∀r∈rop,c6 r/\pA r/\7<=E r:=λr a=>FZ (N:=N) ab (u r a).2 (by have:=l5 a;omega);have bC: ∀r∈j3,c6 r/\pA r/\7<=E r:=λr a=>FZ (N:=N) ab (o r a).2 (by have:=l5 a;omega);have Z: ∀r∈c,xb r/\2*e7 r<=E r:=λr a=>N1 (N:=N-13) ab (n r a).2 (by have:=l5 a;omega);have bE: ∀r∈p,iz r/\10<=E r:=λr a=>FY (N:=N-13) ab (t r a).2 (by have:=l5 a;omega);have bD: ∀r∈d,iz r/\10<=E r:=λr a=>FY (N:=N-13) ab (q r a).2 (by have:=l5 a;omega);have aa: ∀r∈b,lI r/\2*kJ r<=E r/\ju r+6<=E r:=λr a=>N4 (N:=N-13) ab (v r a).2 (by have:=l5 a;omega);have bo:=kP 2 jv ah;have bp:=kP 7 rop ah;have bq:=kP 7 j3 ah;have br:=qM 2 e7 c ah;have bs:=kP 10 p ah;have bt:=kP 10 d ah;have bu:=qM 2 kJ b ah;have bw:=qM 1 ju b ah;have bx:=kP 4 c λr a=>by have:=(Z r a).2;unfold e7 at this;omega
 refine ⟨[an,j,Y,l,ao],kN,jv,rop,j3,e,c,p,d,b,⟨⟨_,k,X,_,U,ad,_,_,rfl,⟨V,W,rfl,aq,ae⟩,H,J,⟨R,S,rfl,ar,af⟩,I,K,⟨aj,ak,rfl,au,ag⟩,⟨aw,ax,rfl,av,ai⟩⟩,⟨ah,w,ah,ah,ah,x,ab⟩,
  ah,ah,ah,ah,ab,?_⟩,ah⟩
 cases b with
 |nil=>grind
 | cons i T=>
   have f:=(aa i (dF ..)).2.2;have g:=qM 1 ju T ah;simp only [fS,kE,hY] at h|-;omega
section
variable {d:List aa} {s:List aa} {kN jv rop j3 aJ ahJ p aU ahI:Y} (aX:fz d s kN jv rop j3 aJ ahJ p aU ahI)
include aX
theorem Vh (aQ: ∀r∈rop++j3,pA r):bo λad n=> ∀H,Tidy H->
  ∃b:Bool,(b=true->sv kN jv rop j3 aJ/\oA kN jv rop j3 aJ ahJ p aU ahI)/\ ∀tm,az G (X G R ad n) 15 [.agg d] H tm= .ok (.bool b) tm H:=by
 obtain ⟨bb,Z⟩:=VJ aX.bT aQ;obtain ⟨bc,z⟩:=VG aX;have a7:=YT aX;have bR:=K8 ahJ p aU ahI;have bI:=aX.n1;have bH:=aX.iN;have bW:ahI.length<1048559:=by have:=nV ahI;omega
 obtain ⟨bd,aP⟩:=Jz (m1 ahJ p aU ahI) a7 ab;obtain ⟨bZ,u,ao,bV,ah,ar,b0,b1,aT,⟨ai,aj,rfl,-⟩,B,E,⟨af,ag,rfl,-⟩,D,c,⟨aw,ax,rfl,-⟩,⟨aF,aG,rfl,-⟩⟩:=aX.eq;obtain ⟨aA,S,aq,V,aD,rfl,bp,bq,br,bs,bt⟩:=aX.bT.eq;rw [aT] at z|-;simp only [bl,a6] at Z z|-;refine ⟨bb+bc+bd+1048570,λad n bE bG H q=>sG ?_⟩;obtain ⟨n,rfl⟩:=bY n;obtain ⟨w,aR,T⟩:=Z ad n ab ab H q;obtain ⟨aC,aa,aN⟩: ∃aB,F aB (m1 ahJ p aU ahI)/\ ∀tm,az G (X G R ad n) 34 [.agg [.str ai aj,aA,S,aq,V,aD,u,ao,.str af ag,ah,ar,.str aw ax,.str aF aG]] H tm= .ok aB tm H:=by
  rcases z ad n ab ab H q with h|⟨_,h,-⟩
  . exact h
  . exact h.elim
 obtain ⟨x,aS,y⟩:=aP ad n ab ab aC 2500 H al aa q;have y: ∀tm,az G (X G R ad n) 21 [.int .i64 2500,aC] H tm= .ok (.bool x) tm H:=y;refine aL.at (m:=58) (rs:= [.tmp 2]) rfl rfl rfl rfl rfl rfl rfl rfl ?_;have L: ∀ {a},a=H->ak (j9 (sv kN jv rop j3 aJ/\oA kN jv rop j3 aJ ahJ p aU ahI)) bQ H (.ret (.bool false) a):=λ{a} u=>by subst u;exact ak.mk ⟨false,rfl,λh=>by cases h⟩ rfl q (U.refl _)
 obtain ⟨f,bN⟩: ∃f:Nat,f=ahJ.length+p.length+aU.length+ahI.length:=⟨_,rfl⟩;have N:IntKind.i64.wrap ((ahJ.length:Int)+(p.length:Int))=(ahJ.length:Int)+(p.length:Int):=wrap64 _ ab ab;have P:IntKind.i64.wrap ((ahJ.length:Int)+(p.length:Int)+(aU.length:Int))=(ahJ.length:Int)+(p.length:Int)+(aU.length:Int):=wrap64 _ ab ab;have Q:IntKind.i64.wrap ((ahJ.length:Int)+(p.length:Int)+(aU.length:Int)+(ahI.length:Int))=(f:Nat):=by rw [wrap64 _ ab ab];omega
 refine ak.bM (λtm a=>H=a/\aM 59 [(1,.W 0 [.str ai aj,aA,S,aq,V,aD,u,ao,.str af ag,ah,ar,.str aw ax,.str aF aG]),(2,.bool false)] tm) ?_ ?_
 . simp only [go_sem,bp.J,bq.J,br.J,bs.J,bt.J,B.J,E.J,D.J,c.J];exact an.mk ⟨rfl,dC⟩
 rintro tm _ ⟨rfl,hF⟩;refine ak.bF hF (λo tm a=>H=a/\aM 59 [(3,.int .i64 (f:Nat))] tm/\o tm) ?_ ?_
 . simp only [go_sem,hF,B.O,E.O,D.O,c.O,B.len,E.len,D.len,c.len,N,P,Q];exact an.mk ⟨rfl,ay⟩
 clear hF;rintro tm _ ⟨rfl,hF⟩;by_cases bw:f>400
 . have t:decide ((f:Int)>400)=true:=decide_eq_true ab;simp only [go_sem,hF,t];exact L rfl
 have t:decide ((f:Int)>400)=false:=decide_eq_false ab
 cases w with
 | false=>
   simp only [go_sem,hF,t,T];exact L rfl
 |true=>
 simp only [go_sem,hF,t,T,c.O,c.len];generalize bx:a1 _ _ _ _ _ _ _ _ _ _=aH;revert aH;refine cv [1,30] (λs=> [(3,.int .i64 s)]) (λ_=>H) (λba s=>0<=s/\s<=900) ahI.length f ⟨ab,ab⟩ ?_ ?_
 . clear hF;rintro ba s tm aW ⟨bO,bP⟩ hF;obtain ⟨bn,ae⟩:=bA aW;have aY:=aV ae;obtain ⟨bX,bj,a8,bk,aK,bu,b,rfl,⟨aI,w,rfl,-⟩,⟨e,I,bL,bK⟩,⟨v,C,bD,bC⟩,⟨g,K,bU,bS⟩,⟨i,A,bB,bz⟩,⟨bf,rfl⟩,⟨bg,rfl⟩⟩:=aX.bh bn aY;have N:IntKind.i64.wrap ((e.length:Int)+(g.length:Int))=(e.length:Int)+(g.length:Int):=wrap64 _ ab ab;have P:IntKind.i64.wrap ((e.length:Int)+(g.length:Int)+(i.length:Int))=(e.length:Int)+(g.length:Int)+(i.length:Int):=wrap64 _ ab ab;have Q:IntKind.i64.wrap ((e.length:Int)+(g.length:Int)+(i.length:Int)+(v.length:Int))=(e.length:Int)+(g.length:Int)+(i.length:Int)+(v.length:Int):=wrap64 _ ab ab;obtain ⟨l,aZ⟩: ∃l:Int,l=s+((e.length:Int)+(g.length:Int)+(i.length:Int)+(v.length:Int)):=⟨_,rfl⟩;have bm:IntKind.i64.wrap (s+((e.length:Int)+(g.length:Int)+(i.length:Int)+(v.length:Int)))=l:=by rw [aZ];exact wrap64 _ ab ab
   refine au.kp [32,31,1,3,30] (λo tm a=>H=a/\ ∃av,M tm 5= .W av [.str aI w,bj,a8,bk,aK,.int .i64 bf,.int .i64 bg]/\o tm) ?_ ?_
   . simp only [go_sem,hF,c.O,c.a_ (k:=7) ae rfl,I.J,C.J,K.J,A.J];exact an.mk ⟨rfl,_,by simp only [go_sem,hF];trivial⟩
   clear hF;rintro tm _ ⟨rfl,av,hF⟩;refine au.kp [32,31,1,30] (λo tm a=>H=a/\M tm 3= .int .i64 l/\o tm) ?_ ?_
   . simp only [go_sem,hF,I.len,C.len,K.len,A.len,I.O,C.O,K.O,A.O,N,P,Q,bm];exact an.mk ⟨rfl,ay⟩
   clear hF;rintro tm _ ⟨rfl,hF⟩;simp only [go_sem,hF];refine au.aE ?_ ?_<;>intro Y<;>try simp only [go_sem,Y]
   . exact au.stop rfl (by simp only [go_sem,hF];exact L rfl)
   . have aO:l<=900:=by simpa using Y
     exact au.next l rfl ⟨ab,aO⟩ ay
 . clear hF;rintro s tm-hF;simp only [go_sem,hF,aN,aa.O,y];refine ak.mk (show j9 (sv kN jv rop j3 aJ/\oA kN jv rop j3 aJ ahJ p aU ahI) (.bool x) from ⟨x,rfl,λh=> ?_⟩) rfl q (U.refl _);have j:=aR rfl;exact ⟨j,⟨by have:=j.so;have:=j.be;have:=j.op;have:=j.bJ;omega,λr c=>j.aac r (h7 _ c),2500,(aS h).perm (Yn ..),al⟩⟩
end
theorem U_:K 8 [] (.bool true):=C.cL (p:=KK) rfl rfl rfl rfl λ_=>rfl
section
variable {d:List aa} {s:List aa} {kN jv rop j3 aJ ahJ p aU ahI:Y} (aX:fz d s kN jv rop j3 aJ ahJ p aU ahI)
include aX
theorem Vl (Q: ∀r∈rop++j3,pA r) {f:List aa} (a:aN f):bo λad n=> ∀H,Tidy H->
  ∃b:Bool,(b=true->sv kN jv rop j3 aJ/\oA kN jv rop j3 aJ ahJ p aU ahI/\bL [f] 1500)/\ ∀tm,az G (X G R ad n) 7 [.agg d,.agg f] H tm= .ok (.bool b) tm H:=by
 obtain ⟨W,i⟩:=Vh aX Q;obtain ⟨Y,P⟩:=Jz [f] (λr c=>by rw [bs.1 c];exact a) ai;obtain ⟨ax,ae,aA,an,av,aC,aG,aI,V,⟨aw,ay,rfl,-⟩,x,z,⟨ao,aq,rfl,-⟩,y,c,⟨aD,aE,rfl,-⟩,⟨aK,aM,rfl,-⟩⟩:=aX.eq;obtain ⟨aF,Z,aB,af,aH,rfl,E,F,I,K,L⟩:=aX.bT.eq;rw [V] at i|-;simp only [bl,a6] at i|-;have ag:=k7 a.row;have T:=jc a;obtain ⟨B,C,j,k,l,o,D,M,ar,au,rfl,u,v⟩:=a.t;refine ⟨W+Y+10,λad n ah aj H e=>sG ?_⟩;obtain ⟨n,rfl⟩:=bY n;obtain ⟨N,w,q⟩:=i ad n ab ab H e;obtain ⟨O,S,g⟩:=P ad n ab ab (.A [[.int .i64 B,.int .i64 C,.str j k,.str l o,D,M]] true) 1500 H al (.inr ⟨_,rfl⟩) e;have g: ∀tm,az G (X G R ad n) 21 [.int .i64 1500,.A [[.int .i64 B,.int .i64 C,.str j k,.str l o,D,M]] true] H tm= .ok (.bool O) tm H:=g;refine aL.at (m:=10) (rs:= [.tmp 4]) rfl rfl rfl rfl rfl rfl rfl rfl ?_
 cases N with
 | false=>
   simp only [go_sem,E.J,F.J,I.J,K.J,L.J,x.J,z.J,y.J,c.J,u.J,v.J,q];exact ak.gg e (U.refl _) λh=>by cases h
 | true=>
   simp only [go_sem,E.J,F.J,I.J,K.J,L.J,x.J,z.J,y.J,c.J,u.J,v.J,q,T,bH,g];exact ak.gg e (U.refl _) λh=>⟨(w rfl).1,(w rfl).2,S h⟩
end
def l_.abS {B r h} (a:l_ r h):ek B r->ek B h:=by
 induction a with
 | @mk r v n w y x z A C p q g a _ _ m o=>
   intro j
   cases j with
   | mk d s t k l=>
     have f:=a.eq.symm.trans d.eq;simp only [jn,aa.int.injEq,aa.str.injEq,and_true,true_and] at f;obtain ⟨rfl,rfl,⟨rfl,rfl⟩,⟨rfl,rfl⟩,rfl,rfl⟩:=f;obtain rfl:=qe a.dh d.dh;obtain rfl:=qe a.cq d.cq;exact .mk (ky:=p.map g) (i:=q.map g) ⟨rfl,a.c5,a.pw,a.s1,a.s2,fW _,fW _,by rw [di];exact a.zm,by rw [di];exact a.Kn⟩ (by rw [di];exact s) (by rw [di];exact t)
      (λu e=>by obtain ⟨c,b,rfl⟩:=cd.1 e;exact m c b (k c b)) λu e=>by obtain ⟨c,b,rfl⟩:=cd.1 e;exact o c b (l c b)
def l_.uniq {r a} (c:l_ r a): ∀ {b},l_ r b->a=b:=by
 induction c with
 | @mk r p n w y x z B D s u m c _ _ k l=>
   intro b h
   cases h with
   | @mk _ q A _ _ _ _ C E t v o f i j=>
     have g:=c.eq.symm.trans f.eq;simp only [jn,aa.int.injEq,aa.str.injEq,and_true,true_and] at g;obtain ⟨rfl,rfl,⟨rfl,rfl⟩,⟨rfl,rfl⟩,rfl,rfl⟩:=g;obtain rfl:=qe c.dh f.dh;obtain rfl:=qe c.cq f.cq;rw [vS λe d=>k e d (i e d),vS λe d=>l e d (j e d)]
section
variable {rop kN jv j3:Y}
theorem ajr {R:Nat->Nat->Y->Nat->List aa->Prop} (o: ∀l m args j c f,R l m args j c->R l m args j f->c=f): ∃L:Y,∀c,(∃r l m args ls ms st a j,FL rop r l m args ls ms st a j/\R l m args j c)->c∈L:=by
 classical
 let e:List aa->Nat->List aa->Prop:=λr a c=> ∃l m args ls ms st j,fB r l m args ls ms st/\st[a]? =some [.int .i64 ((j+1:Nat):Int)]/\R l m args j c;let g:List aa->Nat->List aa:=λr a=>if n: ∃c,e r a c then Classical.choose n else []
 refine ⟨rop.flatMap λr=>(List.range 8).map (g r),λc ⟨r,l,m,args,ls,ms,st,a,j,b,h⟩=> ?_⟩;have q:a<8:=by have:=(e6.1 b.dp).1;have:=b.ag7;omega
 refine fC.2 ⟨r,b.mem,cd.2 ⟨a,h9.2 q,?_⟩⟩;have d: ∃c,e r a c:=⟨c,l,m,args,ls,ms,st,j,b.Ef,b.dp,h⟩;have k:g r a=Classical.choose d:=dif_pos d;rw [k];obtain ⟨v,x,u,w,y,z,t,s,i,p⟩:=Classical.choose_spec d;obtain ⟨rfl,rfl,rfl,rfl,rfl,rfl⟩:=s.uniq b.Ef;rw [b.dp] at i;simp only [N,jn,aa.int.injEq,and_true,true_and] at i;obtain rfl:j=t:=ab;exact o _ _ _ _ _ _ p h
end
def aiN (jv:Y) (l m a b:Nat):Bool:=(a==3&&b==7958081)||(ny jv l m).any (isStr a b)
def aim (jv:Y) (l m:Nat) (r:List aa):Bool:=match r with
 | [.str a b]=>aiN jv l m a b
 |_=>false
def ajz {α:Type} {p:α->Bool} {l:List α} {j:Nat} {x:α} (d:l[j]? =some x) (b:(l.take j).find? p=none) (c:p x=true):l.find? p=some x:=by
 obtain ⟨e,a⟩:=e6.1 d;have:l=l.take j++x::l.drop (j+1):=by rw [<-a,List.getElem_cons_drop,yT]
 rw [this,List.find?_append,b];simp [c]
def ajG {x:aa} {rows:Y} (b:F x rows) (z: ∀r∈rows,c6 r) (w:rows.length<1048560) {l m:Nat} {q:List aa} (i:rows.find? (eV l m)=some q):K 96 [x,.str l m] (.av [.agg q,.bool true]):=by
 refine C.run (m:=19) rfl rfl rfl rfl rfl (by simp only [aO,b.aD];rfl) rfl rfl (rows.length+5) λS T R w N A=> ?_;simp only [go_sem,b.O,b.len];have hF:=trivial;generalize Q:a1 _ _ _ _ _ _ _ _ _ _=j;revert j;refine dA [1,4,8] (λg=>(rows.take g).find? (eV l m)=none) rows.length rfl ?_ ?_
 . intro g s M u a hF;obtain ⟨r,c⟩:=bA u;have v:=aV c;obtain ⟨n,o,P,B,E,W,y⟩:=z r v;obtain ⟨H,I,L,G,ac,rfl,d,p8,V,f,-⟩:=y.eq;simp only [go_sem,hF,b.O,b.a_ (k:=7) c rfl,d.J,p8.J,f.J];refine au.aE ?_ ?_<;>intro t<;>try simp only [go_sem,hF,t,d.J,p8.J,f.J]
   . have h:=ajz c a (p:=eV l m) (by simp only [eV];simp_all);rw [i] at h;cases h;refine au.stop rfl ?_;simp only [go_sem,hF];exact e.mk (by show ([aa.str n o,H,.str B E,I,.int .i64 G,.int .i64 ac,L].all (D 18)&&_)=true;simp only [aO,d.aI 17,p8.aI 17,f.aI 17];rfl) A (U.refl _)
   . refine au.next () rfl ?_ ay;show (rows.take (g+1)).find? (eV l m)=none;rw [fg,c,List.find?_append,a];simp only [eV,Option.none_or,Db,yK,List.find?_nil];split<;>simp_all
 . intro s M a hF;rw [bX,i] at a;cases a
section
variable {s:List aa} {kN jv rop j3 aJ:Y} (p8:oz s kN jv rop j3 aJ)
include p8
theorem ajL {l m:Nat} (k:T l m) (i:l<4611686018427387904) (c d:Nat):K 59 [.agg s,.str l m,.str c d] (.bool (aiN jv l m c d)):=by
 obtain ⟨H,w,G,z,I,rfl,o,p,q,r,t⟩:=p8.eq;have D:=p8.n;obtain ⟨E,A⟩:=(Vc (.inr ⟨rfl,rfl⟩) _ jv H w G z I rfl ⟨o.J,q.J,r.J,t.J⟩ p p8.be ab l m k i).val;obtain ⟨F,B⟩:=ajf (jv.length+1) ab;refine C.run (m:=13) rfl rfl rfl rfl rfl rfl rfl rfl (E+F) λu v M D f a=> ?_;obtain ⟨L,j,x⟩:=A u v ab ab f a;have h:=xI p8.be k i (jv.length+1);have y:=B u v ab ab L (ny jv l m) c d f h.1 (by have:=h.len;show (fp jv l m (jv.length+1)).length<=_;omega) a j.cw;simp only [go_sem,o.J,p.J,q.J,r.J,t.J];refine e.aE ?_ ?_<;>intro g<;>simp only [go_sem,g,x,j.O,y]
 all_goals exact e.b a (U.refl _) (by simp [aiN,g])
theorem ajO {l m:Nat} (I:T l m) (E:l<4611686018427387904):K 32 [.agg s,.str l m] (.bool (aJ.any (aim jv l m))):=by
 obtain ⟨R,z⟩:=C.all (l:=aJ) (f:=59) (g:=λa=> [.agg s,.str l m,M a 0]) (v:=λa=> .bool (aim jv l m a)) λa G=>by obtain ⟨u,h,rfl,-⟩:=p8.bJ a G;exact ajL p8 I E u h
 have H:=p8.bJ;have F:=p8.n;obtain ⟨ad,W,aa,X,af,rfl,L,N,P,Q,d⟩:=p8.eq;refine C.run (m:=17) rfl rfl rfl rfl rfl rfl rfl rfl (R+aJ.length+5) λS V Z F x r=> ?_;simp only [go_sem,L.J,N.J,P.J,Q.J,d.J,d.O,d.len];have hF:=trivial;generalize Y:a1 _ _ _ _ _ _ _ _ _ _=y;revert y;refine dA [1,2,8] (λw=>(aJ.take w).any (aim jv l m)=false) aJ.length rfl ?_ ?_
 . intro w s t D i hF;obtain ⟨a,p⟩:=bA D;have o:=aV p;have j:=λt=>z S V ab ab a o x t r;obtain ⟨ae,q⟩: ∃h,aim jv l m a=h:=⟨_,rfl⟩;have B:=λc=>kB.2 ⟨a,o,(q.trans c:aim jv l m a=true)⟩;have A:=λc=>nr p i (q.trans c:aim jv l m a=false);rw [q] at j;obtain ⟨u,h,rfl,-⟩:=H a o;simp only [jj] at j;simp only [go_sem,hF,d.O,d.a_ (k:=1) p rfl,j];refine au.aE ?_ ?_<;>intro c<;>simp only [go_sem,hF,c]
   . refine au.stop rfl ?_;simp only [go_sem,hF];exact e.b r (U.refl _) (B c)
   . exact au.next () rfl (A c) ay
 . intro s t i hF;rw [bX] at i;simp only [go_sem,hF];exact e.b r (U.refl _) i
theorem ajM {l m:Nat} {E H ls ms:Nat} {a p s':aa} {i j:Int} (h:rop.find? (eV l m)=some [.str E H,a,.str ls ms,p,.int .i64 i,.int .i64 j,s']):K 58 [.agg s,.str l m] (.av [a,.str ls ms,.bool true]):=by
 obtain ⟨c,b,u,w⟩: ∃c,F a c/\J p=true/\J s'=true:=by obtain ⟨_,_,c,_,_,T,r⟩:=p8.op _ (yS h);obtain ⟨_,_,_,_,_,g,b,p8,R,v,-⟩:=r.eq;simp only [jn] at g;obtain ⟨-,rfl,-,rfl,-,-,rfl,-⟩:=g;exact ⟨_,b,v.J,p8.J⟩
 have q:=p8.n;have t:=p8.op;obtain ⟨S,M,Q,N,V,rfl,x,y,f,z,A⟩:=p8.eq;obtain ⟨B,d⟩:=ajG f t ab h;refine C.run (m:=45) rfl rfl rfl rfl rfl rfl rfl rfl B λG I P q o k=> ?_;have d:=λL=>d G I ab ab o L k;simp only [go_sem,x.J,y.J,f.J,z.J,A.J,f.O,d,b.J,u,w,b.O,b.aD,if_true];refine e.mk ?_ k (U.refl _);show ([a,.str ls ms,.bool true].all (D 19))=true;simp only [aO,b.aI 18];rfl
theorem ajH {r k n l1 m1 j l y z ky i} (Y:kX r k n l1 m1 j l y z ky i) (x:k=1\/k=2\/k=3\/k=4\/k=7\/k=8\/(k=5/\j0 rop l1 m1=true/\rop.find? (eV l1 m1)=some (iQ rop l1 m1))):
  K 31 [.agg s,.agg r] (.av [.str (zU kN rop j3 k l1 m1 j l).1 (zU kN rop j3 k l1 m1 j l).2,.bool true]):=by
 have W:=p8.op;obtain ⟨v,g⟩: ∃M,∀p n,M<=p->M<=n->k=5-> ∃a,∀h q,Tidy h->F a (f a)/\az G (X G R p n) 58 [.agg s,.str l1 m1] h q= .ok (.av [a,.str (zU kN rop j3 k l1 m1 j l).1 (zU kN rop j3 k l1 m1 j l).2,.bool true]) q h:=by
  by_cases w:k=5
  . subst w;have ⟨T,u⟩:j0 rop l1 m1=true/\rop.find? (eV l1 m1)=some (iQ rop l1 m1):=by
     rcases x with d|d|d|d|d|d|⟨-,d⟩
     all_goals first|exact d|exact absurd d al
    have Q:zU kN rop j3 5 l1 m1 j l=(match iQ rop l1 m1 with|_::_:: .str a b::_=>(a,b)|_=>(0,0)):=by show (match mr rop j3 l1 m1 with|_::_:: .str a b::_=>(a,b)|_=>(0,0))=_;unfold mr;rw [if_pos T]
    rw [Q];obtain ⟨ai,ak,Z,aj,an,ax,V⟩:=W _ (yS u);obtain ⟨a,aq,au,ag,ah,S,t,-⟩:=V.eq;rw [S] at u|-;obtain ⟨v,g⟩:=ajM p8 u;exact ⟨v,λp n N P _=>⟨a,λh q o=>⟨by rw [bm t];exact t,g p n N P h q o⟩⟩⟩
  . exact ⟨0,λ_ _ _ _ d=>absurd d w⟩
 obtain ⟨aw,aa,ao,ad,ay,rfl,D,E,H,I,L⟩:=p8.eq;refine C.run (m:=46) rfl rfl rfl rfl rfl rfl rfl rfl v λp n ae af h o=> ?_;have g:=g p n ab ab;obtain ⟨rfl,A,B⟩:=Y.c;rcases x with rfl|rfl|rfl|rfl|rfl|rfl|⟨rfl,-⟩
 rotate_left 6
 . obtain ⟨a,g⟩:=g rfl;have t:=(g h [] o).1;have g:=λq=>(g h q o).2;generalize zU kN rop j3 5 l1 m1 j l=ar at*;simp only [go_sem,D.J,E.J,H.J,I.J,L.J,A.J,B.J,g,t.J,t.O];exact e.mk rfl o (U.refl _)
 all_goals
  simp only [go_sem,D.J,E.J,H.J,I.J,L.J,A.J,B.J];exact e.mk rfl o (U.refl _)
theorem ajN {r k n l1 m1 a b y z ky i} (l:kX r k n l1 m1 a b y z ky i) (u:k=1\/k=2\/k=3\/k=4\/k=7\/k=8\/(k=5/\j0 rop l1 m1=true/\rop.find? (eV l1 m1)=some (iQ rop l1 m1)))
  (o:T (zU kN rop j3 k l1 m1 a b).1 (zU kN rop j3 k l1 m1 a b).2/\(zU kN rop j3 k l1 m1 a b).1<4611686018427387904) (t:my kN (zU kN rop j3 k l1 m1 a b).1 (zU kN rop j3 k l1 m1 a b).2=true):
  K 13 [.agg s,.agg r] (.bool (pt kN jv aJ (zU kN rop j3 k l1 m1 a b).1 (zU kN rop j3 k l1 m1 a b).2)):=by
 obtain ⟨F,d⟩:=ajH p8 l u;obtain ⟨G,f⟩:=ajO p8 o.1 o.2;have q:pt kN jv aJ (zU kN rop j3 k l1 m1 a b).1 (zU kN rop j3 k l1 m1 a b).2=aJ.any (aim jv (zU kN rop j3 k l1 m1 a b).1 (zU kN rop j3 k l1 m1 a b).2):=by
  unfold pt;refine congrArg aJ.any (funext λO=> ?_);unfold aim;split
  . unfold aiN ja mj;rw [if_pos t]
  . split
    . simp_all
    . rfl
 rw [q];obtain ⟨P,H,N,I,Q,rfl,x,A,B,D,E⟩:=p8.eq;refine C.run (m:=17) rfl rfl rfl rfl rfl rfl rfl rfl (F+G) λp n L M j g=> ?_;have d:=λh=>d p n ab ab j h g;have f:=λh=>f p n ab ab j h g;obtain ⟨rfl,v,w⟩:=l.c;simp only [go_sem,x.J,A.J,B.J,D.J,E.J,v.J,w.J,d,f];exact e.mk rfl g (U.refl _)
end
def sz.ajT {ax:aa} {c r:List aa} {b:Option Sub} {e:oj} {d:List aa} (a:sz ax c r b e d):sz ax c (ah4 r) b [] d:=by
 obtain ⟨j,f,g,k,l,m,h,i,rfl,-,a⟩:=a.eq;exact ⟨⟨j,f,g,k,l,.V,h,i,rfl,.inl ⟨rfl,rfl⟩,a⟩,sz.aaJ ‹_›,sz.Am ‹_›,(λ_ a=>by cases a),fV _⟩
def ajh {ad n:Nat} {x y:aa} {A B:Y} (c:F x A) (d:F y B) (E:A.length=B.length) (hlf:A.length<ad) (q: ∀a∈A,aN a) (r: ∀b∈B,aN b) (ae:A.length<4611686018427387904) {H:af} (I:Tidy H)
    (p: ∀(i:Nat) a b,A[i]? =some a->B[i]? =some b-> ∀tm,az G (X G R ad n) 12 [.agg a,.agg b] H tm= .ok (.bool true) tm H): ∀tm,az G (X G R ad (n+1)) 30 [x,y] H tm= .ok (.bool true) tm H:=by
 refine jQ (aL.at (m:=25) (rs:= [.tmp 4]) rfl rfl rfl rfl rfl (by simp only [aO,c.aD,d.aD];rfl) rfl rfl ?_);have K:(((A.length:Nat):Int) !=((B.length:Nat):Int))=false:=by rw [E];simp
 simp only [go_sem,c.O,c.len,d.O,d.len,K];have hF:=trivial;generalize Z:a1 _ _ _ _ _ _ _ _ _ _=l;revert l;refine dA [0,1] (λ_=>True) A.length trivial ?_ ?_
 . clear hF;rintro g L tm D-hF;obtain ⟨a,e⟩:=bA D;obtain ⟨b,f⟩: ∃b,B[g]? =some b:=⟨B[g]'ab,ai⟩;have h:=q a (aV e);have j:=r b (aV f);have o:=p g a b e f;have v:=c.a_ (k:=6) e h.len;have C:=d.a_ (k:=6) f j.len;obtain ⟨ag,aq,M,N,P,Q,av,ax,aj,an,rfl,s,u⟩:=h.t;obtain ⟨ah,ar,S,T,V,W,aw,aA,al,ao,rfl,w,z⟩:=j.t;simp only [go_sem,hF,c.O,d.O,v,C,s.J,u.J,w.J,z.J,o];exact au.next () rfl trivial ay
 . rintro L tm-hF;simp only [go_sem,hF];exact ak.mk rfl rfl I (U.refl _)
def ajK {b:List aa} (K:aN b):bo λad n=> ∀a,aN a->ah2 a=ah2 b-> ∀H tm,Tidy H->az G (X G R ad n) 12 [.agg a,.agg b] H tm= .ok (.bool true) tm H:=by
 induction K with
 | @mk aI aw ay aC aE aD aF aJ aM A B y w x P S=>
 obtain ⟨T,E⟩:=dE (l:=A) (Q:=λe ad n=> ∀a,aN a->ah2 a=ah2 e-> ∀H tm,Tidy H->az G (X G R ad n) 12 [.agg a,.agg e] H tm= .ok (.bool true) tm H) P;obtain ⟨V,F⟩:=dE (l:=B) (Q:=λe ad n=> ∀a,aN a->ah2 a=ah2 e-> ∀H tm,Tidy H->az G (X G R ad n) 12 [.agg a,.agg e] H tm= .ok (.bool true) tm H) S;have hT:=ah9 y w x;obtain ⟨rfl,-,-,-,-,t,u,au,av⟩:=y;refine ⟨T+V+A.length+B.length+2,λad n aq ar a I s H tm f=> ?_⟩;obtain ⟨n,rfl⟩: ∃W,n=W+1+1:=⟨n-2,ab⟩;obtain ⟨ax,aG,aj,al,an,ao,aK,aO,aA,aB,k,o,p⟩:=I.ea;rw [hT,ah9 k o p] at s;simp only [ak1.n.injEq] at s;obtain ⟨rfl,rfl,rfl,rfl,rfl,rfl,ah,ai⟩:=s;have z: ∀ {i j:Y},i.map ah2=j.map ah2->(i.length=j.length)/\ ∀(d:Nat) a b,i[d]? =some a->j[d]? =some b->ah2 a=ah2 b:=λ{i j} v=>⟨by simpa using congrArg List.length v,λd e aH M L=>by have:=congrArg (·[d]?) v;simp only [hO,M,L,jV,N] at this;exact this⟩;obtain ⟨Z,ae⟩:=z ah;obtain ⟨af,ag⟩:=z ai;obtain ⟨rfl,q,r⟩:=k.c;have C:=ajh q t Z (ad:=ad) (n:=n) ab o w k.zm f λd a b g h tm=>E ad n ab ab b (aV h) a (o a (aV g)) (ae d a b g h) H tm f;have D:=ajh r u af (ad:=ad) (n:=n) ab p x k.Kn f λd a b g h tm=>F ad n ab ab b (aV h) a (p a (aV g)) (ag d a b g h) H tm f;refine jQ (aL.at (m:=43) (rs:= [.tmp 4]) rfl rfl rfl rfl rfl rfl rfl rfl ?_) tm;simp only [go_sem,t.J,u.J,q.J,r.J,t.O,u.O,q.O,r.O,beq_self_eq_true,tu,C,D];exact ak.mk rfl rfl f (U.refl _)
section
variable {kN jv rop j3:Y}
def aio (kN jv rop j3:Y) (L:gS) (d:Y) (i:Nat):Prop:= ∀a b c,a<i->L[a]? =some b->d[a]? =some c->ja kN jv (eh kN rop j3 c).1 (eh kN rop j3 c).2 b.2.1 b.2.2=true
theorem ajs {L:gS} {d:Y}: ∀(i:Nat) {u g:Sub},fZ (pj kN jv rop j3 L d) i u=some g->aio kN jv rop j3 L d i
 |0,_,_,_=>λb _ _ a=>absurd a (Nat.not_lt_zero b)
 | i + 1,u,g,a=>λb j k l e f=>by
   cases c:fZ (pj kN jv rop j3 L d) i u with
   |none=>simp only [fZ,c,Option.bind_none] at a;cases a
   | some m=>
     by_cases h:b<i
     . exact ajs i c b j k h e f
     . obtain rfl:b=i:=ab;simp only [fZ,c,nT,pj,e,f,fx] at a;split at a
       . assumption
       . cases a
theorem ajt {L:gS} {c:Y} (h:L.length=c.length): ∀(i:Nat) {u:Sub},i<=L.length->aio kN jv rop j3 L c i-> ∃k,fZ (pj kN jv rop j3 L c) i u=some k
 |0,u,_,_=>⟨u,rfl⟩
 |i+1,u,l,d=>by obtain ⟨n,g⟩:=ajt h i (u:=u) ab λj a b m=>d j a b ab;obtain ⟨a,e⟩: ∃a,L[i]? =some a:=⟨L[i],ai⟩;obtain ⟨b,f⟩: ∃b,c[i]? =some b:=⟨c[i]'ab,ai⟩;simp only [fZ,g,nT,pj,e,f,fx,if_pos (d i a b (Nat.lt_succ_self i) e f)];exact ⟨_,rfl⟩
theorem ajW {l m:Nat} {L:gS} {k n w z:_} {y:aa} {u b:Sub} (a:ly kN jv rop j3 l m L [.int k 5,n,.str l m,w,y,z] u=some b):aio kN jv rop j3 L (f y) L.length:=by
 unfold ly at a;dsimp only at a;rw [if_pos ⟨rfl,rfl,rfl⟩] at a;split at a
 . exact ajs _ a
 . cases a
theorem ajX {l m:Nat} {L:gS} {k n w z:_} {y:aa} (u:Sub) (a:L.length=(f y).length) (b:aio kN jv rop j3 L (f y) L.length): ∃c,ly kN jv rop j3 l m L [.int k 5,n,.str l m,w,y,z] u=some c:=by unfold ly;dsimp only;rw [if_pos ⟨rfl,rfl,rfl⟩,if_pos a];exact ajt a _ (aT _) b
theorem ajZ {l m:Nat} {L:gS} {k c:IntKind} {n w z d w' g b y:aa} {rest:Y} {u:Sub} (h:f y= [.int c 5,d,.str l m,w',b,g]::rest) (e:sd kN jv rop j3 l m L [.int k 7,n,.str 0 0,w,y,z] []=some u):
  aio kN jv rop j3 L (f b) L.length/\ja kN jv 4 1953720652 4 1953720652=true:=by
 unfold sd at e;dsimp only at e;rw [if_pos ⟨rfl,rfl,rfl⟩,h] at e;simp only at e
 cases a:ly kN jv rop j3 l m L [.int c 5,d,.str l m,w',b,g] [] with
 |none=>rw [a] at e;cases e
 | some i=>
   rw [a] at e;simp only [nT,fx] at e;refine ⟨ajW a,?_⟩;split at e
   . assumption
   . cases e
theorem ajY {c d l m:Nat} {L:gS} {k b:IntKind} {n w z e w' g a y:aa} {q:List aa} {rest:Y} (s:f y=q:: [.int b 5,e,.str l m,w',a,g]::rest) (p:L.length=(f a).length) (r:ja kN jv (eh kN rop j3 q).1 (eh kN rop j3 q).2 c d=true)
  (o:aio kN jv rop j3 L (f a) L.length) (i:ja kN jv 4 1953720652 4 1953720652=true): ∃u,sc kN jv rop j3 c d l m L [.int k 7,n,.str 0 0,w,y,z] []=some u:=by
 unfold sc;dsimp only;rw [if_pos ⟨rfl,rfl,rfl⟩,s];simp only [fx,if_pos r,nT];obtain ⟨t,h⟩:=ajX (gj [] 1 q) p o (k:=b) (n:=e) (w:=w') (z:=g);rw [h];simp only [nT];have j:ja kN jv (eh kN rop j3 (j2 y 2)).1 (eh kN rop j3 (j2 y 2)).2 4 1953720652=true:=i;unfold fx;rw [if_pos j];exact ⟨_,rfl⟩
end
def aiA (l m:Nat) (a:List ak1):ak1:= .n 5 0 l m 0 0 a []
def aiK (a:List ak1):ak1:= .n 7 0 0 0 0 0 a []
theorem aiM {k n:Int} {l m a b:Nat} {y:aa} {ky:Y} (g:F y ky) (e:aN [.int .i64 k,.int .i64 n,.str l m,.str a b,y,.V]):ah2 [.int .i64 k,.int .i64 n,.str l m,.str a b,y,.V]= .n k n l m a b (ky.map ah2) []:=by obtain ⟨i,o,_,_,_,_,p,q,j,h,d,e,f⟩:=e.ea;have c:=d.eq;simp only [jn,aa.int.injEq,aa.str.injEq,and_true,true_and] at c;obtain ⟨rfl,rfl,⟨rfl,rfl⟩,⟨rfl,rfl⟩,rfl,rfl⟩:=c;obtain rfl:=qe g d.dh;have c:h= []:=qe d.cq (.inl ⟨rfl,rfl⟩);subst c;rw [ah9 d e f];rfl
def aiO (args:Y):(hh args).length=args.length:=C2
theorem ajy {u:Sub} (j:c7 u) {args:Y} (f:b8 args) (k:args.length<=8) {xs:Y} (l:args.length=xs.length) (g: ∀i x,xs[i]? =some x->dw u (i+2)=some x) (d:Nat):(cp args).map (cj u (d+1))=xs:=by
 refine CT λi=> ?_;rw [hO];by_cases h:i<args.length
 . obtain ⟨b,c,-,e,-⟩:=Nj f h;obtain ⟨x,a⟩: ∃x,xs[i]? =some x:=⟨xs[i]'ab,ai⟩;rw [e,a];show some (cj u (d+1) (c_ (i+2) b c))=_;rw [BN j ab,g i x a];rfl
 . rw [vQ (by rw [qP];omega),vQ ab];rfl
def ai9 {u:Sub} (c:c7 u) {r:List aa} (b:dw u 0=some r) (d:Nat):([cn 1 75 4 1953720652].flatMap λq=>f (M (cj u (d+1) q) 4))=f (M r 4):=by
 have a:cj u (d+1) (c_ 0 4 1953720652)=r:=by rw [BN c al,b];rfl
 show f (M (cj u (d+1) (c_ 0 4 1953720652)) 4)++ []=_;rw [a,fw]
def ai2 {α β:Type} (f:α->β) (l:List α) (j:Nat):(l.eraseIdx j).map f=(l.map f).eraseIdx j:=by
 induction l generalizing j with
 |nil=>simp
 |cons b l a=>cases j<;>simp [a]
section
variable {rop kN jv j3:Y}
theorem ajA {B:Nat} (aj:B<100000) {l m:Nat} {args st:Y} {r:List aa} {ls ms ad j:Nat} (a:FL rop r l m args ls ms st ad j) {k Z:IntKind} {n w z ae w' ag b y:aa} {rest:Y} (J:ek B [.int k 7,n,.str 0 0,w,y,z])
  (K:f y= [.int Z 5,ae,.str l m,w',b,ag]::rest) {u:Sub} (T:sd kN jv (eZ rop) (j3.map ct) l m (hh args) [.int k 7,n,.str 0 0,w,y,z] []=some u):
  ∃x,(f b)[j]? =some x/\dw u (j+2)=some x/\args.length=(f b).length/\ah2 (cj u 4 (Cc l m args j))=aiK (ah2 x::aiA (fe l) (gD l m j) (((f b).map ah2).eraseIdx j)::rest.map ah2):=by
 have R:=(Al a.Ef.hS a.FX).1;obtain ⟨g,af,ao,av,aI,aK,aM,ay,az,G,t,aq,aw,aJ,aL,aO,H,q,c⟩:=Md ab R J T;simp only [jn,aa.int.injEq,and_true] at G;obtain ⟨⟨rfl,-⟩,rfl,-,rfl,rfl,rfl⟩:=G;rw [K] at t;simp only [jn] at t;obtain ⟨rfl,rfl⟩:=t;simp only [jn,aa.int.injEq,and_true] at H;obtain ⟨⟨rfl,-⟩,rfl,-,rfl,rfl,rfl⟩:=H;rw [aiO] at q;have W:=SB ⟨a.Ef.c5,a.cQ⟩ a.Ef.hS a.FX a.gE;have v:=(vg g ab af al W).wt;have an:=a.gE;have ah:=a.FX;have s: ∀e x,(f b)[e]? =some x->dw u (e+2)=some x:=λe x d=>by have ak:=(e6.1 d).1;obtain ⟨D,E,-,o⟩:=Nq a.Ef.hS (i:=e) ab;exact DT (i:=e+1) g (by rw [c,tA];unfold k2;rw [hO,(ahO (z:=((e+2,D,E),x))).2 ⟨o,d⟩];rfl)
 have S:dw u 0=some (j2 y 1):=DT (i:=0) g (by rw [c];rfl);have U:=λL=>ajy g a.Ef.hS a.FX q s L;obtain ⟨x,d⟩: ∃x,(f b)[j]? =some x:=⟨(f b)[j]'ab,ai⟩;refine ⟨x,d,s j x d,q,?_⟩;obtain ⟨D,E,p,o⟩:=M6 a.Ef.hS (i:=((j+1:Nat):Int)) ab ab;have P:(((j+1:Nat):Int)-1).toNat=j:=ab;rw [P] at p o;have N:cj u 3 (cm (fe l) (gD l m j) (.A ((cp args).eraseIdx j) false))= [.int .i64 5,.int .i64 0,.str (fe l) (gD l m j),.str 0 0,dk ((f b).eraseIdx j),.V]:=by have:=BM u 2 (k:=5) 0 (l1:=fe l) (m1:=gD l m j) 0 0 al (.inr ⟨_,rfl⟩:F (.A ((cp args).eraseIdx j) false) _) (.inl ⟨rfl,rfl⟩:F .V []);rw [ai2,U 1,List.flatMap_nil,fw] at this;exact this
 have O:cj u 3 (jA args ((j+1:Nat):Int))=x:=by rw [o,BN g ab,s j x d];rfl
 have h:=BM u 3 (k:=7) 0 (l1:=0) (m1:=0) 0 0 al (.inr ⟨_,rfl⟩:F (.A [jA args ((j+1:Nat):Int),cm (fe l) (gD l m j) (.A ((cp args).eraseIdx j) false)] true) [_,_]) (.inr ⟨_,rfl⟩:F cM [_]);have Q:f (M (j2 y 1) 4)=rest:=by show f (xL y 1)=_;obtain ⟨au,ax,aB,aC,aG,aH,aD,aE,aA,aF,C,-,-⟩:=J.wt.ea;have c:=C.eq;simp only [jn,and_true] at c;obtain ⟨-,-,-,-,rfl,-⟩:=c;rw [bm (BB C.dh 1),<-bm C.dh,K];rfl
 rw [ai9 g S,Q,fS,fS,rG,O,N] at h;have h:cj u 4 (Cc l m args j)=_:=h;rw [h] at v|-;rw [aiM (fW _) v];have X:aN [.int .i64 5,.int .i64 0,.str (fe l) (gD l m j),.str 0 0,dk ((f b).eraseIdx j),.V]:=by obtain ⟨_,_,_,_,_,_,_,_,ar,_,I,p,-⟩:=v.ea;have c:=I.eq;simp only [jn,and_true] at c;obtain ⟨-,-,-,-,rfl,-⟩:=c;obtain rfl:=qe (fW _) I.dh;exact p _ ai
 simp only [bl,a6,fS];rw [aiM (fW _) X,ai2];rfl
theorem ajx {B:Nat} (aG:B<100000) {l m:Nat} {args st:Y} {r:List aa} {ls ms aA j a b:Nat} (c:FL rop r l m args ls ms st aA j) (L:args[j]? =some [.str a b]) {k az:IntKind} {n w z aB w' aD s y:aa} {q:List aa} {rest:Y} (O:ek B [.int k 7,n,.str 0 0,w,y,z])
  (R:f y=q:: [.int az 5,aB,.str (fe l) (gD l m j),w',s,aD]::rest) {u:Sub} (aw:sc kN jv (eZ rop) (j3.map ct) a b (fe l) (gD l m j) ((hh args).eraseIdx j) [.int k 7,n,.str 0 0,w,y,z] []=some u):
  dw u 1=some q/\ ∃C:List ak1,C.length=args.length/\C[j]? =some (ah2 q)/\C.eraseIdx j=(f s).map ah2/\ah2 (cj u 4 (A7 l m args j))=aiK (aiA l m C::rest.map ah2):=by
 have ag:=(Al c.Ef.hS c.FX).1;have ah:=ag.erase j;obtain ⟨o,aC,aH,aL,a1,a8,bb,aP,aQ,aR,J,G,-,aI,aM,a7,ba,bc,p,aq,d⟩:=Mc ab ah O aw;simp only [jn,aa.int.injEq,and_true] at J;obtain ⟨⟨rfl,-⟩,rfl,-,rfl,rfl,rfl⟩:=J;rw [R] at G;simp only [jn] at G;obtain ⟨rfl,rfl,rfl⟩:=G;simp only [jn,aa.int.injEq,and_true] at p;obtain ⟨⟨rfl,-⟩,rfl,-,rfl,rfl,rfl⟩:=p;have E:=c.gE;have aF:=c.FX;rw [aiX,aiO,if_pos E] at aq;have ax:iB 4 (A7 l m args j):=ai7 ⟨c.Ef.c5,c.cQ⟩ c.Ef.hS c.FX E L;have H:=(vg o ab aC al ax).wt;have ar:dw u 0=some (j2 y 2):=DT (i:=0) o (by rw [d];rfl);have P:dw u 1=some q:=DT (i:=1) o (by rw [d];rfl);have ao:ps args j=c_ 1 a b:=by unfold ps;rw [L];rfl
 obtain ⟨e,v⟩: ∃e,e=((cp args).set j (ps args j)).map (cj u 2):=⟨_,rfl⟩;have an:e.length=args.length:=by rw [v,di,aiY,qP]
 have ak:e[j]? =some q:=by rw [v,hO,List.getElem?_set_self (by rw [qP];exact E),ao];show some (cj u 2 (c_ 1 a b))=_;rw [BN o al,P];rfl
 have aj:e.eraseIdx j=f s:=by
  refine CT λh=> ?_;obtain ⟨g,x⟩: ∃g,g=if h<j then h else h+1:=⟨_,rfl⟩
  have p: ∀ {aE:Type} (l:List aE),(l.eraseIdx j)[h]? =l[g]? :=λl=>by rw [aiI,x];split<;>rfl
  have av:j≠g:=by rw [x];split<;>omega
  rw [p,v,hO,List.getElem?_set_ne av];by_cases N:g<args.length
  . obtain ⟨S,U,-,ae,-⟩:=Nj c.Ef.hS N;obtain ⟨T,W,-,af⟩:=Nq c.Ef.hS N;obtain ⟨D,Q⟩: ∃D,(f s)[h]? =some D:=⟨(f s)[h]'(by split at x<;>omega),ai⟩;have au:dw u (g+2)=some D:=DT (i:=h+2) o (by rw [d,tA,tA];unfold k2;rw [hO,(ahO (z:=((g+2,T,W),D))).2 ⟨by rw [p];exact af,Q⟩];rfl);rw [ae,Q];show some (cj u 2 (c_ (g+2) S U))=_;rw [BN o ab,au];rfl
  . rw [vQ (by rw [qP];omega),vQ (by split at x<;>omega)];rfl
 have X:cj u 3 (cm l m (dk ((cp args).set j (ps args j))))= [.int .i64 5,.int .i64 0,.str l m,.str 0 0,dk e,.V]:=by have:=BM u 2 (k:=5) 0 (l1:=l) (m1:=m) 0 0 al (fW ((cp args).set j (ps args j))) (.inl ⟨rfl,rfl⟩:F .V []);rw [<-v,List.flatMap_nil,fw] at this;exact this
 have t:=BM u 3 (k:=7) 0 (l1:=0) (m1:=0) 0 0 al (.inr ⟨_,rfl⟩:F (.A [cm l m (dk ((cp args).set j (ps args j)))] true) [_]) (.inr ⟨_,rfl⟩:F cM [_]);have Z:f (M (j2 y 2) 4)=rest:=by show f (xL y 2)=_;obtain ⟨aK,aO,aT,aU,aY,aZ,aV,aW,aS,aX,I,-,-⟩:=O.wt.ea;have d:=I.eq;simp only [jn,and_true] at d;obtain ⟨-,-,-,-,rfl,-⟩:=d;rw [bm (BB I.dh 2),<-bm I.dh,R];rfl
 rw [ai9 o ar,Z,fS,rG,X] at t;have t:cj u 4 (A7 l m args j)=_:=t;rw [t] at H|-;refine ⟨P,e.map ah2,by rw [di,an],by rw [hO,ak];rfl,by rw [<-ai2,aj],?_⟩;rw [aiM (fW _) H];have ay:aN [.int .i64 5,.int .i64 0,.str l m,.str 0 0,dk e,.V]:=by obtain ⟨_,_,_,_,_,_,_,_,aJ,_,K,ad,-⟩:=H.ea;have d:=K.eq;simp only [jn,and_true] at d;obtain ⟨-,-,-,-,rfl,-⟩:=d;obtain rfl:=qe (fW _) K.dh;exact ad _ ai
 simp only [bl,a6,fS];rw [aiM (fW _) ay];rfl
end
def aiU {l m c f j g:Nat} (d:T l m) (e:T c f) (n:fe l=fe c) (b:gD l m j=gD c f g):l=c/\m=f/\j=g:=by
 obtain rfl:l=c:=by unfold fe at n;omega
 unfold T at d e;unfold gD at b;simp only [yY,show 2^(8*l)=256^l by rw [vW],show 2^(8*(l+1))=256*256^l by rw [vW,rL,rK]] at b;generalize 256^l=a at*;have o:0<a:=ab;have h: ∀m j:Nat,m+39*a+(48+(j+1))*(256*a)=m+(39+(48+(j+1))*256)*a:=λm j=>by rw [<-Nat.mul_assoc,iK 39,rJ]
 rw [h,h] at b;have i:=congrArg (· %a) b;have k:=congrArg (· /a) b;simp only [Nat.add_mul_mod_self_right,tE d,tE e] at i;simp only [Nat.add_mul_div_right _ _ o,aiJ d,aiJ e] at k;omega
def ait {l m a b:Nat} {t:List aa} (c:eV l m (.str a b::t)=true):l=a/\m=b:=by
 simpa [eV] using c
section
variable {kN jv rop j3 aJ p ahI:Y} (c3:nm kN rop j3) (aie: ∀r∈rop,c6 r) (aiC:lD p rop ahI)
include c3
theorem ai3 {r b:List aa} (a:r∈rop) (q:b∈rop) {l m args ls ms st o w x y} (u:fB r l m args ls ms st) (v:fB b l m o w x y):b=r:=by
 have f:=(rH.1 c3.names).1;rw [List.pairwise_map] at f;obtain ⟨g,s⟩:=jo q;obtain ⟨h,t⟩:=jo a;obtain ⟨i,d⟩:=e6.1 s;obtain ⟨j,e⟩:=e6.1 t;have k:M b 0= .str l m:=by obtain ⟨_,_,_,_,_,c,-⟩:=v.eq;rw [c];rfl
 have n:M r 0= .str l m:=by obtain ⟨_,_,_,_,_,c,-⟩:=u.eq;rw [c];rfl
 rcases vV g h with a|a|a
 . have:=qj.1 f g h i j a;rw [d,e,k,n] at this;exact absurd rfl this
 . subst a;rw [<-d,<-e]
 . have:=qj.1 f h g j i a;rw [d,e,k,n] at this;exact absurd rfl this
include aie
theorem aiL {q:List aa} (e:q∈rop.map il): ∃r∈rop,∃l m args ls ms st,fB r l m args ls ms st/\kN.any (isStr ls ms)=true/\q=il r/\ ∃a t,q= .str l m::a:: .str ls ms::t:=by obtain ⟨r,b,rfl⟩:=cd.1 e;obtain ⟨-,l,m,args,ls,ms,st,a,h,f,g,c,d⟩:=En (aie r b);exact ⟨r,b,l,m,args,ls,ms,st,c,(c3.ops r b _ _ _ _ _ _ c).2.2.2,rfl,_,_,d⟩
theorem aiB {q:List aa} (a:q∈oN rop): ∃r∈rop,∃l m args ls ms st j,fB r l m args ls ms st/\kN.any (isStr ls ms)=true/\q=ko l m args ls ms j:=by obtain ⟨r,c,a⟩:=fC.1 a;obtain ⟨i,-,rfl⟩:=cd.1 a;obtain ⟨l,m,args,ls,ms,st,b⟩:=aie r c;have h:=(c3.ops r c _ _ _ _ _ _ b).2.2.2;have g:=b;obtain ⟨d,k,o,n,ac,rfl,e,-⟩:=g.eq;refine ⟨_,c,l,m,args,ls,ms,st,iR [.str l m,d,.str ls ms,k,.int .i64 n,.int .i64 ac,o] i,b,h,?_⟩;show ko l m (f d) ls ms _=_;rw [bm e]
include aiC
theorem aj2 {l m:Nat} {x y:List aa} (b:x∈eZ rop) (a:y∈eZ rop) (f:eV l m x=true) (g:eV l m y=true):x=y:=by
 have B: ∀ {x y:List aa},x∈rop.map il->y∈oN rop->eV l m x=true->eV l m y=true->False:=λ{x y} b a f g=>by obtain ⟨t,h,w,A,u,z,C,E,c,-,-,G,J,rfl⟩:=aiL c3 aie b;obtain ⟨D,j,d,i,n,r,s,F,k,e,-,rfl⟩:=aiB c3 aie a;have v:=aiC.op _ a;obtain ⟨rfl,rfl⟩:=ait f;obtain ⟨rfl,rfl⟩:=ait g;have I:rop.any (eV (fe d) (gD d i k))=true:=kB.2 ⟨t,h,by obtain ⟨_,_,_,_,_,H,-⟩:=c.eq;rw [H];simp [eV]⟩;rw [show (jZ (ko d i n r s k))=(fe d,gD d i k) from rfl,I] at v;cases v
 rcases cr.1 b with b|b<;>rcases cr.1 a with a|a
 . obtain ⟨t,h,w,A,u,z,C,E,c,-,o,G,J,rfl⟩:=aiL c3 aie b;obtain ⟨D,j,d,i,n,r,s,F,e,-,q,K,M,rfl⟩:=aiL c3 aie a;obtain ⟨rfl,rfl⟩:=ait f;obtain ⟨rfl,rfl⟩:=ait g;obtain rfl:=ai3 c3 h j c e;rw [o,q]
 . exact (B b a f g).elim
 . exact (B a b g f).elim
 . obtain ⟨t,h,w,A,u,z,C,E,k,c,-,rfl⟩:=aiB c3 aie b;obtain ⟨D,j,d,i,n,r,s,F,L,e,-,rfl⟩:=aiB c3 aie a;obtain ⟨rfl,rfl⟩:=ait f;obtain ⟨o,q⟩:=ait g;obtain ⟨rfl,rfl,rfl⟩:=aiU c.c5 e.c5 o q;obtain rfl:=ai3 c3 h j c e;obtain ⟨-,-,rfl,rfl,rfl,-⟩:=c.uniq e;rfl
theorem aj1 {l m:Nat} (h:j0 (eZ rop) l m=true):(eZ rop).find? (eV l m)=some (iQ (eZ rop) l m)/\ ∃a b,(∃x y t,iQ (eZ rop) l m=x::y:: .str a b::t)/\T a b/\a<4611686018427387904/\kN.any (isStr a b)=true:=by
 unfold j0 at h;obtain ⟨k,j⟩:=Da.1 h;have o:iQ (eZ rop) l m=k:=by unfold iQ;rw [j];rfl
 obtain ⟨c,i⟩:=DP (eZ rop) none (λ_ e=>e) (λ_ e=>by cases e) j;rw [o];constructor
 . cases f:(eZ rop).find? (eV l m) with
   |none=>exact absurd i (by simpa using List.find?_eq_none.1 f k c)
   |some B=>rw [aj2 c3 aie aiC (yS f) c (List.find?_some f) i]
 . rcases cr.1 c with c|c
   . obtain ⟨w,q,r,u,n,s,v,z,d,g,-,a,t,rfl⟩:=aiL c3 aie c;exact ⟨_,_,⟨_,_,_,rfl⟩,d.pw,d.s2,g⟩
   . obtain ⟨w,q,r,u,n,s,v,z,A,d,g,rfl⟩:=aiB c3 aie c;exact ⟨_,_,⟨_,_,_,rfl⟩,d.pw,d.s2,g⟩
theorem ajS {k v:Int} {l1 m1 b c:Nat} {ky i:List ak1} {y a:Int} (h:(ah5 (.n k v l1 m1 b c ky i) y a).isSome=true) (j:ah6 kN jv (eZ rop) (j3.map ct) (.n k v l1 m1 b c ky i)=true):
  (k=1\/k=2\/k=3\/k=4\/k=7\/k=8\/(k=5/\j0 (eZ rop) l1 m1=true/\(eZ rop).find? (eV l1 m1)=some (iQ (eZ rop) l1 m1)))/\
  (T (zU kN (eZ rop) (j3.map ct) k l1 m1 b c).1 (zU kN (eZ rop) (j3.map ct) k l1 m1 b c).2/\(zU kN (eZ rop) (j3.map ct) k l1 m1 b c).1<4611686018427387904)/\my kN (zU kN (eZ rop) (j3.map ct) k l1 m1 b c).1 (zU kN (eZ rop) (j3.map ct) k l1 m1 b c).2=true:=by
 rw [ah5] at h;split at h
 rotate_left
 . cases h
 rename_i C;have m:=C.2.2;have e: ∀d:Nat×Nat,d∈ [(3,7630409),(4,1819242306),(4,1954047316),(2,25673),(4,1953720652),(3,7364941)]->(T d.1 d.2/\d.1<4611686018427387904)/\my kN d.1 d.2=true:=λd E=>by have B: ∀g∈ [(3,7630409),(4,1819242306),(4,1954047316),(2,25673),(4,1953720652),(3,7364941)],g.2<256^g.1/\g.1<4611686018427387904/\eD.any (isStr g.1 g.2)=true:=al;obtain ⟨a,f,x⟩:=B d E;exact ⟨⟨a,f⟩,by unfold my;rw [aiH,x];rfl⟩
 unfold ah3 at m;by_cases w:k=5
 . subst w;rw [ah6,if_pos rfl,aiT] at j;simp only [br] at j;have l:=j.2.2.1;obtain ⟨D,a,f,⟨J,K,I,z⟩,F,G,H⟩:=aj1 c3 aie aiC l;have A:zU kN (eZ rop) (j3.map ct) 5 l1 m1 b c=(a,f):=by show (match mr (eZ rop) (j3.map ct) l1 m1 with|_::_:: .str a f::_=>(a,f)|_=>(0,0))=_;unfold mr;rw [if_pos l,z]
   rw [A];exact ⟨by simp [l,D],⟨F,G⟩,by unfold my;rw [aiH,H,Bool.or_true]⟩
 . by_cases o:k=1
   . subst o;exact ⟨ai,e (3,7630409) ai⟩
   by_cases q:k=2
   . subst q;exact ⟨ai,e (4,1819242306) ai⟩
   by_cases r:k=3
   . subst r;exact ⟨ai,e (4,1954047316) ai⟩
   by_cases s:k=4
   . subst s;exact ⟨ai,e (2,25673) ai⟩
   by_cases t:k=7
   . subst t;exact ⟨ai,e (4,1953720652) ai⟩
   by_cases u:k=8
   . subst u;exact ⟨ai,e (3,7364941) ai⟩
   rw [if_neg o,if_neg q,if_neg r,if_neg s,if_neg w,if_neg t,if_neg u] at m;cases m
end
def ajQ {l:List ak1}: ∀ {d a:Int},(ah7 l d a).isSome=true-> ∀t∈l,∃f,(ah5 t d f).isSome=true:=by
 induction l with
 |nil=>exact λ_ _ b=>by cases b
 | cons t l g=>
   intro d a b h e;rw [ah7] at b
   cases c:ah5 t d a with
   |none=>rw [c] at b;cases b
   | some i=>
     rw [c] at b;rcases b2.1 e with rfl|e
     . exact ⟨a,by rw [c];rfl⟩
     . exact g b h e
def ajR {k v:Int} {l1 m1 c e:Nat} {ky i:List ak1} {d a:Int} (b:(ah5 (.n k v l1 m1 c e ky i) d a).isSome=true):ah3 k v l1 m1 c e ky.length=true/\ ∀t∈ky,∃f,(ah5 t (d+1) f).isSome=true:=by
 rw [ah5] at b;split at b
 . rename_i g;exact ⟨g.2.2,ajQ b⟩
 . cases b
def ajq {r:List aa} (j:aN r) {k v:Int} {l1 m1 d f:Nat} {ty tz:List ak1} (e:ah2 r= .n k v l1 m1 d f ty tz): ∃y z ky i,kX r k v l1 m1 d f y z ky i/\(∀x∈ky,aN x)/\(∀x∈i,aN x)/\ky.map ah2=ty/\i.map ah2=tz:=by
 obtain ⟨l,m,_,_,_,_,y,z,ky,i,a,b,c⟩:=j.ea;rw [ah9 a b c] at e;simp only [ak1.n.injEq] at e;obtain ⟨rfl,rfl,rfl,rfl,rfl,rfl,g,h⟩:=e;exact ⟨y,z,ky,i,a,b,c,g,h⟩
def erase_eq {α:Type} {l k:List α} {j:Nat} (e:k[j]? =l[j]?) (f:k.length=l.length) (c:k.eraseIdx j=l.eraseIdx j):k=l:=by
 refine CT λa=> ?_;by_cases d:j=a
 . subst d;exact e
 . have:=congrArg (·[if a<j then a else a-1]?) c;simp only [aiI] at this;by_cases b:a<j
   . simpa [b] using this
   . simp only [b,if_false] at this;rw [if_neg ab,if_neg ab,show a-1+1=a by omega] at this;exact this
end Go.aj
