/- A part of the proof. -/
import Derived.Test.YtiodgpibgiodcaaGreatDoorP00
import Derived.Test.YtiodgpibgiodcaaGreatDoorP07
import Derived.Test.YtiodgpibgiodcaaGreatDoorP11
import Derived.Test.YtiodgpibgiodcaaGreatDoorP13
set_option linter.all false
set_option maxHeartbeats 4000000
namespace Go.aj
open Go Go.Proofs.Tryz
set_option maxRecDepth 100000
theorem abn:d G R 289 (λ_:Nat×Nat=>True) (λp=> [.str p.1 p.2,.int .u8 39]) (λp=>hp 39 p.1 p.2):=by refine d.cL (p:=r0) rfl rfl (λ_ _=>rfl) (λp _=>by unfold hp;split<;>rfl) λp _ a=> ?_;show (match mK 39 p.1 p.2 0 with|some b=>_|none=>_)=_;unfold hp;cases mK 39 p.1 p.2 0<;>simp<;>rfl
def abm:d G R 227 (λ_:Nat×Nat=>True) (λp=> [.str p.1 p.2,.int .u8 39]) (λp=>hp 39 p.1 p.2):=by
 obtain ⟨j,g⟩:=abn;refine d.run (m:=6) rfl rfl rfl rfl (λ_=>rfl) (λ_ _=>rfl) rfl rfl j λk l h i f _ c b=> ?_;have a:=λn=>g k l h i f trivial c n b;simp only at a;simp only [go_sem,a];unfold hp;split<;>exact e.mk rfl b (U.refl _)
def abo:d G R 153 (λ_:Nat×Nat=>True) (λp=> [.str p.1 p.2,.str 1 39]) (λp=>hp 39 p.1 p.2):=by
 obtain ⟨u,o⟩:=abm;refine d.run (m:=141) rfl rfl rfl rfl (λ_=>rfl) (λ_ _=>rfl) rfl rfl u λv w r s b _ i g=> ?_;have c:=λx=>o v w r s b trivial i x g;simp only at c;have j:(((1:Nat):Int)==0)=false:=rfl;have k:(((1:Nat):Int)==1)=true:=rfl;have l:en 39 0=39:=rfl;have n:((39:Nat):Int)=39:=rfl;obtain ⟨t,h⟩:=CB 39 b.1 b.2;have f:=h;simp only [h] at c|-;simp only [go_sem,j];refine e.aE ?_ ?_<;>intro a<;>simp only [go_sem,a,c,k,l,n]
 . have:t=0:=by simp only [br,beq_iff_eq] at a;rw [<-a.1,<-a.2] at f;have q:hp 39 1 39= .int .i64 0:=aq;rw [q] at f;cases f;rfl
   rw [this];exact e.mk rfl g (U.refl _)
 . exact e.mk rfl g (U.refl _)
def vq (l m:Nat):Bool:=(mK 39 l m 0).isSome
def abk:d G R 43 (λ_:Nat×Nat=>True) (λp=> [.str p.1 p.2,.str 1 39]) (λp=> .bool (vq p.1 p.2)):=by
 obtain ⟨u,q⟩:=abo;have w:d G R 76 (λ_:Nat×Nat=>True) (λp=> [.str p.1 p.2,.str 1 39]) (λp=>hp 39 p.1 p.2):=by refine d.run (m:=6) rfl rfl rfl rfl (λ_=>rfl) (λ_ _=>rfl) rfl rfl u λl n j k a _ h f=> ?_;have c:=λo=>q l n j k a trivial h o f;obtain ⟨g,i⟩:=CB 39 a.1 a.2;simp only [i] at c|-;simp only [go_sem,c];exact e.mk rfl f (U.refl _)
 obtain ⟨v,r⟩:=w;refine d.run (m:=7) rfl rfl rfl rfl (λ_=>rfl) (λ_ _=>rfl) rfl rfl v λl n j k a _ h f=> ?_;have c:=λo=>r l n j k a trivial h o f;have s: ∃g:Int,hp 39 a.1 a.2= .int .i64 g/\decide (g>=0)=vq a.1 a.2:=by
  unfold hp vq
  cases mK 39 a.1 a.2 0 with
  |none=>exact ⟨_,rfl,rfl⟩
  |some g=>exact ⟨_,rfl,ai⟩
 obtain ⟨g,i,t⟩:=s;simp only [i] at c|-;simp only [go_sem,c];exact e.b f (U.refl _) t.symm
def vH (r:List aa):Bool:=match r with
 | .str a b::_=>decide ((f (M r 6)).length>0)&&vq a b
 |_=>false
def abv:bo λad n=> ∀r H,c6 r->Tidy H-> ∀tm,cx G (X G R ad n) (.fn (.func 42) [] []) [.agg r] H tm= .ok (.bool (vH r)) tm H:=by
 obtain ⟨s,j⟩:=abk;refine ⟨s+1,λad n z A r H q e tm=> ?_⟩;obtain ⟨n,rfl⟩:=bY n;obtain ⟨b,c,y,t,u,x,l⟩:=q;obtain ⟨h,v,g,w,ac,rfl,k,a,B,o,-⟩:=l.eq;have d:=λtm=>j ad n ab ab (b,c) trivial H tm e;simp only at d;simp only [eg,a6,fw];refine fa (aL.at (m:=11) (rs:= [.tmp 2]) rfl rfl rfl rfl rfl rfl rfl rfl ?_) tm;have p:vH [.str b c,h,.str t u,v,.int .i64 w,.int .i64 ac,g]=(decide ((x.length:Int)>0)&&vq b c):=by show (decide ((f g).length>0)&&_)=_;rw [bm a];congr 1;simp
 rw [p];simp only [go_sem,k.J,o.J,a.J,a.O,a.len];refine ak.aE ?_ ?_<;>intro i<;>simp only [go_sem,i,d]
 all_goals exact ak.mk ai rfl e (U.refl _)
def aby {f ad n:Nat} (i:f=46\/f=47) {r q:List aa} {l m:Nat} (p:r.length=7) (c:r.all J=true) (k: ∃t,q= .str l m::t) (s: ∃a b t,r= .str a b::t) {id g d:Nat} {H:af} (u:Tidy H) (j:H.get id=some (.cells g d 0 q)) (h:d<=g) (o:q.length=7) (tm:List aa):
    cx G (X G R ad (n+1)) (.fn (.func f) [] [.ptr id g 0 7]) [.agg r] H tm= .ok (.bool (eV l m r)) tm H:=by
 obtain ⟨t,rfl⟩:=k;obtain ⟨a,b,B,rfl⟩:=s
 match B,p,c with
 | [C,D,E,F,I,K],_,c=>
 match t,o with
 | [L,M,N,O,P,Q],_=>
 simp only [aO,br] at c;obtain ⟨-,v,w,x,y,z,A,-⟩:=c;simp only [eg,a6,bl];have e:(a==l&&b==m)=(l==a&&m==b):=by rw [BEq.comm (a:=a),BEq.comm (a:=b)]
 rcases i with rfl|rfl
 all_goals
  refine fa (aL.at (m:=7) (rs:= [.tmp 3]) rfl rfl rfl rfl rfl rfl rfl rfl ?_) tm;simp only [go_sem,v,w,x,y,z,A,j,h,e];exact ak.mk rfl rfl u (U.refl _)
def lI.qE {r} (c:lI r):r.length=7/\(∃a b t,r= .str a b::t)/\r.all J=true:=by
 obtain ⟨j,k,i,q,d,a,b,rfl,⟨u,v,rfl,-⟩,⟨n,g,-⟩,⟨m,f,-⟩,⟨o,h,-⟩,⟨l,e,-⟩,⟨a,rfl⟩,⟨b,rfl⟩⟩:=c;exact ⟨rfl,ai,by simp only [aO,g.J,f.J,h.J,e.J];rfl⟩
def c6.qE {r} (c:c6 r):r.length=7/\(∃a b t,r= .str a b::t)/\r.all J=true:=by
 have g:=c.ok;obtain ⟨h,j,f,i,k,o,e⟩:=c;obtain ⟨a,l,n,m,ac,rfl,-⟩:=e.eq
 grind
def xg (r:List aa):Prop:=(r.length=7/\ ∀a∈r,J a=true/\D 20 a=true)/\ ∃b c e,r= .str b c::e
def Zu {p:Y} {b c:Bool} {rop:Y}: ∀r∈kO p b c rop,xg r:=λr a=>by
 obtain ⟨f,-,a⟩:=fC.1 a;obtain ⟨e,-,a⟩:=fC.1 a;unfold j4 at a;split at a
 . rcases cr.1 a with a|a
   . cases b with
     |false=>cases a
     |true=>rw [bs.1 a];exact ⟨Is ..,_,_,_,rfl⟩
   . cases c with
     |false=>cases a
     |true=>rw [bs.1 a];exact ⟨GN ..,_,_,_,rfl⟩
 grind
def RW {rop:Y} (c: ∀r∈rop,c6 r): ∀r∈oN rop,xg r:=λr a=>by
 obtain ⟨f,e,a⟩:=fC.1 a;obtain ⟨i,-,rfl⟩:=cd.1 a;obtain ⟨j,l,h,k,m,t,b⟩:=c f e;obtain ⟨g,n,q,o,ac,rfl,-⟩:=b.eq;exact ⟨HP ..,_,_,_,rfl⟩
def il (r:List aa):List aa:=putAt 6 [.V] (ct r)
def eZ (rop:Y):Y:=rop.map il++oN rop
def jZ (r:List aa):Nat×Nat:=match r with
 | .str a b::_=>(a,b)
 |_=>(0,0)
structure lD (p rop ahI:Y):Prop where
  aR: ∀r∈rop,vH r=false
  n3: ∀r∈kO p true true rop,(jZ r).1<=40
  ag6: ∀r∈kO p true true rop,ahI.any (eV (jZ r).1 (jZ r).2)=false
  op: ∀r∈oN rop,rop.any (eV (jZ r).1 (jZ r).2)=false
def xe (p rop ahI:Y) (kN jv j3 aJ:Y) (v:aa):Prop:= ∃k e a c b f h l i j m n o g,v= .av [.agg [k,e,a,c,b,f,h,l,i,j,m,n,o],.int .i64 g]/\
 (∀q∈ [k,e,a,c,b,f,h,l,i,j,m,n,o],J q=true/\D 18 q=true)/\(g=0->lD p rop ahI/\F e kN/\F a jv/\F c (eZ rop)/\F b (j3.map ct)/\F f aJ)
def P.uniq {el k j h:Nat} {e H:af} {v:aa} {rows aQ:Y} (a:P el k e H v rows) (g:P j h e H v aQ) (r:0<k) (t:0<h):rows=aQ:=by
 by_cases f:rows= []
 . subst f;rcases a.ex with ⟨rfl,-⟩|⟨a,-⟩
   . exact (g.Kk rfl).2.symm
   grind
 . obtain ⟨id,q,d,rfl,-,l,-⟩:=a.ref f;have m:aQ≠ []:=λb=>by
    subst b;rcases g.ex with ⟨a,-⟩|⟨a,-⟩
    all_goals grind
   obtain ⟨u,o,n,b,-,c,-⟩:=g.ref m;simp only [aa.ref.injEq] at b;obtain ⟨rfl,rfl,-,rfl,i,-⟩:=b;rw [l] at c;simp only [N,Obj.cells.injEq] at c;rw [<-k3 k rows a.rw.len,<-k3 k aQ g.rw.len,i,c.2.2.2]
def Kw {r} (n:c6 r):(ct r).length=7/\ ∃l m args ls ms st a p s' i j,fB r l m args ls ms st/\ct r= [.str l m,a,.str ls ms,p,.int .i64 i,.int .i64 j,s']/\F a args/\F s' st/\ ∃b,F p b/\b.length<1048560/\ ∀q∈b,gd q:=by
 obtain ⟨l,m,args,ls,ms,st,e⟩:=n;obtain ⟨a,p,s',c,ac,rfl,o,h,b,g,t,u⟩:=e.eq;have k:ct [.str l m,a,.str ls ms,p,.int .i64 c,.int .i64 ac,s']= [.str l m,dk (f a),.str ls ms,gB p (f p),.int .i64 c,.int .i64 ac,gB s' (f s')]:=rfl;refine ⟨rfl,l,m,args,ls,ms,st,_,_,_,c,ac,e,k,?_,?_,b,?_,t,u⟩
 . rw [bm o];exact fW _
 . rw [bm h];exact xH h
 . rw [bm g];exact xH g
def rU {v:aa} (a:J v=true):v.cells= [v]:=by cases v<;>first|rfl|cases a
def xg.cs {r} (i:xg r): ∃l m a b c e f g,r= [.str l m,a,b,c,e,f,g]/\(J a=true/\J b=true/\J c=true/\J e=true/\J f=true/\J g=true)/\a.cells= [a]/\b.cells= [b]/\c.cells= [c]/\e.cells= [e]/\f.cells= [f]/\g.cells= [g]:=by
 obtain ⟨⟨j,k⟩,l,m,n,rfl⟩:=i
 match n,j with
 | [a,b,c,e,f,g],_=>
   have h:=λo c3=>(k o c3).1;exact ⟨l,m,a,b,c,e,f,g,rfl,ah,rU ah,rU ah,rU ah,rU (h _ ai),rU (h _ ai),rU (h _ ai)⟩
def Z0 {α:Type} (l1 a:List α) (j:Nat) (x:α) (c:l1[j]? =some x) (f:l1.length=a.length):(l1.take j++a.drop j).set j x=l1.take (j+1)++a.drop (j+1):=by
 have e:j<l1.length:=ah;have b:(l1.take j).length=j:=ah;rw [List.set_append_right _ _ ab,b,Nat.sub_self,CQ (l:=a) ab,List.set_cons_zero,fg,c];simp
def Sg {α:Type} (l1 a:List α) (j:Nat) (b:j<l1.length):(l1.take j++a.drop j)[j]? =a[j]? :=by
 grind
section
variable {d s:List aa} {kN jv rop j3 aJ ahJ p aU ahI:Y} (aX:fz d s kN jv rop j3 aJ ahJ p aU ahI) (c3:nm kN rop j3)
include aX c3
theorem UT (eM:kN.length+jv.length+rop.length+j3.length+aJ.length<800000) (eS: ∀r∈j3,nk r) {N:Nat} (hT:bL (eE ahJ p aU ahI) N) (hN:N<50000):
  dt 26 [.agg d] (xe p rop ahI kN jv j3 aJ) bQ:=by
 have bd:=aX.bT.op;obtain ⟨da,bW⟩:=Vg aX eM (λr u az aN fz gp gw gC eX=>by have:=c3.st u eX;omega) eS hT hN;obtain ⟨db,bG⟩:=Vo aX c3;obtain ⟨dO,dI⟩:=Jx aX c3;obtain ⟨dc,eL⟩:=abv;have fI:=HQ aX c3;have fS:=LC aX c3 true true;have fL:=c3.len;have cm:=aX.bh;have gn:ahI.length<1048560:=by have bW:=aX.iN;have:=D9 ahI;omega
 have eR:=aX.eq;obtain ⟨gx,f,g,e9,dd,cq,gD,gF,rfl,⟨dk,ds,rfl,gI,gl⟩,e4,e6,⟨dj,dr,rfl,gG,gj⟩,e5,b1,⟨dn,du,rfl,ed,gq⟩,⟨dp,dv,rfl,gL,gu⟩⟩:=eR;obtain ⟨df,cP,b4,cX,dh,rfl,e7,e3,bg,c7,e8⟩:=aX.bT.eq;simp only [bl,a6] at bW bG dI|-;refine aL.run (m:=113) rfl rfl rfl rfl rfl rfl rfl rfl (da+db+dO+dc+1010000) λbj aC dN fP o bI=> ?_;obtain ⟨aC,rfl⟩: ∃fb,aC=fb+1+2:=⟨aC-3,ab⟩;obtain ⟨_,b8,eN,eG⟩:=bW bj (aC+1+2) ab ab o bI;obtain ⟨_,aA,af,aD,T,Q,I,bm,_,bk,aB,_,_,dX,dY,rfl,⟨bw,bB,rfl,gJ,gm⟩,⟨bu,bA,rfl,gH,gk⟩,⟨bx,bC,rfl,gK,gr⟩,⟨bz,bD,rfl,gM,gv⟩,K,cx,b6,cy,cz,ck,eY,eU,bY,fD,fH,ay⟩:=eN.eq;obtain ⟨gA,c9,fX,fY⟩:=id eY;obtain ⟨gz,c8,fV,fW⟩:=id eU;obtain ⟨cY,aG,h⟩:=bG bj (aC+1+2) ab ab b8 K.tidy;obtain ⟨cr,X,v,eH⟩:=dI bj (aC+1+2) ab ab true true b8 K.tidy;have bn:=K.ok;have bo:=cx.ok;have bp:=b6.ok;have bq:=cy.ok;have br:=cz.ok;have fc:=ck.ok;have fe:=bY.ok;have dy:=b6.pM v (aT _);have fA:=bY.pM v (aT _);have bc:=v.up;replace v:=v.mono K.up;replace K:=K.at v.tidy bc;replace cx:=cx.at v.tidy bc;replace b6:=b6.at v.tidy bc;replace cy:=cy.at v.tidy bc;replace cz:=cz.at v.tidy bc;replace ck:=ck.at v.tidy bc;replace bY:=bY.at v.tidy bc;have c0:=RW bd;have cn:=Zu (p:=p) (b:=true) (c:=true) (rop:=rop);have c5:=λr u=>(cn r u).1.1;generalize fE:oN rop=aF at*;generalize fG:kO p true true rop=B at*;have bV: ∀b9:Int,b9≠0-> ∀j,U o j->ak (xe p rop ahI kN jv j3 aJ) bQ o (.ret (.av [.agg [.str 0 0,.V,.V,.V,.V,.V,.V,.V,.str 0 0,.V,.V,.str 0 0,.str 0 0],.int .i64 b9]) j):=λb9 eP j e1=>ak.mk ⟨_,_,_,_,_,_,_,_,_,_,_,_,_,b9,rfl,(λbO bf=>by simp only [b2,dG,or_false] at bf;rcases bf with rfl|rfl|rfl|rfl|rfl|rfl|rfl|rfl|rfl|rfl|rfl|rfl|rfl<;>exact ⟨rfl,rfl⟩),λe=>absurd e eP⟩ rfl bI e1;refine ak.bM (λa j=>o=j/\aM 114 [(1,.W 0 [.str dk ds,df,cP,b4,cX,dh,f,g,.str dj dr,dd,cq,.str dn du,.str dp dv]),(2,.W 0 [.str 0 0,.V,.V,.V,.V,.V,.V,.V,.str 0 0,.V,.V,.str 0 0,.str 0 0]),(3,.int .i64 0),(4,.av [])] a) ?_ ?_
 . simp -implicitDefEqProofs only [go_sem,e7.J,e3.J,bg.J,c7.J,e8.J,e4.J,e6.J,e5.J,b1.J];exact an.mk ⟨rfl,w0⟩
 rintro a _ ⟨rfl,hF⟩;refine ak.bM (λa j=>b8=j/\aM 114 [(1,.W 0 [.str dk ds,df,cP,b4,cX,dh,f,g,.str dj dr,dd,cq,.str dn du,.str dp dv]),(2,.W 0 [.str 0 0,.V,.V,.V,.V,.V,.V,.V,.str 0 0,.V,.V,.str 0 0,.str 0 0]),(3,.int .i64 0),(4,.W 0 [.str bw bB,aA,af,aD,T,Q,I,bm,.str bu bA,bk,aB,.str bx bC,.str bz bD])] a) ?_ ?_
 . simp -implicitDefEqProofs only [go_sem,hF,eG,bn,bo,bp,bq,br,c9.J,c8.J,fc,fe];exact an.mk ⟨rfl,dm⟩
 clear hF;rintro a _ ⟨rfl,hF⟩;refine ak.bF hF (λz a j=>b8=j/\aM 114 [(5,cY)] a/\z a) ?_ ?_
 . simp -implicitDefEqProofs only [go_sem,hF,h,aG.O];exact an.mk ⟨rfl,dm⟩
 clear hF;rintro a _ ⟨rfl,hF⟩;refine ak.bM (λa j=>X=j/\aM 114 [(1,.W 0 [.str dk ds,df,cP,b4,cX,dh,f,g,.str dj dr,dd,cq,.str dn du,.str dp dv]),(2,.W 0 [.str 0 0,.V,.V,.V,.V,.V,.V,.V,.str 0 0,.V,.V,.str 0 0,.str 0 0]),(3,.int .i64 0),(4,.W 0 [.str bw bB,aA,af,aD,T,Q,I,bm,.str bu bA,bk,aB,.str bx bC,.str bz bD]),(5,cY),(6,cr)] a) ?_ ?_
 . simp -implicitDefEqProofs only [go_sem,hF,eH,v.O];exact an.mk ⟨rfl,dm⟩
 clear hF;rintro a _ ⟨rfl,hF⟩;refine ak.bF hF (λz a j=>(X=j/\ahI.length+B.length<=300/\rop.length+j3.length+aF.length<=200)/\z a) ?_ ?_
 . have aY:IntKind.i64.wrap ((rop.length:Int)+(j3.length:Int))=(rop.length:Int)+(j3.length:Int):=wrap64 _ ab ab;have bt:IntKind.i64.wrap ((rop.length:Int)+(j3.length:Int)+(aF.length:Int))=(rop.length:Int)+(j3.length:Int)+(aF.length:Int):=wrap64 _ ab ab;have bK:IntKind.i64.wrap ((ahI.length:Int)+(B.length:Int))=(ahI.length:Int)+(B.length:Int):=wrap64 _ ab ab;simp -implicitDefEqProofs only [go_sem,hF,bg.O,bg.len,c7.O,c7.len,aG.O,aG.len,aY,bt]
   iterate 2 all_goals try (refine an.aE ?_ ?_<;>intro Z<;>simp -implicitDefEqProofs only [go_sem,hF,Z,b1.O,b1.len,v.O,v.len,bK])
   all_goals first
    |exact an.mk ⟨ah,dm⟩
    |exact an.stop rfl (by simp -implicitDefEqProofs only [go_sem,hF];exact bV 3 al _ K.up)
 clear hF;rintro a _ ⟨⟨rfl,fM,fN⟩,hF⟩;refine ak.bF hF (λz a j=>X=j/\aM 114 [(7,.fn (.func 42) [] [])] a/\z a) ?_ ?_
 . simp -implicitDefEqProofs only [go_sem];exact an.mk ⟨rfl,dm⟩
 clear hF;rintro a _ ⟨rfl,hF⟩;refine ak.kp [1,2,3,4,5,6] (λz a j=>(X=j/\rop.any vH=false)/\z a) ?_ ?_
 . have bU:=Dt b4 (.fn (.func 42) [] []) rop vH bg (λr u=>(bd r u).len) ab rfl (λ_=>rfl) bj (aC+1) ab X K.tidy λr u a=>eL bj (aC+1) ab ab r X (bd r u) K.tidy a;simp -implicitDefEqProofs only [go_sem,hF,bg.O,bU];refine an.aE ?_ ?_<;>intro Z<;>simp -implicitDefEqProofs only [go_sem,hF,Z]
   . exact an.stop rfl (by simp -implicitDefEqProofs only [go_sem,hF];exact bV 3 al _ K.up)
   . exact an.mk ⟨⟨rfl,Z⟩,dm⟩
 clear hF;rintro a _ ⟨⟨rfl,fK⟩,hF⟩;refine ak.bF hF (λz a j=>(X=j/\ ∀r∈B,(jZ r).1<=40)/\z a) ?_ ?_
 . simp -implicitDefEqProofs only [go_sem,hF,v.O,v.len];generalize cZ:a1 _ _ _ _ _ _ _ _ _ _=a8;revert a8;refine dA [1,2,3,4,5,6,50] (λl=> ∀r∈B.take l,(jZ r).1<=40) B.length ai ?_ ?_
   . clear hF;rintro l s a c1 aR hF;obtain ⟨r,ae⟩: ∃r,B[l]? =some r:=⟨B[l],ai⟩;obtain ⟨az,aN,ag,ao,Y,ar,aw,ax,rfl,⟨bn,bo,bp,bq,br,b3⟩,dP,dQ,dS,dT,dU,dV⟩:=(cn r (aV ae)).cs;obtain ⟨cp,bZ,c2,c4,-⟩:=v.cw.at c5 ae;simp -implicitDefEqProofs only [go_sem,hF,v.O,bZ,c2,CI bZ,c4,bn,bo,bp,bq,br,b3];refine au.aE ?_ ?_<;>intro Z<;>try simp -implicitDefEqProofs only [go_sem,hF,Z]
     . exact au.stop rfl (by simp -implicitDefEqProofs only [go_sem];exact an.stop rfl (by simp -implicitDefEqProofs only [go_sem,hF];exact bV 3 al _ K.up))
     . refine au.next () rfl (λcp aS=> ?_) dm;rcases tT ae aS with aS|rfl
       . grind
       . have: ¬((az:Int)>40):=ah;show az<=40;omega
   . rintro s a aR hF;rw [bX] at aR;simp -implicitDefEqProofs only [go_sem];exact an.mk ah
 clear hF;rintro a _ ⟨⟨rfl,fQ⟩,hF⟩;refine ak.bF hF (λz a j=>(Tidy j/\U X j/\ ∀r∈B,ahI.any (eV (jZ r).1 (jZ r).2)=false)/\z a) ?_ ?_
 . simp -implicitDefEqProofs only [go_sem,hF,v.O,v.len];generalize cZ:a1 _ _ _ _ _ _ _ _ _ _=a8;revert a8;refine cv [1,2,3,4,5,6,62] (λ_=> []) (λs=>s) (λl s=>Tidy s/\U X s/\ ∀r∈B.take l,ahI.any (eV (jZ r).1 (jZ r).2)=false) B.length X ⟨K.tidy,U.refl _,ai⟩ ?_ ?_
   . clear hF;rintro l s a c1 ⟨aK,aH,aR⟩ hF;obtain ⟨r,ae⟩: ∃r,B[l]? =some r:=⟨B[l],ai⟩;have b0:=cn r (aV ae);obtain ⟨az,aN,ag,ao,Y,ar,aw,ax,rfl,⟨bn,bo,bp,bq,br,b3⟩,dP,dQ,dS,dT,dU,dV⟩:=b0.cs;have H:Tidy (s.push (.cells (q 64) (q 64) 0 [.str az aN,ag,ao,Y,ar,aw,ax])):=aK.push (ba.2 λy c3=>fR _ 20 20 y al (b0.1.2 y c3).2);have bU:=Us cq (.fn (.func 46) [] [.ptr s.n (q 64) 0 7]) ahI (eV az aN) b1 (λr u=>(lI.qE (cm r u)).1) ab rfl (λ_=>rfl) bj (aC+1) ab _ H λr u a=>aby (.inl rfl) (lI.qE (cm r u)).1 (lI.qE (cm r u)).2.2 ⟨_,rfl⟩ (lI.qE (cm r u)).2.1 H (dL _ _) (aT _) rfl a;have L:=aH.push (.cells (q 64) (q 64) 0 [.str az aN,ag,ao,Y,ar,aw,ax]);obtain ⟨cp,bZ,c2,c4,-⟩:=(v.at aK aH).cw.at c5 ae;simp -implicitDefEqProofs only [go_sem,hF,v.O,bZ,c2,CI bZ,c4,bn,bo,bp,bq,br,b3,b1.O,bU];refine au.aE ?_ ?_<;>intro Z<;>try simp -implicitDefEqProofs only [go_sem,hF,Z]
     . exact au.stop rfl (by simp -implicitDefEqProofs only [go_sem];exact an.stop rfl (by simp -implicitDefEqProofs only [go_sem,hF];exact bV 14 al _ (K.up.trans L)))
     . refine au.next _ rfl ⟨H,L,λcp aS=> ?_⟩ dm;rcases tT ae aS with aS|rfl
       . grind
       . exact Z
   . rintro s a ⟨aK,aH,aR⟩ hF;rw [bX] at aR;simp -implicitDefEqProofs only [go_sem];exact an.mk ah
 clear hF;rintro a ef ⟨⟨aK,aH,fU⟩,hF⟩;refine ak.bF hF (λz a j=>(Tidy j/\U X j/\ ∀r∈aF,rop.any (eV (jZ r).1 (jZ r).2)=false)/\z a) ?_ ?_
 . simp -implicitDefEqProofs only [go_sem,hF,aG.O,aG.len];generalize cZ:a1 _ _ _ _ _ _ _ _ _ _=a8;revert a8;refine cv [1,2,3,4,5,6,74] (λ_=> []) (λs=>s) (λl s=>Tidy s/\U X s/\ ∀r∈aF.take l,rop.any (eV (jZ r).1 (jZ r).2)=false) aF.length ef ⟨aK,aH,ai⟩ ?_ ?_
   . clear hF;rintro l s a c1 ⟨aK,aH,aR⟩ hF;obtain ⟨r,ae⟩: ∃r,aF[l]? =some r:=⟨aF[l],ai⟩;have b0:=c0 r (aV ae);obtain ⟨az,aN,ag,ao,Y,ar,aw,ax,rfl,⟨bn,bo,bp,bq,br,b3⟩,dP,dQ,dS,dT,dU,dV⟩:=b0.cs;have H:Tidy (s.push (.cells (q 52) (q 52) 0 [.str az aN,ag,ao,Y,ar,aw,ax])):=aK.push (ba.2 λy c3=>fR _ 20 20 y al (b0.1.2 y c3).2);have bU:=Dt b4 (.fn (.func 47) [] [.ptr s.n (q 52) 0 7]) rop (eV az aN) bg (λr u=>(bd r u).len) ab rfl (λ_=>rfl) bj (aC+1) ab _ H λr u a=>aby (.inr rfl) (c6.qE (bd r u)).1 (c6.qE (bd r u)).2.2 ⟨_,rfl⟩ (c6.qE (bd r u)).2.1 H (dL _ _) (aT _) rfl a;have L:=aH.push (.cells (q 52) (q 52) 0 [.str az aN,ag,ao,Y,ar,aw,ax]);simp -implicitDefEqProofs only [go_sem,hF,aG.O,aG.a_ (k:=7) ae rfl,bn,bo,bp,bq,br,b3,bg.O,bU];refine au.aE ?_ ?_<;>intro Z<;>try simp -implicitDefEqProofs only [go_sem,hF,Z]
     . exact au.stop rfl (by simp -implicitDefEqProofs only [go_sem];exact an.stop rfl (by simp -implicitDefEqProofs only [go_sem,hF];exact bV 14 al _ (K.up.trans L)))
     . refine au.next _ rfl ⟨H,L,λcp aS=> ?_⟩ dm;rcases tT ae aS with aS|rfl
       . grind
       . exact Z
   . rintro s a ⟨aK,aH,aR⟩ hF;rw [bX] at aR;simp -implicitDefEqProofs only [go_sem];exact an.mk ah
 clear hF aK aH;rintro a eg ⟨⟨H,L,fJ⟩,hF⟩;have eO:lD p rop ahI:=⟨ah,ah,ah,ah⟩;have cA:=K.at H L;have cB:=cx.at H L;have bP:=b6.at H L;have cC:=cy.at H L;have cE:=cz.at H L;have cF:=ck.at H L;have cG:=bY.at H L;have dq:=v.at H L;obtain ⟨aY,ay⟩:=hq.1 ay;obtain ⟨bt,ay⟩:=hq.1 ay;obtain ⟨bK,ay⟩:=hq.1 ay;obtain ⟨de,ay⟩:=hq.1 ay;obtain ⟨dW,ay⟩:=hq.1 ay;obtain ⟨fr,-⟩:=hq.1 ay;have cQ:cc aD aA:=(aY _ ai).symm;have cR:cc aD af:=(bt _ ai).symm;have cS:cc aD T:=bK _ ai;have cT:cc aD Q:=bK _ ai;have cU:cc aD I:=bK _ ai;have cV:cc aD aB:=bK _ ai;have dz:cc aB aA:=(aY _ ai).symm;have dB:cc aB af:=(bt _ ai).symm;have dC:cc aB T:=(de _ ai).symm;have dD:cc aB Q:=(dW _ ai).symm;have dE:cc aB I:=(fr _ ai).symm;have eW:(rop.map ct).length=rop.length:=di ..
 have fO:(rop.map il).length=rop.length:=di ..
 refine ak.bF hF.2 (λz a j=>(P 52 7 o j aD (rop.map il)/\P 9 1 o j aA kN/\P 166 2 o j af jv/\P 52 7 o j T (j3.map ct)/\P 9 1 o j Q aJ/\P 81 15 o j I dX/\P 64 7 o j aB dY/\P 64 7 o j cr B)/\z a) ?_ ?_
 . have ee:=bP.len;rw [eW] at ee;simp -implicitDefEqProofs only [go_sem,hF,bP.O,ee];generalize cZ:a1 _ _ _ _ _ _ _ _ _ _=a8;revert a8;refine cv [2,3,4,5,6] (λ_=> []) (λs=>s) (λl s=>P 52 7 o s aD ((rop.map il).take l++(rop.map ct).drop l)/\P 9 1 o s aA kN/\P 166 2 o s af jv/\P 52 7 o s T (j3.map ct)/\P 9 1 o s Q aJ/\P 81 15 o s I dX/\P 64 7 o s aB dY/\P 64 7 o s cr B) rop.length eg ah ?_ ?_
   . clear hF;rintro l s a c1 ⟨w,cH,cI,cJ,cK,cL,cM,cN⟩ hF;obtain ⟨r,ae⟩: ∃r,rop[l]? =some r:=⟨rop[l],ai⟩;have eQ:(rop.map ct)[l]? =some (ct r):=ah;have e2:(rop.map il)[l]? =some (il r):=ah;have dK:=Sg (rop.map il) (rop.map ct) l ab;rw [eQ] at dK;obtain ⟨gy,ff,b7,ei,ej,fx,ek,en,fy,eo,C,bb⟩:=w.pn dK 6 [.V] (aT 7) (λy c3=>by rw [bs.1 c3];exact ⟨rfl,rfl⟩);have cW:=Z0 (rop.map il) (rop.map ct) l (il r) e2 ab;have cW:((rop.map il).take l++(rop.map ct).drop l).set l (putAt 6 [.V] (ct r))=(rop.map il).take (l+1)++(rop.map ct).drop (l+1):=cW;rw [cW] at C;have ep: ∀a,hf 1 ff [.V] a s= .ok (.av []) a b7:=eo;simp -implicitDefEqProofs only [go_sem,hF,w.O,ei,ej,ek,en,ep];exact au.next b7 rfl ⟨C,cH.bS C.tidy C.up λid g e f=>bb.other id g e λh=>cQ id h f,cI.bS C.tidy C.up λid g e f=>bb.other id g e λh=>cR id h f,cJ.bS C.tidy C.up λid g e f=>bb.other id g e λh=>cS id h f,
      cK.bS C.tidy C.up λid g e f=>bb.other id g e λh=>cT id h f,cL.bS C.tidy C.up λid g e f=>bb.other id g e λh=>cU id h f,cM.bS C.tidy C.up λid g e f=>bb.other id g e λh=>cV id h f,cN.bS C.tidy C.up λid g e f=>bb.other id g e λh=>dy id h f⟩ dm
   . rintro s a ⟨w,gN⟩ hF;rw [fT ab,tv ab,fw] at w;simp -implicitDefEqProofs only [go_sem];exact an.mk ah
 clear hF cA cB bP cC cE cF cG dq;rintro a fv ⟨⟨bP,cA,cB,cC,cE,cF,cG,dq⟩,hF⟩;obtain ⟨b5,b7,eI,w,R⟩:=bP.app (k:=7) (E:=G) (t:=24) (b:=120) (i:=t52) aq aq rfl rfl al al (x:=cY) (aQ:=aF) (dR aG λr u=>(c0 r u).1.1) (λr u=>(c0 r u).1) ab;have cH:=cA.bS w.tidy w.up λid g e f=>R.other id g e λh=>cQ id h f;have cI:=cB.bS w.tidy w.up λid g e f=>R.other id g e λh=>cR id h f;have cJ:=cC.bS w.tidy w.up λid g e f=>R.other id g e λh=>cS id h f;have cK:=cE.bS w.tidy w.up λid g e f=>R.other id g e λh=>cT id h f;have cL:=cF.bS w.tidy w.up λid g e f=>R.other id g e λh=>cU id h f;have cN:=dq.bS w.tidy w.up λid g e f=>R.other id g e λh=>dy id h f;have cM:=cG.bS w.tidy w.up λid g e f=>R.other id g e λh=>cV id h f;have et:=cQ.grow cA.W R;have eu:=cR.grow cB.W R;have ev:=cS.grow cC.W R;have ew:=cT.grow cE.W R;have ey:=cU.grow cF.W R;have dx:=cV.grow cG.W R;refine ak.kp [2,3,5,6] (λz a j=>b7=j/\M a 4= .W 0 [.str bw bB,aA,af,b5,T,Q,I,bm,.str bu bA,bk,aB,.str bx bC,.str bz bD]/\z a) ?_ ?_
 . simp -implicitDefEqProofs only [go_sem,hF,bP.O,aG.O,eI,bH,w.O,w.ok,w.cs];exact an.mk ⟨rfl,dm⟩
 clear hF;rintro a _ ⟨rfl,hF⟩;obtain ⟨cu,aP,eJ,A,ad⟩:=cM.app (k:=7) (E:=G) (t:=29) (b:=128) (i:=t64) aq aq rfl rfl al al (x:=cr) (aQ:=B) (cN.cw.elems c5) (λr u=>(cn r u).1) ab;have dZ:=cH.bS A.tidy A.up λid g e f=>ad.other id g e λh=>dz id h f;have ea:=cI.bS A.tidy A.up λid g e f=>ad.other id g e λh=>dB id h f;have ft:=w.bS A.tidy A.up λid g e f=>ad.other id g e λh=>dx id f h;have eb:=cJ.bS A.tidy A.up λid g e f=>ad.other id g e λh=>dC id h f;have ec:=cK.bS A.tidy A.up λid g e f=>ad.other id g e λh=>dD id h f;have fu:=cL.bS A.tidy A.up λid g e f=>ad.other id g e λh=>dE id h f;have ez:=dz.grow cH.W ad;have eA:=dB.grow cI.W ad;have eC:=dC.grow cJ.W ad;have eD:=dD.grow cK.W ad;have eF:=dE.grow cL.W ad;have eB:=(dx.symm).grow w.W ad;refine ak.kp [2,3,5,6] (λz a j=>aP=j/\M a 4= .W 0 [.str bw bB,aA,af,b5,T,Q,I,bm,.str bu bA,bk,cu,.str bx bC,.str bz bD]/\z a) ?_ ?_
 . simp -implicitDefEqProofs only [go_sem,hF,cM.O,cN.O,eJ,bH,A.O,A.ok,A.cs];exact an.mk ⟨rfl,dm⟩
 clear hF;rintro a _ ⟨rfl,hF⟩;have fC:ak (xe p rop ahI kN jv j3 aJ) bQ o (.ret (.av [.agg [.str bw bB,aA,af,b5,T,Q,I,bm,.str bu bA,bk,cu,.str bx bC,.str bz bD],.int .i64 0]) aP):=by
  let cO:aa->aa->Prop:=λy a7=>(J a7=true/\D 18 a7=true)/\ ∀bE aW aO,0<aW->P bE aW o aP y aO->F a7 aO;have e0: ∀ {a7 aO},F a7 aO->J a7=true/\D 18 a7=true:=λe=>⟨e.J,e.aI 17⟩;have fF: ∀ {bE aW y aO},0<aW->P bE aW o aP y aO->AM 47 o aP cO y:=λ{bE aW y aO} dM e=> .inr ⟨bE,aW,_,aO,dM,e.rw,e.W,λa7 bI=>⟨e0 bI,λfB fZ gB eT eK=>by rw [<-e.uniq eK dM eT];exact bI⟩⟩;have cl: ∀ {y},J y=true->(∀d,D (d+1) y=true)->AM 47 o aP cO y:=λ{y} bW bG=> .inl ⟨bG 47,⟨bW,bG 17⟩,λbE aW aO _ e=>by obtain ⟨rfl,rfl⟩:=e.Kk (vi (bG 0));exact .inl ⟨rfl,rfl⟩⟩;have bJ: ∀ {dg y:aa},(∀d,D (d+1) dg=true)->cc dg y/\cc y dg:=λe=>⟨(λid f=>by rw [vi (e 0)] at f;cases f),(λid _ f=>by rw [vi (e 0)] at f;cases f)⟩;have bN: ∀eh er d,D (d+1) (.str eh er)=true:=λ_ _ _=>rfl;have dH:=c9.aI;have dF:=c8.aI;obtain ⟨ed,dw,f,gE,fs,dN,S⟩:=Ey 47 al o cO [.str bw bB,aA,af,b5,T,Q,I,bm,.str bu bA,bk,cu,.str bx bC,.str bz bD] aP A.tidy A.up (λy c3=>by
   simp only [b2,dG,or_false] at c3;rcases c3 with rfl|rfl|rfl|rfl|rfl|rfl|rfl|rfl|rfl|rfl|rfl|rfl|rfl
   . exact cl rfl (bN _ _)
   . grind
   . grind
   . grind
   . grind
   . grind
   . grind
   . grind
   . exact cl rfl (bN _ _)
   . grind
   . grind
   . exact cl rfl (bN _ _)
   . exact cl rfl (bN _ _)) (by
   have fg:=aY af ai;have fh:=aY T ai;have fi:=aY Q ai;have fj:=aY I ai;have fk:=bt T ai;have fl:=bt Q ai;have fm:=bt I ai;have fo:=de Q ai;have fp:=de I ai;have fq:=dW I ai;simp only [hq,b2,dG,or_false,forall_eq_or_imp,forall_eq,List.Pairwise.nil,and_true];simp only [(bJ (bN _ _)).1,(bJ (bN _ _)).2,(bJ dH).1,(bJ dH).2,(bJ dF).1,(bJ dF).2,true_and,and_true];exact ⟨⟨fg,et.symm,fh,fi,fj,ez.symm⟩,⟨eu.symm,fk,fl,fm,eA.symm⟩,⟨ev,ew,ey,eB.symm⟩,⟨fo,fp,eC.symm⟩,⟨fq,eD.symm⟩,eF.symm,ai⟩)
  match ed,dN with
  | [ca,ag,ao,Y,ar,aw,ax,cg,ch,cj,cb,cd,cf],_=>
  have e9:=S 0 _ _ rfl rfl;have da:=S 1 _ _ rfl rfl;have db:=S 2 _ _ rfl rfl;have dO:=S 3 _ _ rfl rfl;have dc:=S 4 _ _ rfl rfl;have fa:=S 5 _ _ rfl rfl;have gf:=S 6 _ _ rfl rfl;have gg:=S 7 _ _ rfl rfl;have gh:=S 8 _ _ rfl rfl;have gi:=S 9 _ _ rfl rfl;have ga:=S 10 _ _ rfl rfl;have gb:=S 11 _ _ rfl rfl;have gd:=S 12 _ _ rfl rfl;have dJ: ∀bO∈ [ca,ag,ao,Y,ar,aw,ax,cg,ch,cj,cb,cd,cf],J bO=true/\D 18 bO=true:=λbO bf=>by
   simp only [b2,dG,or_false] at bf;rcases bf with rfl|rfl|rfl|rfl|rfl|rfl|rfl|rfl|rfl|rfl|rfl|rfl|rfl
   . grind
   . grind
   . grind
   . grind
   . grind
   . grind
   . grind
   . grind
   . grind
   . grind
   all_goals grind
  have eZ:aZ bR (.av [.agg [.str bw bB,aA,af,b5,T,Q,I,bm,.str bu bA,bk,cu,.str bx bC,.str bz bD],.int .i64 0]) aP=some (.av [.agg [ca,ag,ao,Y,ar,aw,ax,cg,ch,cj,cb,cd,cf],.int .i64 0],dw):=by refine Yz ?_;simp only [cD,Yu f,Go.aj.wC]
  refine .inl ⟨_,⟨ca,ag,ao,Y,ar,aw,ax,cg,ch,cj,cb,cd,cf,0,rfl,dJ,λ_=>⟨eO,da.2 _ _ _ al dZ,db.2 _ _ _ al ea,?_,dc.2 _ _ _ al eb,fa.2 _ _ _ al ec⟩⟩,_,_,dw,rfl,eZ,gV bI fs ?_⟩
  . show F Y (rop.map il++oN rop)
    grind
  . refine fR _ 20 20 _ (aT _) ?_;show ([ca,ag,ao,Y,ar,aw,ax,cg,ch,cj,cb,cd,cf].all (D 18)&&_)=true;rw [ba.2 λbO bf=>(dJ bO bf).2];rfl
 simp -implicitDefEqProofs only [go_sem,hF,dZ.ok,ea.ok,ft.ok,eb.ok,ec.ok,fu.ok,A.ok,c9.J,c8.J];omega
end
def u6 (a b c d:Nat):Int:=if js a b c d then -1 else if (a==c&&b==d) then 0 else 1
def aaD (E:Env) (t a b c d):b4 E .gtr t (.str a b) (.str c d)=some (.bool (!(js a b c d||(a==c&&b==d)))):=by simp [b4,mn]
def abx:d G R 298 (λ_:Nat×Nat=>True) (λp=> [.str p.1 p.2]) (λ_=> .bool false):=by
 refine d.run (m:=5) rfl rfl rfl rfl (λ_=>rfl) (λ_ _=>rfl) rfl rfl 0 λi j g h a _ f c=> ?_;have b:(a.1==a.1&&a.2==a.2)=true:=ai;simp only [go_sem,b];exact e.mk rfl c (U.refl _)
def MS:d G R 235 (λ_:Nat×Nat×Nat×Nat=>True) (λp=> [.str p.1 p.2.1,.str p.2.2.1 p.2.2.2]) (λp=> .int .i64 (u6 p.1 p.2.1 p.2.2.1 p.2.2.2)):=by
 obtain ⟨k,g⟩:=abx;refine d.run (m:=18) rfl rfl rfl rfl (λ_=>rfl) (λ_ _=>rfl) rfl rfl k λn q h j s _ c b=> ?_;have a:=λl o r=>g n q h j (l,o) trivial c r b;simp only at a;simp only [go_sem,a]
 iterate 2 all_goals try (refine e.aE ?_ ?_<;>intro f<;>try simp only [go_sem,f,aaD])
 all_goals refine e.i b (U.refl _) ?_
 all_goals unfold u6
 all_goals simp [*]
def cz:Nat->Nat×Nat
 |0=>(1,75)
 |1=>(1,86)
 |i+2=>(2,88+(48+(i+1))<<<8)
def Qj: ∀a<10,∀b<10,u6 (cz a).1 (cz a).2 (cz b).1 (cz b).2=if a<b then -1 else if b<a then 1 else 0:=by decide+kernel
def WQ: ∀a<10,∀b<10,cz a=cz b->a=b:=by decide+kernel
abbrev Sub:=List (Nat×List aa)
def cg (p:Nat×List aa):List aa:= .str (cz p.1).1 (cz p.1).2::p.2
structure c7 (u:Sub):Prop where
  st:u.Pairwise (·.1< ·.1)
  lt: ∀p∈u,p.1<10
  wt: ∀p∈u,aN p.2
def c7.len {u} (a:c7 u):u.length<=10:=by
 have i: ∀(b:Nat) (u:Sub),u.Pairwise (·.1< ·.1)->(∀c∈u,b<=c.1/\c.1<10)->u.length+b<=10\/u= []:=by
  intro b u
  induction u generalizing b with
  |nil=>simp
  | cons e m h=>
    intro d g;obtain ⟨j,f⟩:=hq.1 d;obtain ⟨k,l⟩:=g e (dF ..);refine .inl ?_;rcases h (e.1+1) f ah with a|rfl
    all_goals grind
 rcases i 0 u a.st λc d=>⟨ai,a.lt c d⟩ with a|rfl
 . omega
 . simp
def wy {p:Nat×List aa} (b:aN p.2):(cg p).length=7/\ ∀v∈cg p,J v=true/\D 20 v=true:=by
 have:=b.row;refine ⟨by simp [cg,this.1],λv a=> ?_⟩;rcases b2.1 a with rfl|a
 . exact ⟨rfl,rfl⟩
 grind
def gl (u:Sub) (a:Nat):Nat:=(u.filter λb=>decide (b.1<a)).length
def Ev {u:Sub} {a i:Nat} (g:i<=u.length) (e: ∀j p,j<i->u[j]? =some p->p.1<a) (f: ∀j p,i<=j->u[j]? =some p->a<=p.1):gl u a=i:=by
 unfold gl;have c:u=u.take i++u.drop i:=ai;rw [c,List.filter_append,CV.2,yJ.2]
 . grind
 . intro p b;obtain ⟨j,d⟩:=jo b
   grind
 . intro p b;obtain ⟨j,d⟩:=jo b
   grind
def c7.mono {u} (a:c7 u) {i j:Nat} {p q} (d:u[i]? =some p) (f:u[j]? =some q) (e:i<j):p.1<q.1:=by
 obtain ⟨b,rfl⟩:=e6.1 d;obtain ⟨c,rfl⟩:=e6.1 f;exact qj.1 a.st i j b c e
def dw (u:Sub) (a:Nat):Option (List aa):=(u.find? λb=>b.1==a).map (·.2)
def DT {u:Sub} (c:c7 u) {i a:Nat} {t} (b:u[i]? =some (a,t)):dw u a=some t:=by
 unfold dw;have:u.find? (λe=>e.1==a)=some (a,t):=by
  refine List.find?_eq_some_iff_getElem.2 ⟨ai,i,ah,ah,λf d=> ?_⟩;have:=c.mono (lj (by have:=(e6.1 b).1;omega)) b d
  grind
 grind
def DU {u:Sub} {a:Nat} (b: ∀p∈u,p.1≠a):dw u a=none:=by
 unfold dw
 grind
def Rz:bo λad n=> ∀(p:Nat×List aa) (a:Nat) H,aN p.2->p.1<10->a<10->Tidy H-> ∀tm,cx G (X G R ad n) (.fn (.func 241) [] []) [.agg (cg p),.str (cz a).1 (cz a).2] H tm= .ok (.int .i64 (if p.1<a then -1 else if a<p.1 then 1 else 0)) tm H:=by
 obtain ⟨o,g⟩:=MS;refine ⟨o+1,λad n q r p a H i j h e tm=> ?_⟩;obtain ⟨n,rfl⟩:=bY n;obtain ⟨b,B⟩:=p;have d:=λtm=>g ad n ab ab ((cz b).1,(cz b).2,(cz a).1,(cz a).2) trivial H tm e;simp only [Qj b j a h] at d;obtain ⟨y,z,s,t,u,v,C,A,x,w,f,-,-⟩:=i.ea;simp only at f;obtain ⟨rfl,l,k⟩:=f.c;simp only [eg,a6,fw,cg];refine jQ (aL.at (m:=7) (rs:= [.tmp 4]) rfl rfl rfl rfl rfl rfl rfl rfl ?_) tm;simp only [go_sem,l.J,k.J,d];exact ak.mk rfl rfl e (U.refl _)
def Qq (x:Nat) (c:x<1000) (H:af):jg G 3 260 (.int .i64 (x:Nat)) H=some (.int .u64 (x:Nat)):=by
 have a:aW G 3=some (.int .i64):=aq;have b:aW G 260=some (.int .u64):=aq;unfold jg;rw [a,b];simp only [pQ];rw [ab2 _ ab ab]
def Qr (x:Nat) (c:x<1000) (H:af):jg G 260 3 (.int .u64 (x:Nat)) H=some (.int .i64 (x:Nat)):=by
 have a:aW G 3=some (.int .i64):=aq;have b:aW G 260=some (.int .u64):=aq;unfold jg;rw [a,b];simp only [pQ];rw [wrap64 _ ab ab]
def half (x:Nat):b4 G .shr 260 (.int .u64 (x:Nat)) (.int .u64 1)=some (.int .u64 ((x/2:Nat):Int)):=by
 rw [OO _ _ _ _ _ _ al];have:(x:Int).fdiv (2^min (Int.toNat 1) IntKind.u64.bits)=((x/2:Nat):Int):=by
  show (x:Int).fdiv 2=_
  grind
 grind
def h2 (u:Sub) (a:Nat):Bool:=(dw u a).isSome
def Jq : bo λad n=> ∀(u:Sub) (x:aa) (a:Nat) H,c7 u->F x (u.map cg)->a<10->Tidy H-> ∀tm,az G (X G R ad n) 163 [x,.str (cz a).1 (cz a).2] H tm= .ok (.av [.int .i64 (gl u a:Nat),.bool (h2 u a)]) tm H:=by
 obtain ⟨ag,E⟩:=Rz;refine ⟨ag+40,λad n aw aC u x a H f i I s=> ?_⟩;obtain ⟨n,rfl⟩: ∃aj,n=aj+1+1:=⟨n-2,ab⟩;have aF:=f.len;have V:(u.map cg).length=u.length:=ai;have L:=i.len;rw [V] at L;have af: ∀tm,az G (X G R ad (n+1)) 240 [x,.str (cz a).1 (cz a).2,.fn (.func 241) [] []] H tm= .ok (.av [.int .i64 (gl u a:Nat),.bool (h2 u a)]) tm H:=by
  refine jQ (aL.at (m:=46) rfl rfl rfl rfl rfl (by simp only [aO,i.aD];rfl) rfl rfl ?_);simp only [go_sem,i.O,L];generalize ao:a1 _ _ _ _ _ _ _ _ _ _=N;revert N;refine rP _ _ _ _ (λv tm M=> ∃c d:Nat,(H=M/\c<=d/\d<=u.length/\v+(d-c)<=u.length/\(∀e b,e<c->u[e]? =some b->b.1<a)/\(∀e b,d<=e->u[e]? =some b->a<=b.1))/\aM 49 [(0,x),(1,.str (cz a).1 (cz a).2),(2,.fn (.func 241) [] []),(8,.int .i64 (u.length:Nat)),(9,.int .i64 (c:Nat)),(10,.int .i64 (d:Nat))] tm) u.length ab ⟨0,u.length,ah,by simp only [go_sem];rfl⟩ ?_;rintro v tm _ ar ⟨c,d,⟨rfl,ax,J,au,K,A⟩,hF⟩;by_cases aA:c<d
  . have w:decide ((c:Int)<(d:Int))=true:=ah;have al:IntKind.i64.wrap ((c:Int)+(d:Int))=((c+d:Nat):Int):=by rw [wrap64 _ ab ab];rfl
    have P:=λH=>Qq (c+d) ab H;have Q:=λH=>Qr ((c+d)/2) ab H;have S:=half (c+d);have Y:c<=(c+d)/2:=ab;have aB:(c+d)/2<d:=ab;generalize (c+d)/2=j at*;obtain ⟨b,h⟩: ∃b,u[j]? =some b:=⟨u[j]'ab,ai⟩;have l:=aV h;have r:=wy (f.wt b l);have C:(u.map cg)[j]? =some (cg b):=ah;have y:=λtm=>E ad n ab ab b a H (f.wt b l) (f.lt b l) I s tm;have an:IntKind.i64.wrap ((j:Int)+1)=((j+1:Nat):Int):=by rw [wrap64 _ ab ab];rfl
    have z:=i.a_ (k:=7) C r.1;have B:(cg b).take 7=cg b:=ah;simp only [go_sem,hF,w,al,P,S,Q,i.O,z,r.1,B,y];have p:decide ((if b.1<a then (-1:Int) else if a<b.1 then 1 else 0)<0)=decide (b.1<a):=by grind
    rw [p];refine dy.aE ?_ ?_<;>intro t<;>simp only [go_sem,hF,t,an]
    . have q:b.1<a:=ah;refine dy.next (by show v<u.length;omega) ⟨j+1,d,⟨rfl,ab,J,ab,λe D T o=> ?_,A⟩,ay⟩;rcases qk e j with g|g
      . exact Nat.lt_trans (f.mono o h g) q
      grind
    . have q: ¬b.1<a:=ah;refine dy.next (by show v<u.length;omega) ⟨c,j,⟨rfl,Y,ab,ab,K,λe D T o=> ?_⟩,ay⟩;rcases qk j e with g|g
      . have:=f.mono h o g;omega
      grind
  . have w :decide ((c:Int)<(d:Int))=false:=ah;obtain rfl:c=d:=ab;have Z:=Ev J K A;simp only [go_sem,hF,w];refine dy.stop rfl ?_;rw [Z];simp only [go_sem,hF];refine ak.aE ?_ ?_<;>intro t
    . have W:c<u.length:=ah;obtain ⟨b,h⟩: ∃b,u[c]? =some b:=⟨u[c]'ab,ai⟩;have l:=aV h;have r:=wy (f.wt b l);have C:(u.map cg)[c]? =some (cg b):=ah;have y:=λtm=>E ad n ab ab b a H (f.wt b l) (f.lt b l) I s tm;have z:=i.a_ (k:=7) C r.1;have B:(cg b).take 7=cg b:=ah;have aq:=A c b (aT _) h;have p:((if b.1<a then (-1:Int) else if a<b.1 then 1 else 0)==0)=h2 u a:=by
       unfold h2;rw [if_neg ab];by_cases q:a<b.1
       . rw [if_pos q,DU]
         . rfl
         . intro D o ae;obtain ⟨e,d⟩:=jo o;rcases vV e c with g|g|g
           . grind
           . grind
           . have:=f.mono h d g;omega
       . rw [if_neg q];have:b=(a,b.2):=by grind
         rw [this] at h;rw [DT f h];rfl
      simp only [go_sem,hF,t,i.O,z,r.1,B,y,p];exact ak.mk rfl rfl s (U.refl _)
    . have W: ¬c<u.length:=ah;have p:h2 u a=false:=by
       unfold h2;rw [DU]
       . rfl
       . intro D o ae;obtain ⟨e,d⟩:=jo o
         grind
      simp only [go_sem,hF,t];exact ak.mk (by rw [p]) rfl s (U.refl _)
 refine jQ (aL.at (m:=9) rfl rfl rfl rfl rfl (by simp only [aO,i.aD];rfl) rfl rfl ?_);simp only [go_sem,i.O,af];exact ak.mk rfl rfl s (U.refl _)
def SG {u:Sub} (d:c7 u) {a:Nat} (l:h2 u a=true): ∃t,dw u a=some t/\u[gl u a]? =some (a,t):=by
 unfold h2 dw at l
 cases g:u.find? λf=>f.1==a with
 |none=>grind
 | some f=>
   obtain ⟨n,t⟩:=f;have b:=List.find?_some g;simp only [beq_iff_eq] at b;subst b;obtain ⟨j,c⟩:=jo (yS g);refine ⟨t,DT d c,?_⟩;rw [Ev (i:=j) ah (λk m h e=>d.mono e c h) (λk m h e=> ?_)]
   . exact c
   . rcases qk j k with b|b
     . have:=d.mono c e b;omega
     grind
def eb:List aa:= [.int .i64 0,.int .i64 0,.str 0 0,.str 0 0,.V,.V]
theorem DD:bo λad n=> ∀(u:Sub) (x:aa) (a:Nat) H,c7 u->F x (u.map cg)->a<10->Tidy H-> ∀tm,az G (X G R ad n) 85 [x,.str (cz a).1 (cz a).2] H tm= .ok (.av [.agg ((dw u a).getD eb),.bool (h2 u a)]) tm H:=by
 obtain ⟨B,o⟩:=Jq;refine ⟨B+1,λad n M N u x a H e b p f=> ?_⟩;obtain ⟨n,rfl⟩:=bY n;have c:=λtm=>o ad n ab ab u x a H e b p f tm;refine jQ (aL.at (m:=19) rfl rfl rfl rfl rfl (by simp only [aO,b.aD];rfl) rfl rfl ?_)
 cases d:h2 u a with
 | false=>
   rw [d] at c;have:dw u a=none:=by unfold h2 at d;simp_all
   rw [this];simp only [go_sem,b.O,c];exact ak.mk rfl rfl f (U.refl _)
 | true=>
   rw [d] at c;obtain ⟨K,s,q⟩:=SG e d;rw [s];have h:=aV q;have r:=wy (e.wt _ h);have v:(u.map cg)[gl u a]? =some (cg (a,K)):=ah;have g:=b.a_ (k:=7) v r.1;have i:=e.wt _ h;simp only at i;obtain ⟨C,E,w,y,z,A,L,I,Q,P,rfl,l,j⟩:=i.t;simp only [cg] at g;simp only [go_sem,b.O,c,g,l.J,j.J];refine ak.mk rfl ?_ f (U.refl _);show ([aa.int .i64 C,.int .i64 E,.str w y,.str z A,L,I].all (D 18)&&_)=true;simp only [aO,l.aI 17,j.aI 17];rfl
def Q9 {E:Env} {R:bU} {f m ad n:Nat} {args:List aa} {H H':af} {v:aa} {fn:Func} {c:Code} {rs:List ResultVar} (g:E.cL f=none) (d:E.fns f=some fn) (b:fn.body=some c) (h:fn.results=rs.toArray) (e:fn.ntmps=args.length+m)
    (a:fin E rs (evalCode E (X E R ad n) R ad f c (args++List.replicate m (.av [])) H [])= .ret v H'):X E R ad (n+1) f args H= .ret v H':=by
 rw [lN E R ad n f m args H fn c g d b e,mA _ _ _ rs h _ ah,a]
theorem aaT (t):n l t=n G t:=rfl
theorem Wi (f d):l.loc f d=Nat.beq ((akH>>>(26*f)%67108864)>>>d%2) 1:=rfl
def gj (u:Sub) (a:Nat) (t:List aa):Sub:=u.take (gl u a)++(a,t)::u.drop (gl u a)
def c7.ins {u} (f:c7 u) {a:Nat} {t} (o:a<10) (w:aN t) (r:h2 u a=false):c7 (gj u a t):=by
 have E: ∀b∈u,b.1≠a:=λb e n=>by
  obtain ⟨c,l⟩:=jo e;have:dw u a=some b.2:=DT f (i:=c) ah;unfold h2 at r
  grind
 have s: ∃c,gl u a=c/\c<=u.length/\(∀d b,d<c->u[d]? =some b->b.1<a)/\ ∀d b,c<=d->u[d]? =some b->a<b.1:=by
  have p:gl u a<=u.length:=C1 ..
  refine ⟨_,rfl,p,?_⟩;have A: ∃c,c<=u.length/\(∀d b,d<c->u[d]? =some b->b.1<a)/\ ∀d b,c<=d->u[d]? =some b->a<b.1:=by
   by_cases x: ∃(c:Nat) (b:Nat×List aa),u[c]? =some b/\a<b.1
   . obtain ⟨c,b,l,e⟩:=x
     induction c using Nat.strongRecOn generalizing b with
     | _ c z=>
       by_cases y: ∃(d:Nat) (g:Nat×List aa),d<c/\u[d]? =some g/\a<g.1
       . obtain ⟨d,g,j,k,v⟩:=y;exact z d j g k v
       . refine ⟨c,ah,λd g j k=> ?_,λd g j k=> ?_⟩
         . grind
         . rcases qk c d with h|h
           . have:=f.mono l k h;omega
           grind
   . refine ⟨u.length,ai,ah,ah⟩
     all_goals grind
  obtain ⟨c,h,m,B⟩:=A;have n:=Ev h m ah
  grind
 obtain ⟨c,l,C,h,m⟩:=s;unfold gj;rw [l];have D: ∀b∈u.take c,b.1<a:=λb e=>by
  obtain ⟨d,j⟩:=jo e
  grind
 have q: ∀b∈u.drop c,a<b.1:=λb e=>by
  obtain ⟨d,j⟩:=jo e
  grind
 refine ⟨rH.2 ⟨f.st.sublist ah,hq.2 ⟨q,f.st.sublist ah⟩,λb e g k=> ?_⟩,λb e=> ?_,λb e=> ?_⟩
 . grind
 . rcases cr.1 e with e|e
   . grind
   . rcases b2.1 e with rfl|e
     . exact o
     . exact f.lt b ah
 . rcases cr.1 e with e|e
   . exact f.wt b ah
   . rcases b2.1 e with rfl|e
     . exact w
     . exact f.wt b ah
def iA (x:aa) (u:Sub):Prop:=(x= .V/\u= [])\/(u≠ []/\ ∃a,x= .A (u.map cg) a)
def iA.A {x u} (b:iA x u):F x (u.map cg):=by
 rcases b with ⟨rfl,rfl⟩|⟨-,a,rfl⟩
 . exact .inl ⟨rfl,rfl⟩
 . exact .inr ⟨a,rfl⟩
def wW {u} (a:c7 u):Rows 7 (u.map cg):=λe c=>by
 obtain ⟨d,b,rfl⟩:=cd.1 c;exact wy (a.wt d b)
def abJ:aW l 102=aW l 103:=aq
def UN {d H:af} {v:aa} {rows:Y} {r:List aa} (a:P 210 7 d H v rows) (F:r.length=7/\ ∀v∈r,J v=true/\D 20 v=true) (I:rows.length<1000):
    ∃c H',P 210 7 d H' c (rows++ [r])/\iX d.n v c H H'/\mZ [v,.int .i64 (rows.length:Nat),.A [r] true] H= .ret c H':=by
 have h:Rows 7 [r]:=λK C=>by rw [bs.1 C];exact F
 obtain ⟨c,H',w,e,z⟩:=a.app (k:=7) (E:=l) (t:=103) (b:=112) (i:=t210) aq aq rfl rfl al al (x:= .A [r] true) (aQ:= [r]) (dR (.inr ⟨_,rfl⟩) h.len) h ah;have y:cI l 103 102 v (.A [r] true) H=some (c,H'):=by rw [Oj abJ];exact w
 refine ⟨c,H',e,z,?_⟩;have u:vF [v,.int .i64 (rows.length:Nat),.A [r] true] H= .fail:=by
  rcases a.ex with ⟨rfl,rfl⟩|⟨f,-⟩
  . rfl
  . obtain ⟨id,g,s,rfl,-⟩:=a.ref f;obtain ⟨j,B⟩: ∃j,rows.length=j+1:=⟨rows.length-1,by have:rows.length≠0:=ah;omega⟩;rw [B];rfl
 unfold mZ;rw [u];simp only;refine Q9 (m:=92) (rs:= [.tmp 6]) rfl rfl rfl rfl rfl ?_;obtain ⟨o,G⟩: ∃o,fG 7 v (some (.int .i64 (rows.length:Nat))) none none=some o:=by
  rcases a.ex with ⟨rfl,rfl⟩|⟨f,-⟩
  . exact ⟨_,rfl⟩
  . obtain ⟨id,g,s,rfl,-⟩:=a.ref f;have:0<rows.length:=ah;refine ⟨.A [] false,?_⟩;show l4 id g 0 7 rows.length false (some (.int .i64 (rows.length:Nat))) none none=_;unfold l4;show (if rows.length<=rows.length/\rows.length<=rows.length/\(false=true->rows.length=rows.length) then _ else _)=_
    grind
 have p:(((1:Nat):Int)==0)=false:=rfl;have q:((rows.length:Int)==(rows.length:Int))=true:=ai;simp only [go_sem,aaT,Wi,a.O,a.len,G,kL,y,bH,e.O,p,q,e.nl,dX]
def UM {c H:af} {v:aa} {rows:Y} {r:List aa} (a:P 210 7 c H v rows) (u:rows≠ []) (I:r.length=7/\ ∀v∈r,J v=true/\D 20 v=true) (G:rows.length<1000):
    ∃H',Tidy H'/\U c H'/\H'.n=H.n/\mZ [v,.int .i64 0,.A [r] true] H= .ret (.A (r::rows) false) (H'.push .gone):=by
 obtain ⟨id,b,d,rfl,F,e,C,E,-⟩:=a.ref u;have t:=gW e;have h:Nat.beq (ev (b+1)) (ev b)=true:=by rw [lU];unfold ev;omega
 refine ⟨H.set id .gone,a.tidy.set _ rfl,a.up.set ab _,mS _ _ _,?_⟩;have g:Nat.beq rows.flatten.length (rows.length*7)=true:=by rw [jP 7 _ a.rw.len];simp
 have i:Nat.blt 0 rows.length=true:=h_ ah;have j:Nat.ble rows.length 1000=true:=h_ ab;have k:Nat.beq r.length 7=true:=de;have l:rows.flatten.all J=true:=a.rw.ok;have m:r.all J=true:=ah;have o:rows.flatten.all (D 20)=true:=ba.2 λv x=>a.rw.aI v x;have p:r.all (D 20)=true:=ah;have q:Nat.ble d b=true:=de;have s:chunk 7 (rows.length+1) (r++rows.flatten)=r::rows:=by
  have:=k3 7 (r::rows) (λy w=>(b2.1 w).elim ah (a.rw.len y))
  grind
 have f:vF [.ref id b 0 7 rows.length false,.int .i64 0,.A [r] true] H= .ret (.A (r::rows) false) ((H.push .gone).set id .gone):=by show (match H.get id with|some (.cells B d 0 z)=>_|_=>_)=_;rw [e];simp only [g,i,j,k,l,m,o,p,q,h,show Nat.beq b b=true by simp,tu,rf,c8,s]
 unfold mZ;rw [f,YB _ _ _ t]
def O7 {r:List aa} (a:r.length=7/\ ∀v∈r,J v=true/\D 20 v=true) (H:af):cT G 102 1 [(0,.agg r)] H=some (.A [r] true,H):=
 mo (E:=G) (t:=102) (el:=210) (k:=7) (H:=H) (z:= .agg (.str 0 0::eb)) aq aq aq al rfl al (.agg r) ⟨a.1,ba.2 λv b=>(a.2 v b).1,ba.2 λv b=>(a.2 v b).2⟩
def MV:aW G 103=some (.slice 210):=aq
def H6:G.T 210=some t210:=aq
def OJ (rows c):b4 G .eql 103 (.A rows c) .V=some (.bool false):=aq
@[go_sem] theorem acT (H):cT G 103 0 [] H=some (.A [] true,H):=aq
def Ul {ad n:Nat} {x:aa} {u:Sub} {H:af} (b:c7 u) (l:iA x u) (i:Tidy H):
    ∃v H',P 210 7 H H' v (u.map cg)/\ ∀tm,az G (X G R ad (n+1)) 303 [x] H tm= .ok v tm H':=by
 have B:=b.len;refine bn.at (m:=7) rfl rfl rfl rfl rfl (by simp only [aO,l.A.aD];rfl) rfl rfl ?_;rcases l with ⟨rfl,rfl⟩|⟨z,e,rfl⟩
 . simp only [go_sem];refine bn.mk ?_;rw [ft ab];exact P.new _ _ i
 . have p:=OJ (u.map cg) e;obtain ⟨j,H',a,g,k⟩:=bd.app (c:=0) (n0:=H.n) (H:=H) (rows:= []) (aQ:=u.map cg) (v:= .A [] true) (x:= .A (u.map cg) e) MV H6 rfl rfl al al (.inr (.inl rfl)) i ab (λy f=>by cases f) (dR (H:=H) (.inr ⟨e,rfl⟩) (wW b).len) (wW b) (by have r:(([]:Y).length+(u.map cg).length)<=1048560:=ah;have s:t210.bytes+1<=200:=al;exact eT (kF r s) (by unfold b7;omega)) ah;rw [gH,a6] at g;have g:bd H.n 210 7 (u.map cg).length H' (u.map cg) j:=g;have t:u.map cg≠ []:=ah;have h:P 210 7 H H' j (u.map cg):=⟨g,wW b,k.tidy,k.up H ab (U.refl _),.inr ⟨t,by
    have o:hx G 210 7 (.slice 210) (.A (u.map cg) e) H=some ((u.map cg).flatten,(u.map cg).length):=dR (H:=H) (.inr ⟨e,rfl⟩) (wW b).len;unfold cI at a;simp only [MV,H6,show t210.size=7 from rfl,o] at a;rw [if_pos al] at a
    cases w:u.map cg with
    |nil=>grind
    | cons y C=>
      have f:=wW b;rw [w] at a f;simp only [cl,f.ok,if_true,bu,dn,c8] at a;split at a
      . simp only [N,bz] at a;rw [<-a.1];exact λq=>by cases q
      grind⟩⟩
   simp only [go_sem,p,a,bH,h.O,h.nl,dX,if_true];refine bn.mk ?_;exact h.gc i (U.refl _) (v:=j) (d:=19) id
def U6:bo λad n=> ∀(u:Sub) (x:aa) (a:Nat) (t:List aa) H,c7 u->iA x u->a<10->aN t->h2 u a=false->(gl u a=u.length\/gl u a=0)->Tidy H->
    ∃w,iA w (gj u a t)/\ ∀tm,az G (X G R ad n) 239 [x,.str (cz a).1 (cz a).2,.agg t] H tm= .ok w tm H:=by
 obtain ⟨an,T⟩:=Jq;refine ⟨an+1010,λad n aA aB u x a t H y l V N Y aC z=> ?_⟩;obtain ⟨n,rfl⟩: ∃ar,n=ar+1+1:=⟨n-2,ab⟩;have aE:=y.len;have h:=λtm=>T ad (n+1) ab ab u x a H y l.A V z tm;rw [Y] at h;obtain ⟨P,o,i,S⟩:=Ul (ad:=ad) (n:=n) y l z;have k:=wy (p:=(a,t)) N;have K:=O7 k o;have Z:(u.map cg).length=u.length:=ai;have ao: ∃c b e,(Tidy b/\U H b/\aZ bR c b=some (.A ((gj u a t).map cg) false,e)/\U H e/\(∀t,O t c=c)/\aD c=true)/\ ∀tm,az G (X G R ad (n+1)) 302 [P,.int .i64 (gl u a:Nat),.A [cg (a,t)] true] o tm= .ok c tm b:=by
  have v:([P,.int .i64 (gl u a:Nat),.A [cg (a,t)] true]:List aa).all aD=true:=by simp only [aO,i.nl];rfl
  by_cases ae:gl u a=u.length
  . obtain ⟨c,b,I,ay,d⟩:=UN i k ab;have q:(gj u a t).map cg=u.map cg++ [cg (a,t)]:=by unfold gj;grind
    rw [Z,<-ae] at d;have j:=G3 (E:=G) (R:=R) (f:=302) (ad:=ad) (n:=n) (p:=mZ) rfl rfl rfl v d;have g:=I.cut (w:=c) i.up.n λL id h=>by obtain ⟨aJ,ax,aw,Q,-⟩:=I.ref ai;rw [Q] at h L;cases h;exact er L
    obtain ⟨e,r,aS,D,-⟩:=g.aZ 49 al al;refine ⟨c,_,e,⟨g.tidy,g.up,?_,D H ab g.up,g.O,g.nl⟩,j⟩;rw [q];have:dk (u.map cg++ [cg (a,t)])= .A (u.map cg++ [cg (a,t)]) false:=by cases u.map cg<;>rfl
    rw [<-this];exact r
  . have M:gl u a=0:=ab;have s:u.map cg≠ []:=ah;obtain ⟨b,B,C,au,d⟩:=UM i s k ab;have q:(gj u a t).map cg=cg (a,t)::u.map cg:=by unfold gj;grind
    rw [M];rw [M] at v;have j:=G3 (E:=G) (R:=R) (f:=302) (ad:=ad) (n:=n) (p:=mZ) rfl rfl rfl v d;have W:Go.aj.gc o.n (.A (cg (a,t)::u.map cg) false) (b.push .gone)=b:=by rw [<-au];exact gV B ((U.refl _).push _) rfl
    rw [W] at j;refine ⟨_,b,b,⟨B,C,?_,C,λ_=>rfl,rfl⟩,j⟩;rw [q];rfl
 obtain ⟨c,b,e,⟨B,C,r,D,av,aq⟩,d⟩:=ao;have s:gj u a t≠ []:=by unfold gj;simp
 refine hg (aL.at (m:=20) rfl rfl rfl rfl rfl (by simp only [aO,l.A.aD];rfl) rfl rfl ?_);have af:=N;obtain ⟨aP,aQ,aF,aG,aH,aI,aT,aR,aM,aK,rfl,ak,ag⟩:=af.t;have F:=k7 k;simp only [cg] at K d F;simp only [go_sem,ak.J,ag.J,l.A.O,h,S,i.O,K,bH,d,av,aq,dX,F];exact .inl ⟨_,.inr ⟨s,false,rfl⟩,_,_,e,rfl,r,gV z D rfl⟩
def WR: ∀a<10,((cz a).1==1&&(cz a).2==95)=false:=by decide+kernel
def c_ (a c d:Nat):List aa:=cn (cz a).1 (cz a).2 c d
def oq (a:Nat) (u:Sub):Prop:=h2 u a=false/\(gl u a=u.length\/gl u a=0)
def fx (kN jv rop j3:Y) (a c d:Nat) (t:List aa) (u:Sub):Option Sub:=if ja kN jv (eh kN rop j3 t).1 (eh kN rop j3 t).2 c d then some (gj u a t) else none
section
variable {ax:aa} {s:List aa} {kN jv rop j3 aJ:Y} (ag:dO ax s kN jv rop j3 aJ)
include ag
theorem Vz {t:List aa} (z:aN t):bo λad n=> ∀(u:Sub) (x:aa) (a c d:Nat) H,c7 u->iA x u->a<10->oq a u->Tidy H->
  ∃v b,((fx kN jv rop j3 a c d t u=none/\v= .V/\b=false)\/(fx kN jv rop j3 a c d t u=some (gj u a t)/\iA v (gj u a t)/\b=true))/\ ∀tm,az G (X G R ad n) 161 [.agg [ax],x,.agg (c_ a c d),.agg t] H tm= .ok (.av [v,.bool b]) tm H:=by
 obtain ⟨aE,r⟩:=v_ ag z;obtain ⟨aF,w⟩:=Af ag;obtain ⟨aG,aj⟩:=DD;obtain ⟨aH,al⟩:=U6;obtain ⟨af,aS,aY,aZ,a1,a6⟩:=ag.val;refine ⟨aE+aF+aG+aH+1,λad n aU aV u x a c d H Y o y k g=> ?_⟩;obtain ⟨n,rfl⟩:=bY n;have S:=λtm=>r ad n ab ab H tm g;have T:=λaK aP tm=>w ad n ab ab (aK,aP,c,d) trivial H tm g;have j:=λtm=>aj ad n ab ab u x a H Y o.A y g tm;rw [k.1] at j;obtain ⟨h,l,ai⟩:=al ad n ab ab u x a t H Y o y z k.1 k.2 g;have au:=WR a y;have ar:dw u a=none:=by have:=k.1;unfold h2 at this;simpa using this
 rw [ar] at j;have aw:ja kN jv (eh kN rop j3 t).1 (eh kN rop j3 t).2 c d=true->fx kN jv rop j3 a c d t u=some (gj u a t):=λag=>if_pos ag;have ay:ja kN jv (eh kN rop j3 t).1 (eh kN rop j3 t).2 c d=false->fx kN jv rop j3 a c d t u=none:=λag=>if_neg (by rw [ag];decide);generalize fx kN jv rop j3 a c d t u=Z at*;have: ∃v,(∃h b,v= .av [h,.bool b]/\((Z=none/\h= .V/\b=false)\/(Z=some (gj u a t)/\iA h (gj u a t)/\b=true)))/\ ∀tm,az G (X G R ad (n+1)) 161 [.agg [ax],x,.agg (c_ a c d),.agg t] H tm= .ok v tm H:=by
  have aA:=z;obtain ⟨I,K,B,C,E,F,M,L,aX,aW,rfl,aC,aB⟩:=aA.t;refine hg (aL.at (m:=46) rfl rfl rfl rfl rfl (by simp only [aO,o.A.aD];rfl) rfl rfl ?_);generalize eh kN rop j3 [.int .i64 I,.int .i64 K,.str B C,.str E F,M,L]=p at*;simp only [c_,cn,eb,Option.getD_none] at j|-;have aT:=l.A.aD;have i: ∀ {P Q:Code} {ae:List aa} {q},an (λtm N=>H=N/\aM 50 [(1,x),(4,.W 0 [ax]),(6,.W 0 [.int .i64 6,.int .i64 0,.str (cz a).1 (cz a).2,.str c d,.V,.V]),(7,.W 0 [.int .i64 I,.int .i64 K,.str B C,.str E F,M,L]),(10,.av [])] tm) (λaQ=>ak q bQ H (fin G [.tmp 8,.tmp 9] aQ)) ⟨⟩ (evalCode G (X G R ad n) R ad 161 P ae H [])->(∀tm,aM 50 [(1,x),(4,.W 0 [ax]),(6,.W 0 [.int .i64 6,.int .i64 0,.str (cz a).1 (cz a).2,.str c d,.V,.V]),(7,.W 0 [.int .i64 I,.int .i64 K,.str B C,.str E F,M,L]),(10,.av [])] tm->ak q bQ H (fin G [.tmp 8,.tmp 9] (evalCode G (X G R ad n) R ad 161 Q tm H [])))->ak q bQ H (fin G [.tmp 8,.tmp 9] (evalCode G (X G R ad n) R ad 161 (.seq P Q) ae H [])):=λr w=>ak.bM _ r λtm N ao=>by obtain ⟨rfl,hF⟩:=ao;exact w tm hF
  refine i ?_ λtm hF=> ?_
  . simp -implicitDefEqProofs only [go_sem,aC.J,aB.J,aS];exact an.mk ⟨rfl,w0⟩
  refine i ?_ λaR e=> ?_
  . simp -implicitDefEqProofs only [go_sem,hF];exact an.mk ⟨rfl,dm⟩
  clear hF;have hF:=e;clear e;by_cases f:ja kN jv p.1 p.2 c d=true
  rotate_left
  . have f:ja kN jv p.1 p.2 c d=false:=by simpa using f
    simp -implicitDefEqProofs only [go_sem,hF,af,S,T,f];exact ak.mk ⟨_,_,rfl,.inl ⟨ay f,rfl,rfl⟩⟩ rfl g (U.refl _)
  refine i ?_ λtm e=> ?_
  . simp -implicitDefEqProofs only [go_sem,hF,af,S,T,f];exact an.mk ⟨rfl,dm⟩
  clear hF;have hF:=e;clear e;refine i ?_ λaR e=> ?_
  . simp -implicitDefEqProofs only [go_sem,hF,au];exact an.mk ⟨rfl,dm⟩
  clear hF;have hF:=e;clear e;simp -implicitDefEqProofs only [go_sem,hF,o.A.O,j,ai,l.A.O,aT];exact ak.mk ⟨_,_,rfl,.inr ⟨aw f,l,rfl⟩⟩ (by show (D 19 h&&_)=true;rw [l.A.aI 18];rfl) g (U.refl _)
 obtain ⟨_,⟨v,b,rfl,aq⟩,ah⟩:=this;exact ⟨v,b,aq,ah⟩
end
def VA {ad n:Nat} {a H:af} {v:aa} {rows:Y} (ag:P 103 1 a H v rows) (j:rows.length<=1):
    ∃H',(Tidy H'/\U a H'/\H'.n=H.n)/\ ∀tm,az G (X G R ad (n+1)) 162 [v] H tm= .ok (dk rows) tm H':=by
 obtain ⟨H',g,h,i,k,c,l⟩:=ag.r2 49 al al;refine ⟨H',⟨h,i a (aT _) ag.up,c⟩,?_⟩;have: ∃d b,(d=dk rows/\b=H')/\ ∀tm,az G (X G R ad (n+1)) 162 [v] H tm= .ok d tm b:=by refine dJ.at (m:=8) rfl rfl rfl rfl rfl (by simp only [aO,ag.nl];rfl) rfl rfl ?_;have e:decide ((rows.length:Int)>1000)=false:=da;simp -implicitDefEqProofs only [go_sem,ag.O,ag.len,e,ag.nl,dX];exact dJ.mk g ⟨rfl,ft (yW c)⟩
 obtain ⟨_,_,⟨rfl,rfl⟩,f⟩:=this;exact f
def ka (o:Option Sub) (v:aa):Prop:=match o with
 |some c=> ∃a b,iA a c/\v= .A [[a]] b
 |none=>v= .V
def Gl {w:aa} {r:Y} (a:F w r) (H:af):cT G 100 1 [(0,w)] H=some (.A [[w]] true,H):=by
 have:=mo (E:=G) (t:=100) (el:=103) (k:=1) (H:=H) (z:= .V) aq aq aq al rfl al w a.rk
 rwa [a.cells] at this
section
variable {ax:aa} {s:List aa} {kN jv rop j3 aJ:Y} (ag:dO ax s kN jv rop j3 aJ)
include ag
theorem Vj {t:List aa} (I:aN t):bo λad n=> ∀(u:Sub) (x:aa) (q:Bool) (a c d:Nat) H,c7 u->iA x u->a<10->oq a u->Tidy H->
  ∃v,ka (fx kN jv rop j3 a c d t u) v/\ ∀tm,az G (X G R ad n) 84 [.agg [ax],.A [[x]] q,.agg (c_ a c d),.agg t] H tm= .ok v tm H:=by
 obtain ⟨aH,h⟩:=Vz ag I;obtain ⟨bg,aU,bh,bj,bk,bl⟩:=ag.val;refine ⟨aH+10,λad n a7 a8 u x q a c d H av K Z ah w=> ?_⟩;obtain ⟨n,rfl⟩: ∃aM,n=aM+1+1:=⟨n-2,ab⟩;obtain ⟨g,aY,af,z⟩:=h ad (n+1) ab ab u x a c d H av K Z ah w;have ar:=I;obtain ⟨aK,aP,aC,aE,aF,aG,aW,M,bc,bb,rfl,aB,aA⟩:=ar.t;refine hg (aL.at (m:=50) rfl rfl rfl rfl rfl (by simp only [aO];rfl) rfl rfl ?_);generalize ba:fx kN jv rop j3 a c d [.int .i64 aK,.int .i64 aP,.str aC aE,.str aF aG,aW,M] u=L at*;simp only [c_,cn] at z|-;have Y:F (.A [[x]] q) [[x]]:= .inr ⟨_,rfl⟩;simp -implicitDefEqProofs only [go_sem,aB.J,aA.J,aU];have hF:=trivial;generalize aZ:a1 _ _ _ _ _ _ _ _ _ _=S;revert S;refine cv [4,6,7,32] (λs=> [(9,s.1)]) (λs=>s.2) (λo s=> ∃e,P 103 1 H s.2 s.1 e/\(o=0->e= []/\s.2=H)/\(1<=o->(L=none/\e= [])\/(∃y g,L=some y/\iA g y/\e= [[g]]))) 1 (.V,H) ⟨[],P.new _ _ w,λ_=>⟨rfl,rfl⟩,λag=>absurd ag al⟩ ?_ ?_
 . rintro o ⟨N,p⟩ tm a6 ⟨e,f,W,-⟩ hF;obtain rfl:o=0:=ab;obtain ⟨rfl,B⟩:=W rfl;simp only at B f hF|-;subst B;have ai:=Y.a_ (k:=1) (j:=0) (r:= [x]) rfl rfl;simp -implicitDefEqProofs only [go_sem,hF,ai,K.A.O,z];rcases af with ⟨rfl,rfl,rfl⟩|⟨aj,l,rfl⟩
   . simp -implicitDefEqProofs only [go_sem];exact au.next (N,p) rfl ⟨[],f,λag=>absurd ag al,λ_=> .inl ⟨rfl,rfl⟩⟩ dm
   . have ae:=Gl l.A p;have D:Rows 1 [[g]]:=λM an=>by rw [bs.1 an];exact ⟨rfl,λv aw=>by rw [bs.1 aw];exact ⟨l.A.J,l.A.aI 19⟩⟩
     obtain ⟨aS,Q,T,C,-⟩:=f.app (k:=1) (E:=G) (t:=100) (b:=24) (i:=t103) aq aq rfl rfl al al (x:= .A [[g]] true) (aQ:= [_]) (dR (.inr ⟨_,rfl⟩) D.len) D og;simp -implicitDefEqProofs only [go_sem,hF,l.A.O,ae,bH,f.O,T,C.O];exact au.next (aS,Q) rfl ⟨_,C,λag=>absurd ag al,λ_=> .inr ⟨_,g,aj,l,rfl⟩⟩ dm
 . rintro ⟨N,p⟩ tm ⟨e,f,-,h⟩ hF;simp only at f hF h;have ao:e.length<=1:=by rcases h (aT _) with ⟨-,rfl⟩|⟨_,_,-,-,rfl⟩<;>simp
   obtain ⟨aX,⟨bf,aR,bd⟩,U⟩:=VA (ad:=ad) (n:=n) f ao;simp -implicitDefEqProofs only [go_sem,hF,f.O,U,(fW e).O,(fW e).aD,dX];refine ak.mk ?_ ((fW e).aI 19) w aR;rcases h (aT _) with ⟨rfl,rfl⟩|⟨y,aV,rfl,ay,rfl⟩
   . rfl
   . exact ⟨aV,false,ay,rfl⟩
end
def mb (ax:aa) (p t:List aa) (D:Sub->Prop) (st:Sub->Option Sub):Prop:=bo λg h=> ∀(a:Sub) (e:aa) (f:Bool) b,c7 a->iA e a->D a->Tidy b->
    ∃d,ka (st a) d/\ ∀c,az G (X G R g h) 84 [.agg [ax],.A [[e]] f,.agg p,.agg t] b c= .ok d c b
def fZ (S:Nat->Sub->Option Sub):Nat->Sub->Option Sub
 |0,a=>some a
 |b+1,a=>(fZ S b a).bind (S b)
theorem LK {S:Nat->Sub->Option Sub} {i:Nat} {u:Sub} (ag:fZ S i u=none): ∀m,i<=m->fZ S m u=none
 |0,a=>by grind
 | m+1,a=>by
   by_cases b:i=m+1
   . grind
   . show (fZ S m u).bind (S m)=none;rw [LK ag m ab];rfl
def ka.aI {o v} (ag:ka o v) (d:Nat):D (d+1) v=true/\aD v=true/\ ∀t,O t v=v:=by
 cases o with
 |none=>cases ag;exact ⟨rfl,rfl,λ_=>rfl⟩
 |some b=>obtain ⟨c,a,-,rfl⟩:=ag;exact ⟨rfl,rfl,λ_=>rfl⟩
def xL (x:aa) (n:Nat):aa:=match x with
 | .A b a=> .A (b.drop n) a
 |v=>v
def BB {x:aa} {rows:Y} (ag:F x rows) (n:Nat):F (xL x n) (rows.drop n):=by
 rcases ag with ⟨rfl,rfl⟩|⟨a,rfl⟩
 . exact .inl ⟨rfl,ai⟩
 . exact .inr ⟨a,rfl⟩
def Z3 {k:Nat} {x:aa} {rows:Y} (ag:F x rows) (e: ∀r∈rows,r.length=k) {n:Nat} (d:n<=rows.length):fG k x (some (.int .i64 (n:Nat))) none none=some (xL x n):=by
 rcases ag with ⟨rfl,rfl⟩|⟨a,rfl⟩
 . obtain rfl:n=0:=ah;rfl
 . show (match r7 k rows with|true=>qJ rows a (some (.int .i64 (n:Nat))) none none|false=>none)=_;rw [Lv e];show (if n<=rows.length/\rows.length<=rows.length then w ((rows.drop n).take (rows.length-n)) λr=>gC (a&&Nat.beq rows.length rows.length) λb=>some (aa.A r b) else none)=_;rw [if_pos ⟨d,aT _⟩];have c:(rows.drop n).take (rows.length-n)=rows.drop n:=fT ai;simp only [bu,mz,c,xL];simp
def j2 (y:aa) (n:Nat):List aa:= [.int .i64 7,.int .i64 0,.str 0 0,.str 0 0,xL y n,.V]
section
variable {ax:aa} {s:List aa} {kN jv rop j3 aJ:Y} (ag:dO ax s kN jv rop j3 aJ)
include ag
theorem VF {kp np:Int} {pl pm n8 n9:Nat} {py m0:aa} {pk fk:Y} (aB:kp=5\/kp=7) (z:F py pk) (I:F m0 fk) (bH: ∀r∈pk,aN r) (bJ: ∀r∈fk,aN r) (ca:pk.length<1048560) (cc:fk.length<=1)
  {kt mV:Int} {tl tm ul nb:Nat} {ty tz:aa} {tk uz:Y} (hty:F ty tk) (bO:F tz uz) (a7: ∀r∈tk,aN r)
  (D:Nat->Sub->Prop) (S:Nat->Sub->Option Sub) (bx: ∀i p q,pk[i]? =some p->tk[i]? =some q->mb ax p q (D i) (S i)) (bw: ∀r,fk[0]? =some r->pk.length<=tk.length->mb ax r (j2 ty pk.length) (D pk.length) (S pk.length))
  (br: ∀i u d,i<pk.length+fk.length->c7 u->D i u->S i u=some d->c7 d/\D (i+1) d):
  bo λad n=> ∀(u:Sub) (x:aa) (w:Bool) H,c7 u->iA x u->D 0 u->Tidy H->
   ∃ v,ka (if kp=kt/\(pl=tl/\pm=tm) then (if pk.length<=tk.length/\(fk.length≠0\/pk.length=tk.length) then fZ S (pk.length+fk.length) u else none) else none) v/\
     ∀bf,az G (X G R ad n) 160 [.agg [ax],.A [[x]] w,.agg [.int .i64 kp,.int .i64 np,.str pl pm,.str n8 n9,py,m0],.agg [.int .i64 kt,.int .i64 mV,.str tl tm,.str ul nb,ty,tz]] H bf= .ok v bf H:=by
 obtain ⟨cl,b1,cm,cn,cp,cq⟩:=ag.val;obtain ⟨bW,bn⟩:=dE (l:=List.range pk.length) (Q:=λi ad n=> ∀p q,pk[i]? =some p->tk[i]? =some q-> ∀(u:Sub) (x:aa) (w:Bool) H,c7 u->iA x u->D i u->Tidy H->
   ∃v,ka (S i u) v/\ ∀tm,az G (X G R ad n) 84 [.agg [ax],.A [[x]] w,.agg p,.agg q] H tm= .ok v tm H) λi _=>by
  cases bG:pk[i]? with
  |none=>exact ⟨0,λ_ _ _ _ _ _ e=>by cases e⟩
  | some p=>
    cases bK:tk[i]? with
    |none=>exact ⟨0,λ_ _ _ _ _ _ _ e=>by cases e⟩
    | some q=>
      obtain ⟨aK,aB⟩:=bx i p q bG bK;exact ⟨aK,de⟩
 obtain ⟨bX,bq⟩:bo λad n=> ∀r,fk[0]? =some r->pk.length<=tk.length-> ∀(u:Sub) (x:aa) (w:Bool) H,c7 u->iA x u->D pk.length u->Tidy H->
   ∃v,ka (S pk.length u) v/\ ∀tm,az G (X G R ad n) 84 [.agg [ax],.A [[x]] w,.agg r,.agg (j2 ty pk.length)] H tm= .ok v tm H:=by
  cases o:fk[0]? with
  |none=>exact ⟨0,λ_ _ _ _ _ e=>by cases e⟩
  | some r=>
    by_cases K:pk.length<=tk.length
    . obtain ⟨aK,aB⟩:=bw r o K;exact ⟨aK,λad n bk bl ck P _=>by cases P;exact aB ad n bk bl⟩
    . exact ⟨0,ab⟩
 refine ⟨bW+bX+pk.length+10,λad n b8 b9 u x w H bP bV bs Z=> ?_⟩;obtain ⟨n,rfl⟩:=bY n;generalize E:(if kp=kt/\(pl=tl/\pm=tm) then (if pk.length<=tk.length/\(fk.length≠0\/pk.length=tk.length) then fZ S (pk.length+fk.length) u else none) else none:Option Sub)=N;refine hg (aL.at (m:=92) rfl rfl rfl rfl rfl (by simp only [aO];rfl) rfl rfl ?_);have a6:=I.len;generalize cd:fk.length=bj at*;have aR:N=none->ak (ka N) bQ H (.ret .V H):=λP=>ak.mk (by rw [P];rfl) rfl Z (U.refl _);have bC:(kp==8)=false:=ah;refine ak.bM (λa c=>H=c/\aM 96 [(1,.A [[x]] w),(4,.W 0 [ax]),(6,.W 0 [.int .i64 kp,.int .i64 np,.str pl pm,.str n8 n9,py,m0]),(7,.W 0 [.int .i64 kt,.int .i64 mV,.str tl tm,.str ul nb,ty,tz]),(11,.av []),(13,.av [])] a) ?_ ?_
 . simp only [go_sem,z.J,I.J,hty.J,bO.J,b1];exact an.mk ⟨rfl,dC⟩
 rintro a _ ⟨rfl,hF⟩;refine ak.bF hF (λg a c=>(H=c/\kp=kt/\(pl=tl/\pm=tm))/\g a) ?_ ?_
 . simp only [go_sem,hF]
   iterate 2 all_goals try (refine an.aE ?_ ?_<;>intro aq<;>simp only [go_sem,hF,aq,bC])
   all_goals first
    |exact an.mk ⟨ah,ay⟩
    |exact an.stop rfl (by simp only [go_sem,hF];exact aR (by rw [<-E];exact if_neg (by simp at*;omega)))
 clear hF;rintro a _ ⟨⟨rfl,bD,bI⟩,hF⟩;rw [if_pos ⟨bD,bI⟩] at E;refine ak.bF hF (λg a c=>H=c/\aM 96 [(9,.int .i64 (pk.length:Nat))] a/\g a) ?_ ?_
 . simp only [go_sem,hF,z.O,z.len];exact an.mk ⟨rfl,ay⟩
 clear hF;rintro a _ ⟨rfl,hF⟩;refine ak.kp [1,4,6,7,11,13] (λg a c=>(H=c/\pk.length<=tk.length/\(bj≠0\/pk.length=tk.length))/\M a 9= .int .i64 (pk.length:Nat)/\g a) ?_ ?_
 . simp only [go_sem,hF,hty.O,hty.len]
   iterate 4 all_goals try (refine an.aE ?_ ?_<;>intro aq<;>simp only [go_sem,hF,aq,hty.O,hty.len,I.O,a6])
   all_goals first
    |exact an.mk ⟨ah,ay⟩
    |exact an.stop rfl (by simp only [go_sem,hF];exact aR (by rw [<-E];exact if_neg (by simp at*;omega)))
 clear hF;rintro a _ ⟨⟨rfl,K,bN⟩,hF⟩;rw [if_pos ⟨K,bN⟩] at E;refine ak.kp [4,6,7,9,13] (λg a c=>(H=c/\ ∃f d h,fZ S pk.length u=some d/\c7 d/\iA f d/\D pk.length d/\M a 1= .A [[f]] h)/\g a) ?_ ?_
 . simp only [go_sem,hF,z.O,z.len];generalize bu:a1 _ _ _ _ _ _ _ _ _ _=ae;revert ae;refine cv [4,6,7,9,13,58] (λs=> [(1,.A [[s.1]] s.2.2)]) (λ_=>H) (λb s=>fZ S b u=some s.2.1/\c7 s.2.1/\iA s.1 s.2.1/\D b s.2.1) pk.length (x,u,w) ⟨rfl,bP,bV,bs⟩ ?_ ?_
   . clear hF;rintro b ⟨f,d,h⟩ a aY ⟨o,B,C,y⟩ hF;simp only at o B C y hF;obtain ⟨p,aC⟩:=bA aY;obtain ⟨q,aF⟩: ∃q,tk[b]? =some q:=ah;obtain ⟨v,e,bm⟩:=bn ad n ab ab b ah p q aC aF d f h H B C y Z;have a8:=bH p (aV aC);have ba:=a7 q (aV aF);have aD:=z.a_ (k:=6) aC a8.len;have bL:=hty.a_ (k:=6) aF ba.len;obtain ⟨aP,aQ,af,aj,al,ao,aS,aT,bZ,b0,rfl,ar,aw⟩:=a8.t;obtain ⟨cf,cj,b2,b3,b4,b5,cr,ct,cg,ch,rfl,b6,b7⟩:=ba.t;refine au.bM (λa c=>H=c/\ ∃bc,aM 96 [(60,.int .i64 (b:Nat)),(59,.int .i64 (pk.length:Nat)),(1,.A [[f]] h),(4,.W 0 [ax]),(6,.W 0 [.int .i64 kp,.int .i64 np,.str pl pm,.str n8 n9,py,m0]),(7,.W 0 [.int .i64 kt,.int .i64 mV,.str tl tm,.str ul nb,ty,tz]),(9,.int .i64 (pk.length:Nat)),(13,.av []),(58,py),(10,.int .i64 (b:Nat)),(11,.W bc [.int .i64 aP,.int .i64 aQ,.str af aj,.str al ao,aS,aT])] a) ?_ ?_
     . simp only [go_sem,hF,z.O,aD,ar.J,aw.J];exact an.mk ⟨rfl,_,by simp only [go_sem,hF];trivial⟩
     clear hF;rintro a _ ⟨rfl,bc,hF⟩;obtain ⟨-,aH,L⟩:=e.aI 0;have bB:S b d=none->N=none:=λP=>by rw [<-E];exact LK (i:=b+1) (by show (fZ S b u).bind (S b)=none;grind) _ ab
     refine au.kp [60,59,4,6,7,9,13,58] (λg a c=>H=c/\M a 1=v/\g a) ?_ ?_
     . simp only [go_sem,hF,hty.O,bL,bm,L];exact an.mk ⟨rfl,ay⟩
     clear hF;rintro a _ ⟨rfl,hF⟩
     cases T:S b d with
     | none=>
       rw [T] at e;cases e;simp only [go_sem,hF];exact au.stop rfl (by simp only [go_sem];exact an.stop rfl (by simp only [go_sem,hF];exact aR (bB T)))
     | some bg=>
       rw [T] at e;obtain ⟨bh,aU,bU,rfl⟩:=e;have bE:iL (.A [[bh]] aU)=some (.int .i64 1):=rfl;simp only [go_sem,hF,bE];obtain ⟨bR,bt⟩:=br b d bg ab B y T;exact au.next (bh,bg,aU) rfl ⟨by show (fZ S b u).bind (S b)=_;grind,bR,bU,bt⟩ ay
   . rintro ⟨f,d,h⟩ a ⟨o,B,C,y⟩ hF;simp only at o B C y hF;simp only [go_sem];exact an.mk ah
 clear hF;rintro a _ ⟨⟨rfl,f,d,h,o,B,C,y,aX⟩,hF⟩;refine ak.bM (λa c=> ∃v,(H=c/\ka N v)/\M a 1=v/\a.length=96) ?_ ?_
 . simp only [go_sem,hF,I.O,a6];generalize bu:a1 _ _ _ _ _ _ _ _ _ _=ae;revert ae;refine hz _ _ _ _ (σ:=aa) (λs=> [(1,s),(4,.W 0 [ax]),(7,.W 0 [.int .i64 kt,.int .i64 mV,.str tl tm,.str ul nb,ty,tz]),(9,.int .i64 (pk.length:Nat)),(79,m0)]) (λ_=>H) (λb v=>ka (fZ S (pk.length+b) u) v/\(b=0->v= .A [[f]] h)) 96 bj (.A [[f]] h) rfl rfl (λ_=>rfl) rfl ⟨by rw [vU,o];exact ⟨f,h,C,rfl⟩,λ_=>rfl⟩ (by simp only [go_sem,hF,aX]) ab ab ?_ ?_
   . clear hF aX;rintro b v a aY ⟨cb,e⟩ hF;obtain rfl:b=0:=ab;obtain rfl:=e rfl;obtain ⟨r,aG⟩: ∃r,fk[0]? =some r:=⟨fk[0]'ab,ai⟩;obtain ⟨v,bS,aW⟩:=bq ad n ab ab r aG K d f h H B C y Z;have bb:=bJ r (aV aG);have aD:=I.a_ (k:=6) (j:=0) aG bb.len;have bz:=Z3 hty (λr o=>(a7 r o).len) K;have aA:=BB hty pk.length;obtain ⟨aP,aQ,af,aj,al,ao,aS,aT,bZ,b0,rfl,ar,aw⟩:=bb.t;obtain ⟨-,aH,L⟩:=bS.aI 0;simp only [j2] at aW;refine au.kp [80,4,7,9,79] (λg a c=>H=c/\ ∃bd,M a 81= .int .i64 0/\M a 1= .A [[f]] h/\M a 13= .W bd [.int .i64 aP,.int .i64 aQ,.str af aj,.str al ao,aS,aT]/\g a) ?_ ?_
     . simp only [go_sem,hF,I.O,aD,ar.J,aw.J];exact an.mk ⟨rfl,_,by simp only [go_sem,hF];exact ⟨rfl,rfl⟩⟩
     clear hF;rintro a _ ⟨rfl,bd,hF⟩;simp only [go_sem,hF,hty.O,bz,aA.O,aA.J,aA.cells,aW,L];refine au.next v rfl ⟨?_,ab⟩ (by simp only [go_sem,hF];rfl);show ka ((fZ S pk.length u).bind (S pk.length)) v
     grind
   . rintro v a ⟨e,-⟩ hF;have aZ:=hF.len;rw [E] at e;simp only [go_sem];exact an.mk ah
 rintro a _ ⟨v,⟨rfl,e⟩,bp,aZ⟩;obtain ⟨bT,aH,L⟩:=e.aI 19;simp only [go_sem,bp,L,aH,dX,aZ];exact ak.mk e bT Z (U.refl _)
theorem DA {kp np:Int} {pl pm n8 n9:Nat} {py m0:aa} {pk fk:Y} (c:kp=5\/kp=7) (d:F py pk) (e:F m0 fk) (x: ∀r∈pk,aN r) (z: ∀r∈fk,aN r) (y:pk.length<1048560) (I:fk.length<=1)
  {kt mV:Int} {tl tm ul nb:Nat} {ty tz:aa} {tk uz:Y} (hty:F ty tk) (f:F tz uz) (A: ∀r∈tk,aN r)
  (D:Nat->Sub->Prop) (S:Nat->Sub->Option Sub) (v: ∀i p q,pk[i]? =some p->tk[i]? =some q->mb ax p q (D i) (S i)) (t: ∀r,fk[0]? =some r->pk.length<=tk.length->mb ax r (j2 ty pk.length) (D pk.length) (S pk.length))
  (n: ∀i u b,i<pk.length+fk.length->c7 u->D i u->S i u=some b->c7 b/\D (i+1) b):
  mb ax [.int .i64 kp,.int .i64 np,.str pl pm,.str n8 n9,py,m0] [.int .i64 kt,.int .i64 mV,.str tl tm,.str ul nb,ty,tz] (D 0) (λu=>if kp=kt/\(pl=tl/\pm=tm) then (if pk.length<=tk.length/\(fk.length≠0\/pk.length=tk.length) then fZ S (pk.length+fk.length) u else none) else none):=by
 obtain ⟨T,M,V,W,X,Z⟩:=ag.val;obtain ⟨K,w⟩:=VF ag (np:=np) (n8:=n8) (n9:=n9) (mV:=mV) (ul:=ul) (nb:=nb) (kt:=kt) (pl:=pl) (pm:=pm) (tl:=tl) (tm:=tm) c d e x z y I hty f A D S v t n;refine ⟨K+1,λL a P Q u N k j B H o h=> ?_⟩;obtain ⟨a,rfl⟩:=bY a;obtain ⟨R,g,l⟩:=w L a ab ab u N k j B H o h;obtain ⟨C,E,G⟩:=g.aI 19;simp only;generalize (if kp=kt/\(pl=tl/\pm=tm) then (if pk.length<=tk.length/\(fk.length≠0\/pk.length=tk.length) then fZ S (pk.length+fk.length) u else none) else none:Option Sub)=O at*;refine hg (aL.at (m:=50) rfl rfl rfl rfl rfl (by simp only [aO];rfl) rfl rfl ?_);rcases c with rfl|rfl
 all_goals
  simp only [go_sem,d.J,e.J,hty.J,f.J,M,l,G,E,dX];exact ak.mk g C h (U.refl _)
end
theorem Il {u:Sub} {a:Nat} (ag: ∀p∈u,p.1≠a):h2 u a=false:=by unfold h2;rw [DU ag];rfl
def KU {u:Sub} {a:Nat} (ag: ∀p∈u,p.1<a):gl u a=u.length:=by
 unfold gl;rw [CV.2 λp b=>by simpa using ag p b]
theorem KV {u:Sub} {a:Nat} (ag: ∀p∈u,a<p.1):gl u a=0:=by unfold gl;rw [yJ.2 λp b=>by have:=ag p b;simp;omega];rfl
def x_ {u:Sub} {a:Nat} (ag: ∀p∈u,p.1<a):oq a u:=⟨Il λp b=>Nat.ne_of_lt (ag p b),.inl (KU ag)⟩
def s7 {u:Sub} {a:Nat} (ag: ∀p∈u,a<p.1):oq a u:=⟨Il λp b=>Nat.ne_of_gt (ag p b),.inr (KV ag)⟩
def IP {u:Sub} {a:Nat} {t} (ag: ∀p∈u,p.1<a):gj u a t=u++ [(a,t)]:=by unfold gj;rw [KU ag];simp
def IQ {u:Sub} {a:Nat} {t} (ag: ∀p∈u,a<p.1):gj u a t=(a,t)::u:=by unfold gj;rw [KV ag];simp
def pr {a c d:Nat} (f:T c d) (g:c<4611686018427387904) (e:a<10):aN (c_ a c d):=by
 have h: ∀a<10,(cz a).2<256^(cz a).1/\(cz a).1<3:=by decide+kernel
 obtain ⟨b,j⟩:=h a e;exact .mk (ky:= []) (i:= []) ⟨rfl,b,f,ab,g,.inl ⟨rfl,rfl⟩,.inl ⟨rfl,rfl⟩,al,al⟩ (λ_ ag=>by cases ag) (λ_ ag=>by cases ag)
abbrev gS:=List (Nat×Nat×Nat)
def gv (L:gS):Y:=L.map λa=>c_ a.1 a.2.1 a.2.2
structure jG (L:gS):Prop where
  st:L.Pairwise (·.1< ·.1)
  lt: ∀q∈L,2<=q.1/\q.1<10
  wf: ∀q∈L,T q.2.1 q.2.2/\q.2.1<4611686018427387904
def jG.len {L} (ag:jG L):L.length<=10:=by
 have j: ∀(d:Nat) (c:gS),c.Pairwise (·.1< ·.1)->(∀a∈c,d<=a.1/\a.1<10)->c.length+d<=10\/c= []:=by
  intro d c
  induction c generalizing d with
  |nil=>intro _ _;exact .inr rfl
  | cons e m i=>
    intro b f;obtain ⟨g,h⟩:=hq.1 b;obtain ⟨k,l⟩:=f e (dF ..);refine .inl ?_;rcases i (e.1+1) h λa b=>⟨g a b,(f a (h8 _ b)).2⟩ with ag|rfl
    . simp only [cl];omega
    . simp only [cl,h5];omega
 rcases j 0 L ag.st λa b=>⟨fV _,(ag.lt a b).2⟩ with ag|rfl
 . omega
 . simp
def k2 (L:gS) (b:Y):Sub:=(L.zip b).map λa=>(a.1.1,a.2)
section
variable (kN jv rop j3:Y)
def pj (L:gS) (c:Y) (i:Nat) (u:Sub):Option Sub:=match L[i]?,c[i]? with
 |some a,some b=>fx kN jv rop j3 a.1 a.2.1 a.2.2 b u
 |_,_=>none
def ly (l m:Nat) (L:gS) (t:List aa) (u:Sub):Option Sub:=match t with
 | [.int _ b,_,.str c d,_,a,_]=>if (5:Int)=b/\(l=c/\m=d) then (if L.length=(f a).length then fZ (pj kN jv rop j3 L (f a)) L.length u else none) else none
 |_=>none
def AB (L:gS) (i:Nat) (u:Sub):Prop:= ∀b∈u,∀a,L[i]? =some a->b.1<a.1
end
def LL {kN jv rop j3:Y} {L:gS} (l:jG L) {b:Y} {u:Sub} (n: ∀p∈u,∀q∈L,p.1<q.1): ∀(i:Nat) {f},i<=L.length->fZ (pj kN jv rop j3 L b) i u=some f->f=u++(k2 L b).take i/\i<=b.length
 |0,f,_,ag=>by cases ag;exact ⟨ai,fV _⟩
 | i + 1, f, D, ag=>by
   cases g:fZ (pj kN jv rop j3 L b) i u with
   |none=>simp only [fZ,g,Option.bind_none] at ag;cases ag
   | some B =>
     simp only [fZ,g,nT] at ag;obtain ⟨k,C⟩:=LL l n i ab g;unfold pj at ag
     cases d:L[i]? with
     |none=>rw [d] at ag;cases ag
     | some q =>
       cases e:b[i]? with
       |none=>rw [d,e] at ag;cases ag
       | some o =>
         rw [d,e] at ag;simp only [fx] at ag;split at ag
         . simp only [N] at ag;have y:(k2 L b)[i]? =some (q.1,o):=by unfold k2;rw [hO,(ahO (z:=(q,o))).2 ⟨d,e⟩];rfl
           have A: ∀p∈B,p.1<q.1:=λp c=>by
            rw [k] at c;rcases cr.1 c with c|c
            . exact n p c q (aV d)
            . obtain ⟨j,a⟩:=jo c;have m:j<i:=by have:=(e6.1 a).1;rw [h6] at this;omega
              rw [List.getElem?_take_of_lt m] at a;unfold k2 at a;rw [hO] at a
              cases h:(L.zip b)[j]? with
              |none=>rw [h] at a;cases a
              | some E=>
                rw [h] at a;simp only [jV,N] at a;obtain ⟨x,-⟩:=ahO.1 h;rw [<-a];obtain ⟨r,t⟩:=e6.1 x;obtain ⟨v,w⟩:=e6.1 d;have:=qj.1 l.st j i r v m;rw [t,w] at this;exact this
           rw [IP A] at ag;refine ⟨?_,by have:=(e6.1 e).1;omega⟩;rw [<-ag,k,od y,fu]
         . cases ag
def zW {kN jv rop j3:Y} {l m:Nat} {L:gS} (c:jG L) {t:List aa} {u b:Sub} (h: ∀p∈u,∀q∈L,p.1<q.1) (ag:ly kN jv rop j3 l m L t u=some b):
    ∃k n w y z,t= [.int k 5,n,.str l m,w,y,z]/\L.length=(f y).length/\b=u++k2 L (f y):=by
 unfold ly at ag;split at ag
 . rename_i i k n j o w y z;split at ag
   . rename_i e;obtain ⟨rfl,rfl,rfl⟩:=e;split at ag
     . rename_i g;obtain ⟨a,-⟩:=LL c h _ (aT _) ag;have d:(k2 L (f y)).length<=L.length:=by unfold k2;rw [di,List.length_zip];omega
       rw [fT d] at a;exact ⟨_,_,_,_,_,rfl,g,a⟩
     . cases ag
   . cases ag
 . cases ag
section
variable {ax:aa} {s:List aa} {kN jv rop j3 aJ:Y} (ag:dO ax s kN jv rop j3 aJ)
include ag
theorem xM {a c d:Nat} (j:a<10) {t:List aa} (m:aN t) {D:Sub->Prop} (i: ∀u,c7 u->D u->oq a u):mb ax (c_ a c d) t D (fx kN jv rop j3 a c d t):=by obtain ⟨p,l⟩:=Vj ag m;exact ⟨p,λq r g h u v f e b o k n=>l q r g h u v f a c d e b o j (i u b k) n⟩
omit ag in
theorem se {a c d:Nat} (eO:a<10) {t:List aa} (lg:aN t) {u gr:Sub} (hu:c7 u) (cy:oq a u) (e:fx kN jv rop j3 a c d t u=some gr):c7 gr/\gr=gj u a t:=by
 unfold fx at e;split at e
 . cases e;exact ⟨hu.ins eO lg cy.1,rfl⟩
 . cases e
theorem Hb {l m:Nat} {L:gS} (n:jG L) {py:aa} (ah:F py (gv L)) {t:List aa} (aj:aN t):mb ax (cm l m py) t (λu=> ∀p∈u,∀q∈L,p.1<q.1) (ly kN jv rop j3 l m L t):=by
 have aD:=n.len;have M:(gv L).length=L.length:=di ..
 obtain ⟨x,P,y,z,S,T,Q,R,k,az,aq,C,aC⟩:=aj.ea;obtain ⟨rfl,K,ak⟩:=aq.c;have an: ∀G∈gv L,aN G:=λG E=>by obtain ⟨q,e,rfl⟩:=cd.1 E;exact pr (n.wf q e).1 (n.wf q e).2 (n.lt q e).2
 have H: ∀g u,c7 u->AB L g u-> ∀q,L[g]? =some q->oq q.1 u:=λg u o i q e=>x_ λp b=>i p b q e;have O:=DA ag (kp:=5) (np:=0) (pl:=l) (pm:=m) (n8:=0) (n9:=0) (py:=py) (m0:= .V) (pk:=gv L) (fk:= []) (kt:=x) (mV:=P) (tl:=y) (tm:=z) (ul:=S) (nb:=T) (ty:=Q) (tz:=R) (tk:=k) (uz:=az)
  (.inl rfl) ah (.inl ⟨rfl,rfl⟩) an (λ_ ag=>by cases ag) ab ai K ak C (AB L) (pj kN jv rop j3 L k) (λg p q b e=>by
   unfold gv at b;rw [hO] at b
   cases r:L[g]? with
   |none=>rw [r] at b;cases b
   | some f=>
     rw [r] at b;simp only [jV,N] at b;subst b;have j:=aV r;have:=xM ag (a:=f.1) (c:=f.2.1) (d:=f.2.2) (n.lt f j).2 (C q (aV e)) (D:=AB L g) λu o i=>H g u o i f r;have h:pj kN jv rop j3 L k g=fx kN jv rop j3 f.1 f.2.1 f.2.2 q:=by funext u;unfold pj;rw [r,e]
     rw [h];exact this) (λG E=>by simp at E) (λg u aE I o i h=>by
   simp only [h5,vU,M] at I;unfold pj at h;obtain ⟨f,j⟩:=bA I;rw [j] at h
   cases e:k[g]? with
   |none=>rw [e] at h;cases h
   | some q=>
     rw [e] at h;have au:=aV j;obtain ⟨A,B⟩:=se (n.lt f au).2 (C q (aV e)) o (H g u o i f j) h;refine ⟨A,λp b aB ar=> ?_⟩;rw [B,IP λp b=>i p b f j] at b;have J:f.1<aB.1:=by obtain ⟨W,X⟩:=e6.1 j;obtain ⟨Z,ad⟩:=e6.1 ar;have:=qj.1 n.st g (g+1) W Z ab;rw [X,ad] at this;exact this
     rcases cr.1 b with b|b
     . exact Nat.lt_trans (i p b f j) J
     . rw [bs.1 b];exact J)
 have h:(λu:Sub=>if (5:Int)=x/\(l=y/\m=z) then (if (gv L).length<=k.length/\(([]:Y).length≠0\/(gv L).length=k.length) then fZ (pj kN jv rop j3 L k) ((gv L).length+([]:Y).length) u else none) else none)=ly kN jv rop j3 l m L [.int .i64 x,.int .i64 P,.str y z,.str S T,Q,R]:=by
  funext u;simp only [ly,bm K,M,h5,vU];by_cases v:(5:Int)=x/\(l=y/\m=z)
  . rw [if_pos v,if_pos v];by_cases w:L.length=k.length
    . rw [if_pos w,if_pos ⟨ab,.inr w⟩]
    . rw [if_neg w,if_neg];rintro ⟨-,ag|ag⟩
      . exact ag rfl
      . exact w ag
  . rw [if_neg v,if_neg v]
 rw [h] at O;obtain ⟨av,af⟩:=O;refine ⟨av,λaw ay A B u aA ae U o ao i al=>af aw ay A B u aA ae U o ao (λp b q e=>i p b q (aV e)) al⟩
end
def hh (args:Y):gS:=args.mapIdx λa d=>match d with
 | [.str b c]=>(a+2,b,c)
 |_=>(a+2,0,0)
theorem Al {args:Y} (k:b8 args) (q:args.length<=8):jG (hh args)/\gv (hh args)=cp args:=by
 have l: ∀(a:Nat) b,args[a]? =some b-> ∃c d,b= [.str c d]/\(hh args)[a]? =some (a+2,c,d)/\T c d/\c<4611686018427387904:=λa b e=>by obtain ⟨c,d,rfl,g,j⟩:=k b ah;exact ⟨c,d,rfl,by unfold hh;grind,g,j⟩
 have r:(hh args).length=args.length:=C2;have t: ∀f∈hh args,∃a c d,f=(a+2,c,d)/\a<args.length/\T c d/\c<4611686018427387904:=λf h=>by
  obtain ⟨a,i⟩:=jo h;have o:=(e6.1 i).1;obtain ⟨b,e⟩: ∃b,args[a]? =some b:=de
  grind
 refine ⟨⟨qj.2 λa m i p n=> ?_,λf h=> ?_,λf h=> ?_⟩,?_⟩
 . obtain ⟨b,e⟩: ∃b,args[a]? =some b:=de;obtain ⟨v,u⟩: ∃b,args[m]? =some b:=ah
   grind
 . grind
 . grind
 . unfold gv cp;refine CT λa=> ?_;rw [hO,yO]
   cases e:args[a]? with
   | none=>
     grind
   | some b=>
     obtain ⟨c,d,rfl,g,-⟩:=l a b e;rw [g];rfl
def jG.erase {L} (ag:jG L) (j:Nat):jG (L.eraseIdx j):=⟨ag.st.sublist ah,λb a=>ag.lt b (tC a),λb a=>ag.wf b (tC a)⟩
def abO (L:gS) (j:Nat):gv (L.eraseIdx j)=(gv L).eraseIdx j:=by
 unfold gv
 induction L generalizing j with
 |nil=>rfl
 | cons a c b=>cases j with
   |zero=>rfl
   |succ j=>grind
def Lk {y:aa} {rows:Y} (a:F y rows) (c: ∀r∈rows,aN r) (b:rows.length<4611686018427387904) (n:Nat):aN (j2 y n):=
 .mk (ky:=rows.drop n) (i:= []) ⟨rfl,by unfold T;decide,by unfold T;decide,al,al,BB a n,.inl ⟨rfl,rfl⟩,ah,al⟩ ah ai
section
variable (kN jv rop j3:Y)
def sd (l m:Nat) (L:gS) (t:List aa) (u:Sub):Option Sub:=match t with
 | [.int _ b,_,.str d e,_,a,_]=>if (7:Int)=b/\(0=d/\0=e) then (match f a with
   |c::_=>(ly kN jv rop j3 l m L c u).bind (fx kN jv rop j3 0 4 1953720652 (j2 a 1))
   | []=>none) else none
 |_=>none
def sc (c d l m:Nat) (L:gS) (t:List aa) (u:Sub):Option Sub:=match t with
 | [.int _ b,_,.str g h,_,a,_]=>if (7:Int)=b/\(0=g/\0=h) then (match f a with
   |e::q'::_=>((fx kN jv rop j3 1 c d e u).bind (ly kN jv rop j3 l m L q')).bind (fx kN jv rop j3 0 4 1953720652 (j2 a 2))
   |_=>none) else none
 |_=>none
end
def xB (kN jv rop j3:Y) (c d l m:Nat) (L:gS) (ty:aa):Y->Nat->Sub->Option Sub
 |b::_,0,a=>fx kN jv rop j3 1 c d b a
 |_::b::_,1,a=>ly kN jv rop j3 l m L b a
 |_,2,a=>fx kN jv rop j3 0 4 1953720652 (j2 ty 2) a
 |_,_,_=>none
def wP:c7 []:=⟨ai,ai,ai⟩
def zX {kN jv rop j3:Y} {l m:Nat} {L:gS} (b:jG L) {t:List aa} (x:aN t) {u h:Sub} (f:c7 u) (y: ∀p∈u,∀q∈L,p.1<q.1) (e:ly kN jv rop j3 l m L t u=some h):c7 h/\ ∀p∈h,p∈u\/2<=p.1:=by
 obtain ⟨G,I,S,T,r,rfl,w,rfl⟩:=zW b y e;obtain ⟨H,J,K,M,Q,R,N,O,o,P,k,D,E⟩:=x.ea;have j:=k.eq;simp only [jn,and_true] at j;obtain ⟨-,-,-,-,rfl,-⟩:=j;rw [bm k.dh] at w|-;have i: ∀p∈k2 L o,∃q∈L,p.1=q.1/\p.2∈o:=λp a=>by unfold k2 at a;obtain ⟨r,n,rfl⟩:=cd.1 a;exact ⟨r.1,(C5 n).1,rfl,(C5 n).2⟩
 refine ⟨⟨rH.2 ⟨f.st,?_,λp a q F=> ?_⟩,λp a=> ?_,λp a=> ?_⟩,λp a=> ?_⟩
 . unfold k2;rw [List.pairwise_map];refine qj.2 λz A B C v=> ?_;simp only [List.getElem_zip];exact qj.1 b.st z A _ _ v
 . grind
 . rcases cr.1 a with a|a
   . exact f.lt p a
   . obtain ⟨g,d,c,-⟩:=i p a;rw [c];exact (b.lt g d).2
 . rcases cr.1 a with a|a
   . exact f.wt p a
   grind
 . rcases cr.1 a with a|a
   . grind
   . obtain ⟨g,d,c,-⟩:=i p a;rw [c];exact .inr (b.lt g d).1
def zH:F cM [c_ 0 4 1953720652]:= .inr ⟨true,rfl⟩
def rQ:T 4 1953720652/\4<4611686018427387904:=⟨by unfold T;decide,al⟩
section
variable {ax:aa} {s:List aa} {kN jv rop j3 aJ:Y} (ag:dO ax s kN jv rop j3 aJ)
include ag
theorem QR {l m:Nat} {L:gS} (h:jG L) (K:T l m/\l<4611686018427387904) {py:aa} (O:F py (gv L)) {t:List aa} (ad:aN t):mb ax (eX (.A [cm l m py] true) cM) t (λu=>u= []) (sd kN jv rop j3 l m L t):=by
 obtain ⟨o,R,q,r,V,W,v,U,g,ar,an,y,ay⟩:=ad.ea;obtain ⟨rfl,-,-,-,-,z,ae,ab,-⟩:=an;have az:=h.len;have aj: ∀G∈gv L,aN G:=λG n=>by obtain ⟨k,j,rfl⟩:=cd.1 n;exact pr (h.wf k j).1 (h.wf k j).2 (h.lt k j).2
 have aA:aN (cm l m py):= .mk (ky:=gv L) (i:= []) ⟨rfl,K.1,by unfold T;decide,K.2,al,O,.inl ⟨rfl,rfl⟩,by unfold gv;grind,al⟩ aj ai;have aB:aN (c_ 0 4 1953720652):=pr rQ.1 rQ.2 al;have P:=λC=>Lk z y ab C
 let H:Nat->Sub->Prop:=λe u=>match e with
  |0=>u= []
  |1=> ∀p∈u,0<p.1
  |_=>True
 let I:Nat->Sub->Option Sub:=λe u=>match e,g with
  |0,k::_=>ly kN jv rop j3 l m L k u
  |1,_=>fx kN jv rop j3 0 4 1953720652 (j2 v 1) u
  |_,_=>none
 have Q:=DA ag (kp:=7) (np:=0) (pl:=0) (pm:=0) (n8:=0) (n9:=0) (py:= .A [cm l m py] true) (m0:=cM) (pk:= [cm l m py]) (fk:= [c_ 0 4 1953720652]) (kt:=o) (mV:=R) (tl:=q) (tm:=r) (ul:=V) (nb:=W) (ty:=v) (tz:=U) (tk:=g) (uz:=ar)
  (.inr rfl) (.inr ⟨_,rfl⟩) zH ah ah ai ai z ae y H I (λe p k M j=>by
   obtain rfl:e=0:=ah;simp only [mM,N] at M;subst M
   cases g with
   |nil=>grind
   | cons E S=>
     simp only [mM,N] at j;subst j;obtain ⟨ao,Z⟩:=Hb ag (l:=l) (m:=m) h O (y E (dF ..));exact ⟨ao,λaq C w x u av Y X B ak b af=>Z aq C w x u av Y X B ak ah af⟩) (λG n _=>by
   simp only [mM,N] at n;subst n;exact xM ag (a:=0) (c:=4) (d:=1953720652) al (P 1) (D:=H 1) λu _ b=>s7 b) (λe u au aw B b f=>by
   match e with
   | 0 =>
     cases g with
     |nil=>cases f
     | cons E S=>
       have b:u= []:=b;subst b;obtain ⟨w,x⟩:=zX (u:= []) h ah wP ai f
       grind
   | 1=>
     have f:fx kN jv rop j3 0 4 1953720652 (j2 v 1) u=some au:=f;have b: ∀p∈u,0<p.1:=b;obtain ⟨w,x⟩:=se (a:=0) al (P 1) B (s7 b) f
     grind
   |e+2=>grind)
 have f:(λu:Sub=>if (7:Int)=o/\(0=q/\0=r) then (if [cm l m py].length<=g.length/\([c_ 0 4 1953720652].length≠0\/ [cm l m py].length=g.length) then fZ I ([cm l m py].length+ [c_ 0 4 1953720652].length) u else none) else none)=sd kN jv rop j3 l m L [.int .i64 o,.int .i64 R,.str q r,.str V W,v,U]:=by
  funext u;simp only [sd,bm z,cl,h5];by_cases J:(7:Int)=o/\(0=q/\0=r)
  . rw [if_pos J,if_pos J]
    cases g with
    |nil=>simp
    | cons E S=>
      rw [if_pos ⟨ai,.inl al⟩];simp only [fZ,nT];rfl
  grind
 rw [f] at Q;exact Q
theorem QO {c d l m:Nat} {L:gS} (p:jG L) (w:T c d/\c<4611686018427387904) (P:T l m/\l<4611686018427387904) {py:aa} (Q:F py (gv L)) {t:List aa} (aj:aN t):mb ax (eX (.A [c_ 1 c d,cm l m py] true) cM) t (λu=>u= []) (sc kN jv rop j3 c d l m L t):=by
 obtain ⟨B,U,E,G,W,X,o,V,e,aw,ar,H,aB⟩:=aj.ea;obtain ⟨rfl,-,-,-,-,I,ak,ae,-⟩:=ar;have aC:=p.len;have ao: ∀M∈gv L,aN M:=λM y=>by obtain ⟨n,k,rfl⟩:=cd.1 y;exact pr (p.wf n k).1 (p.wf n k).2 (p.lt n k).2
 have aD:aN (cm l m py):= .mk (ky:=gv L) (i:= []) ⟨rfl,P.1,by unfold T;decide,P.2,al,Q,.inl ⟨rfl,rfl⟩,by unfold gv;grind,al⟩ ao ai;have aE:aN (c_ 0 4 1953720652):=pr rQ.1 rQ.2 al;have aF:aN (c_ 1 c d):=pr w.1 w.2 al;have R:=λJ=>Lk I H ae J
 let x:Nat->Sub->Prop:=λq u=>match q with
  |0=>u= []
  |1=> ∀f∈u,f.1=1
  |2=> ∀f∈u,0<f.1
  |_=>True
 have O: ∀u:Sub,(∀f∈u,f.1=1)-> ∀f∈u,∀n∈L,f.1<n.1:=λu b f j n k=>by have r:=b f j;have v:=(p.lt n k).1;omega
 have S:=DA ag (kp:=7) (np:=0) (pl:=0) (pm:=0) (n8:=0) (n9:=0) (py:= .A [c_ 1 c d,cm l m py] true) (m0:=cM) (pk:= [c_ 1 c d,cm l m py]) (fk:= [c_ 0 4 1953720652]) (kt:=B) (mV:=U) (tl:=E) (tm:=G) (ul:=W) (nb:=X) (ty:=o) (tz:=V) (tk:=e) (uz:=aw)
  (.inr rfl) (.inr ⟨_,rfl⟩) zH ah ah ai ai I ak H x (xB kN jv rop j3 c d l m L o e) (λq f n j k=>by
   match q with
   | 0 =>
     cases e with
     |nil=>grind
     | cons C g=>
       simp only [mM,N] at j k;subst j k;exact xM ag (a:=1) (c:=c) (d:=d) al ah (D:=x 0) λu _ b=>by have b:u= []:=b;subst b;exact x_ ai
   | 1 =>
     cases e with
     |nil=>grind
     | cons C g=>
       cases g with
       |nil=>grind
       | cons K g=>
         simp only [mM,tA,N] at j k;subst j k;obtain ⟨au,ad⟩:=Hb ag (l:=l) (m:=m) p Q (H K ai);exact ⟨au,λav J r v u az Z Y z aq b an=>ad av J r v u az Z Y z aq (O u b) an⟩
   |q+2=>grind) (λM y _=>by
   simp only [mM,N] at y;subst y;have af:xB kN jv rop j3 c d l m L o e 2=fx kN jv rop j3 0 4 1953720652 (j2 o 2):=by
    funext u
    cases e with
    |nil=>rfl
    |cons n g=>cases g<;>rfl
   show mb ax _ _ (x 2) (xB kN jv rop j3 c d l m L o e 2);rw [af];exact xM ag (a:=0) (c:=4) (d:=1953720652) al (R 2) (D:=x 2) λu _ b=>s7 b) (λq u ay aA z b h=>by
   match q with
   | 0 =>
     cases e with
     |nil=>cases h
     | cons C g=>
       have b:u= []:=b;subst b;have ab:oq 1 ([]:Sub):=x_ ai;obtain ⟨r,v⟩:=se (a:=1) al ah wP ab h;exact ⟨r,λf j=>by rw [v] at j;simp [gj,gl] at j;rw [j]⟩
   | 1 =>
     cases e with
     |nil=>cases h
     | cons C g=>
       cases g with
       |nil=>cases h
       | cons K g=>
         obtain ⟨r,v⟩:=zX p ah z (O u b) h
         grind
   | 2=>
     have h:fx kN jv rop j3 0 4 1953720652 (j2 o 2) u=some ay:=by
      cases e with
      |nil=>exact h
      |cons n g=>cases g<;>exact h
     have b: ∀f∈u,0<f.1:=b;obtain ⟨r,v⟩:=se (a:=0) al (R 2) z (s7 b) h
     grind
   |q+3=>grind)
 have h:(λu:Sub=>if (7:Int)=B/\(0=E/\0=G) then (if [c_ 1 c d,cm l m py].length<=e.length/\([c_ 0 4 1953720652].length≠0\/ [c_ 1 c d,cm l m py].length=e.length) then fZ (xB kN jv rop j3 c d l m L o e) ([c_ 1 c d,cm l m py].length+ [c_ 0 4 1953720652].length) u else none) else none)=sc kN jv rop j3 c d l m L [.int .i64 B,.int .i64 U,.str E G,.str W X,o,V]:=by
  funext u;simp only [sc,bm I,cl,h5];by_cases w:(7:Int)=B/\(0=E/\0=G)
  . rw [if_pos w,if_pos w]
    match e with
    | []=>simp
    | [_]=>simp
    | C::K::g=>
      rw [if_pos ⟨ai,.inl al⟩];simp only [fZ,nT];rfl
  grind
 rw [h] at S;exact S
theorem I3 {p t:List aa} {st:Sub->Option Sub} (k:aN p) (l:aN t) (i:mb ax p t (λu=>u= []) st):bo λad n=> ∀(a:Bool) H,Tidy H->
  ∃v,ka (st []) v/\ ∀tm,az G (X G R ad n) 50 [ax,.A [[.V]] a,.agg p,.agg t] H tm= .ok v tm H:=by
 obtain ⟨w,j⟩:=i;obtain ⟨x,y,z,B,ah,ai⟩:=ag.val;refine ⟨w+1,λad n O P a H c=> ?_⟩;obtain ⟨n,rfl⟩:=bY n;obtain ⟨v,b,d⟩:=j ad n ab ab [] .V a H wP (.inl ⟨rfl,rfl⟩) rfl c;obtain ⟨o,q,r⟩:=b.aI 19;generalize st []=C at*;obtain ⟨Q,ae,D,E,F,I,aj,an,T,Y,rfl,e,f⟩:=k.t;obtain ⟨S,af,K,L,M,N,al,ao,W,Z,rfl,g,h⟩:=l.t;refine hg (aL.at (m:=11) rfl rfl rfl rfl rfl (by simp only [aO,z];rfl) rfl rfl ?_);simp only [go_sem,e.J,f.J,g.J,h.J,x,y,B,d,r,q,dX];exact ak.mk b o c (U.refl _)
end
def DS (u:Sub) (l m:Nat):List aa:=((u.find? λa=>(cz a.1).1==l&&(cz a.1).2==m).map (·.2)).getD eb
def V8 {u:Sub} (h:c7 u) {a:Nat} (f:a<10):DS u (cz a).1 (cz a).2=(dw u a).getD eb:=by
 unfold DS dw;congr 2;have: ∀(c:Sub),(∀b∈c,b.1<10)->c.find? (λb=>(cz b.1).1==(cz a).1&&(cz b.1).2==(cz a).2)=c.find? λb=>b.1==a:=by
  intro c i
  induction c with
  |nil=>rfl
  | cons b c j=>
    have d:((cz b.1).1==(cz a).1&&(cz b.1).2==(cz a).2)=(b.1==a):=by
     have g:=i b (dF ..);by_cases e:b.1=a
     . grind
     . have:cz b.1≠cz a:=λd=>e (WQ _ g _ f d)
       grind
    grind
 exact this u h.lt
def cj (u:Sub):Nat->List aa->List aa
 |0,_=>eb
 | a+1,g=>match g with
   | [.int .i64 b,_,.str c d,_,h,i]=>if b=6 then DS u c d else [.int .i64 b,.int .i64 0,.str c d,.str 0 0,dk ((f h).map (cj u a)++(f i).flatMap λe=>f (M (cj u a e) 4)),.V]
   |_=>eb
def BN {u:Sub} (f:c7 u) {d a c e:Nat} (b:a<10):cj u (d+1) (c_ a c e)=(dw u a).getD eb:=by
 rw [<-V8 f b];unfold c_ cn;rw [cj];simp
def BM (u:Sub) (d:Nat) {k:Int} (n:Int) {l1 m1:Nat} (e g:Nat) {y z:aa} {ky i:Y} (a:k≠6) (b:F y ky) (c:F z i):cj u (d+1) [.int .i64 k,.int .i64 n,.str l1 m1,.str e g,y,z]= [.int .i64 k,.int .i64 0,.str l1 m1,.str 0 0,dk (ky.map (cj u d)++i.flatMap λq=>f (M (cj u d q) 4)),.V]:=by
 rw [<-bm b,<-bm c];exact if_neg a
def iB:Nat->List aa->Prop
 |0,_=>False
 |f+1,c=>(∃e h i,c=c_ e h i/\e<10/\aN c)\/ ∃g n j l k m o p a b,kX c g n j l k m o p a b/\g≠6/\a.length<=8/\b.length<=1/\(∀d∈a,iB f d)/\ ∀d∈b,iB f d
def iB.wt: ∀ {d r},iB d r->aN r
 |0,_,a=>a.elim
 | d+1,r,a=>by
   rcases a with ⟨_,_,_,-,-,a⟩|⟨g,n,j,l,k,m,o,p,h,i,a,-,-,-,e,f⟩
   . exact a
   . exact .mk a (λc b=>(e c b).wt) λc b=>(f c b).wt
def AN (u:Sub):Prop:= ∀a∈u,(f (M a.2 4)).length<=100000
def w7:aN eb:= .mk (ky:= []) (i:= []) ⟨rfl,by unfold T;decide,by unfold T;decide,al,al,.inl ⟨rfl,rfl⟩,.inl ⟨rfl,rfl⟩,al,al⟩ ai ai
def VS {r:List aa} (a:aN r): ∀x∈f (M r 4),aN x:=by
 obtain ⟨e,m,i,k,j,l,d,n,g,h,a,b,-⟩:=a.ea;obtain ⟨rfl,-,-,-,-,c,-⟩:=a;show∀x∈f d,aN x;rw [bm c];exact b
def rh {u:Sub} (h:c7 u) (j:AN u): ∀ {d r},d<1000->iB d r->aN (cj u d r)/\(f (M (cj u d r) 4)).length<=100000+8*d
 |0,_,_,e=>e.elim
 | d + 1,r,I,e=>by
   rcases e with ⟨m,F,G,rfl,t,J⟩|⟨K,B,L,P,z,A,W,X,q,k,e,v,O,y,s,n⟩
   . rw [BN h t]
     cases c:dw u m with
     |none=>exact ⟨w7,by show (f (M eb 4)).length<=_;exact fV _⟩
     | some U=>
       unfold dw at c
       cases o:u.find? λl=>l.1==m with
       |none=>grind
       | some l=>
         rw [o] at c;simp only [jV,N] at c;subst c;have p:=yS o;exact ⟨h.wt l p,by have:=j l p;grind⟩
   . obtain ⟨rfl,D,V,C,S,w,x,Q,R⟩:=e;rw [BM u d B z A v w x];have c:(q.map (cj u d)++k.flatMap λa=>f (M (cj u d a) 4)).length<=100000+8*(d+1):=by have:=nF (λa=>f (M (cj u d a) 4)) (100000+8*d) k λa g=>(rh h j ab (n a g)).2;rw [bD,di];have H:k.length*(100000+8*d)<=1*(100000+8*d):=fU _ y;omega
     refine ⟨.mk (ky:=q.map (cj u d)++k.flatMap λa=>f (M (cj u d a) 4)) (i:= []) ⟨rfl,D,by unfold T;decide,C,al,fW _,.inl ⟨rfl,rfl⟩,ab,al⟩ (λE b=> ?_) ai,?_⟩
     . rcases cr.1 b with b|b
       . obtain ⟨a,g,rfl⟩:=cd.1 b;exact (rh h j ab (s a g)).1
       . obtain ⟨a,g,b⟩:=fC.1 b;exact VS (rh h j ab (n a g)).1 E b
     . show (f (dk _)).length<=_;rw [bm (fW _)];exact c
theorem Vm (d:Nat):d<1000->bo λad n=> ∀r (u:Sub) x H,iB d r->c7 u->AN u->F x (u.map cg)->Tidy H-> ∀tm,az G (X G R ad n) 51 [.agg r,x] H tm= .ok (.agg (cj u d r)) tm H:=by
 induction d with
 |zero=>exact λ_=>⟨0,λ_ _ _ _ _ _ _ _ aG=>aG.elim⟩
 |succ d bC=>
 intro b1;obtain ⟨bE,aU⟩:=bC ab;obtain ⟨bG,bp⟩:=DD;refine ⟨bE+bG+20,λad n b3 b5 r u x H T w U L aP=> ?_⟩;obtain ⟨n,rfl⟩:=bY n;have a7:=(rh w U ab T).1;have: ∃e l,(e= .agg (cj u (d+1) r)/\l=H)/\ ∀tm,az G (X G R ad (n+1)) 51 [.agg r,x] H tm= .ok e tm l:=by
  refine dJ.at (m:=59) rfl rfl rfl rfl rfl (by simp only [aO,L.aD];rfl) rfl rfl ?_;rcases T with ⟨aS,bT,bU,rfl,aW,-⟩|⟨v,a8,B,C,bd,bf,bK,bh,h,o,aG,bx,cb,ca,bg,bI⟩
  . have N:=λtm=>bp ad n ab ab u x aS H w L aW aP tm;rw [BN w aW] at a7|-;generalize (dw u aS).getD eb=cl at*;obtain ⟨aw,ax,ae,af,ag,ak,aB,aC,ba,bc,rfl,Q,S⟩:=a7.t;simp only [c_,cn];simp only [go_sem,L.O,N,Q.J,S.J];refine dJ.mk (fi H _ _ ?_) ⟨rfl,ft ab⟩;show [aa.int .i64 aw,.int .i64 ax,.str ae af,.str ag ak,aB,aC].all (D 49)=true;simp only [aO,Q.aI 48,S.aI 48];rfl
  . have b7: ∀x∈h,iB d x:=bg;obtain ⟨rfl,cp,cq,ch,ck,Y,z,cd,cf⟩:=aG;rw [BM u d a8 bd bf bx Y z];have bz:(v==6)=false:=ah;have b2:(h.map (cj u d)).length=h.length:=ai;refine dJ.bM (λtm j=>H=j/\aM 61 [(1,x),(2,.W 0 [.int .i64 v,.int .i64 a8,.str B C,.str bd bf,bK,bh]),(4,.W 0 [.int .i64 0,.int .i64 0,.str 0 0,.str 0 0,.V,.V]),(7,.av []),(9,.av []),(11,.av [])] tm) ?_ ?_
    . simp only [go_sem,Y.J,z.J];exact an.mk ⟨rfl,dC⟩
    rintro tm _ ⟨rfl,hF⟩;refine dJ.bF hF (λq tm j=>H=j/\q tm) ?_ ?_
    . simp only [go_sem,hF,bz];exact an.mk ⟨rfl,ay⟩
    clear hF;rintro tm _ ⟨rfl,hF⟩;refine dJ.kp [1,2,4] (λq tm j=>H=j/\M tm 7= .W 0 [.int .i64 v,.int .i64 0,.str B C,.str 0 0,.V,.V]/\q tm) ?_ ?_
    . simp only [go_sem,hF];exact an.mk ⟨rfl,ay⟩
    clear hF;rintro tm _ ⟨rfl,hF⟩;refine dJ.kp [1,2,4] (λq tm j=> ∃e,P 35 6 H j e (h.map (cj u d))/\M tm 7= .W 0 [.int .i64 v,.int .i64 0,.str B C,.str 0 0,e,.V]/\q tm) ?_ ?_
    . simp only [go_sem,hF,Y.O,Y.len];generalize br:a1 _ _ _ _ _ _ _ _ _ _=aE;revert aE;refine cv [1,2,4,29] (λp=> [(7,.W 0 [.int .i64 v,.int .i64 0,.str B C,.str 0 0,p.1,.V])]) (λp=>p.2) (λc p=>P 35 6 H p.2 p.1 ((h.map (cj u d)).take c)) h.length (.V,H) (P.new _ _ aP) ?_ ?_
      . clear hF;rintro c ⟨e,l⟩ tm aJ g hF;simp only at g hF|-;obtain ⟨a,I⟩:=bA aJ;have aK:=aV I;have K:=bg a aK;have N:=λtm=>aU ad n ab ab a u x l K w U L g.tidy tm;have aN:=(rh w U ab K).1.row;have bt:=ki aN l;have bW:=k7 aN;have a6:Rows 6 [cj u d a]:=λbh z=>by rw [bs.1 z];exact aN
        obtain ⟨aR,Z,aF,s,-⟩:=g.app (k:=6) (E:=G) (t:=33) (b:=96) (i:=t35) Ah aq rfl rfl al al (x:= .A [cj u d a] true) (aQ:= [_]) (dR (.inr ⟨_,rfl⟩) a6.len) a6 ah;have bn:(h.map (cj u d))[c]? =some (cj u d a):=ah;rw [<-od bn] at s;generalize cj u d a=bV at*;have ar:=K.wt;have aL:=Y.a_ (k:=6) I ar.len;obtain ⟨aw,ax,ae,af,ag,ak,aB,aC,ba,bc,rfl,Q,S⟩:=ar.t;refine au.kp [31,30,1,2,4,29] (λq tm j=>l=j/\ ∃aA,M tm 7= .W 0 [.int .i64 v,.int .i64 0,.str B C,.str 0 0,e,.V]/\M tm 9= .W aA [.int .i64 aw,.int .i64 ax,.str ae af,.str ag ak,aB,aC]/\q tm) ?_ ?_
        . simp only [go_sem,hF,Y.O,aL,Q.J,S.J];exact an.mk ⟨rfl,_,by simp only [go_sem,hF];trivial⟩
        clear hF;rintro tm _ ⟨rfl,aA,hF⟩;simp only [go_sem,hF,L.O,N,bt,bH,g.O,aF,s.O,s.ok,s.cs];exact au.next (aR,Z) rfl s ay
      . rintro ⟨e,l⟩ tm g hF;simp only at g hF;rw [fT ab] at g;simp only [go_sem];exact an.mk ah
    clear hF;rintro tm l ⟨e,ao,hF⟩;have bu: ∀c,((o.take c).flatMap λa=>f (M (cj u d a) 4)).length<=110000:=λc=>by have:=nF (λa=>f (M (cj u d a) 4)) (100000+8*d) (o.take c) λa b6=>(rh w U ab ah).2;have bq:(o.take c).length<=1:=ah;have bZ:(o.take c).length*(100000+8*d)<=1*(100000+8*d):=fU _ bq;omega
    refine dJ.kp [4] (λq tm j=> ∃e,P 35 6 H j e (h.map (cj u d)++o.flatMap λa=>f (M (cj u d a) 4))/\M tm 7= .W 0 [.int .i64 v,.int .i64 0,.str B C,.str 0 0,e,.V]/\q tm) ?_ ?_
    . simp only [go_sem,hF,z.O,z.len];generalize br:a1 _ _ _ _ _ _ _ _ _ _=aE;revert aE;refine cv [1,4,45] (λp=> [(7,.W 0 [.int .i64 v,.int .i64 0,.str B C,.str 0 0,p.1,.V])]) (λp=>p.2) (λc p=>P 35 6 H p.2 p.1 (h.map (cj u d)++(o.take c).flatMap λa=>f (M (cj u d a) 4))) o.length (e,l) ah ?_ ?_
      . clear hF;rintro c ⟨e,l⟩ tm aJ g hF;simp only at g hF|-;obtain ⟨a,I⟩:=bA aJ;have aK:=aV I;have K:=bI a aK;have N:=λtm=>aU ad n ab ab a u x l K w U L g.tidy tm;have bw:=(rh w U ab K).1;have aY:=bu (c+1);rw [kR _ I,bD] at aY;have bj:h.map (cj u d)++(o.take (c+1)).flatMap (λa=>f (M (cj u d a) 4))=(h.map (cj u d)++(o.take c).flatMap λa=>f (M (cj u d a) 4))++f (M (cj u d a) 4):=by rw [kR _ I,fu]
        have b4:(h.map (cj u d)++(o.take c).flatMap λa=>f (M (cj u d a) 4)).length=h.length+((o.take c).flatMap λa=>f (M (cj u d a) 4)).length:=ai;generalize h.map (cj u d)++(o.take c).flatMap (λa=>f (M (cj u d a) 4))=bN at*;obtain ⟨b8,cc,bP,bQ,bR,bS,bL,cr,bb,b9,bB,aX,-⟩:=bw.ea;obtain ⟨aT,-,-,-,-,aH,b0,-,-⟩:=bB;have bl:f (M (cj u d a) 4)=bb:=by rw [aT];exact bm aH
        rw [bl] at aY bj;rw [aT] at N;obtain ⟨aR,Z,aF,s,-⟩:=g.app (k:=6) (E:=G) (t:=33) (b:=96) (i:=t35) Ah aq rfl rfl al al (x:=bL) (aQ:=bb) (dR aH λr T=>(aX r T).len) (λr T=>(aX r T).row) ab;have ar:=K.wt;have aL:=z.a_ (k:=6) I ar.len;obtain ⟨aw,ax,ae,af,ag,ak,aB,aC,ba,bc,rfl,Q,S⟩:=ar.t;refine au.kp [47,46,1,4,45] (λq tm j=>l=j/\ ∃aA,M tm 7= .W 0 [.int .i64 v,.int .i64 0,.str B C,.str 0 0,e,.V]/\M tm 11= .W aA [.int .i64 aw,.int .i64 ax,.str ae af,.str ag ak,aB,aC]/\q tm) ?_ ?_
        . simp only [go_sem,hF,z.O,aL,Q.J,S.J];exact an.mk ⟨rfl,_,by simp only [go_sem,hF];trivial⟩
        clear hF;rintro tm _ ⟨rfl,aA,hF⟩;simp only [go_sem,hF,L.O,N,aH.O,bH,g.O,aF,s.O,s.ok,s.cs];exact au.next (aR,Z) rfl (by show P _ 6 H _ _ (_++(o.take (c+1)).flatMap _);grind) ay
      . rintro ⟨e,l⟩ tm g hF;simp only at g hF;rw [bX] at g;simp only [go_sem];exact an.mk ah
    clear hF ao;rintro tm bO ⟨e,ao,hF⟩;obtain ⟨Z,bk,cm,bJ,-⟩:=ao.aZ 48 al al;simp only [go_sem,hF,ao.ok];refine dJ.mk (wB (H':=Z) ?_) ⟨rfl,gV aP (bJ H ab ao.up) ?_⟩
    . simp only [cD,Go.aj.zB,Go.aj.wC,Go.aj.Ez,bk]
    . show List.all [_,_,_,_,_,_] (y H.n 19)=true;simp only [aO,fR H.n 19 19 _ ab ((fW _).aI 18)];rfl
 grind
def jf (q:Bool×Nat×Nat×Nat):List aa:=if q.1 then fb (c_ q.2.1 q.2.2.1 q.2.2.2) else n2 (c_ q.2.1 q.2.2.1 q.2.2.2)
theorem Ql (q):(jf q).length=6:=by unfold jf;split<;>rfl
section
variable {ax:aa} {s:List aa} {kN jv rop j3 aJ:Y} (ag:dO ax s kN jv rop j3 aJ)
include ag
def l7 (kN jv rop j3 aJ:Y) (t:List aa):Bool:=pt kN jv aJ (eh kN rop j3 t).1 (eh kN rop j3 t).2
theorem Vs (a:List (Bool×Nat×Nat×Nat)) (aF: ∀q∈a,q.2.1<10) (bg:a.length<=100) {u:Sub} (ah:c7 u):bo λad n=> ∀y x H,F y (a.map jf)->F x (u.map cg)->Tidy H->
  ∀tm,az G (X G R ad n) 52 [ax,y,x] H tm= .ok (.bool (a.all λq=>l7 kN jv rop j3 aJ ((dw u q.2.1).getD eb)==q.1)) tm H:=by
 obtain ⟨a8,bn,ba,bp,bq,br⟩:=ag.val;have aa: ∀b,aN ((dw u b).getD eb):=λb=>by
  cases e:dw u b with
  |none=>exact w7
  | some a7=>
    unfold dw at e
    cases I:u.find? λP=>P.1==b with
    |none=>rw [I] at e;cases e
    | some P=>
      rw [I] at e;simp only [jV,N] at e;subst e;exact ah.wt P (yS I)
 obtain ⟨aU,aA⟩:=DD;obtain ⟨aW,aB⟩:=C.all (l:=a) (f:=87) (g:=λq=> [ax,.agg ((dw u q.2.1).getD eb)]) (v:=λq=> .str (eh kN rop j3 ((dw u q.2.1).getD eb)).1 (eh kN rop j3 ((dw u q.2.1).getD eb)).2) λq _=>v_ ag (aa _);obtain ⟨aX,aC⟩:=C.all (l:=a) (f:=86) (g:=λq=> [ax,.str (eh kN rop j3 ((dw u q.2.1).getD eb)).1 (eh kN rop j3 ((dw u q.2.1).getD eb)).2]) (v:=λq=> .bool (l7 kN jv rop j3 aJ ((dw u q.2.1).getD eb))) λq _=>Jg ag _ _;refine ⟨aU+aW+aX+110,λad n e bj y x H j L p=> ?_⟩;obtain ⟨n,rfl⟩:=bY n;have aG:(a.map jf).length=a.length:=di ..
 have aj:=j.len;rw [aG] at aj;refine fa (aL.at (m:=40) (rs:= [.tmp 6]) rfl rfl rfl rfl rfl (by simp only [aO,j.aD,L.aD,ba];rfl) rfl rfl ?_);simp only [go_sem,j.O,aj];have hF:=trivial;generalize bh:a1 _ _ _ _ _ _ _ _ _ _=ao;revert ao;refine dA [0,2,12] (λr=>(a.take r).all (λq=>l7 kN jv rop j3 aJ ((dw u q.2.1).getD eb)==q.1)=true) a.length ai ?_ ?_
 . rintro r a6 tm aQ w hF;obtain ⟨q,K⟩:=bA aQ;have B:=aV K;have V:=aF q B;have aT:(a.map jf)[r]? =some (jf q):=by rw [hO,K];rfl
   have z:=j.a_ (k:=6) aT (Ql q);have E:=λtm=>aA ad n ab ab u x q.2.1 H ah L V p tm;have S:=λtm=>aB ad n ab ab q B H tm p;have T:=λtm=>aC ad n ab ab q B H tm p;have ae: ∀c:(l7 kN jv rop j3 aJ ((dw u q.2.1).getD eb)==q.1)=true,(a.take (r+1)).all (λq=>l7 kN jv rop j3 aJ ((dw u q.2.1).getD eb)==q.1)=true:=λc=>by rw [fg,K];simp only [rE,w,Db,aO,jm,c,tu]
   have af: ∀c:(l7 kN jv rop j3 aJ ((dw u q.2.1).getD eb)==q.1)=false,(a.all λq=>l7 kN jv rop j3 aJ ((dw u q.2.1).getD eb)==q.1)=false:=λc=>by rw [List.all_eq_false];exact ⟨q,B,by rw [c];decide⟩
   have aS:=aa q.2.1;generalize (a.all λq=>l7 kN jv rop j3 aJ ((dw u q.2.1).getD eb)==q.1)=bd at*;generalize l7 kN jv rop j3 aJ ((dw u q.2.1).getD eb)=bf at*;generalize aR:eh kN rop j3 ((dw u q.2.1).getD eb)=bm at*;clear aR;generalize (dw u q.2.1).getD eb=a7 at*;obtain ⟨aY,aZ,aq,ar,av,aw,bb,bc,bk,bl,rfl,aH,aI⟩:=aS.t;obtain ⟨D,b,h,i⟩:=q;simp only at E S T ae af V;have aK:F (.A [c_ b h i] true) [c_ b h i]:= .inr ⟨_,rfl⟩;have Y:=aK.vJ (k:=6) rfl rfl;have aP:F (.A [fb (c_ b h i)] true) [fb (c_ b h i)]:= .inr ⟨_,rfl⟩;have Z:=aP.vJ (k:=6) rfl rfl;refine au.bM (λtm d=>H=d/\ ∃Q,aM 43 [(14,.int .i64 (r:Nat)),(13,.int .i64 (a.length:Nat)),(0,ax),(2,x),(12,y),(8,.W Q (jf (D,b,h,i)))] tm) ?_ ?_
   . cases D
     . simp only [jf,n2,fb,cm,eJ,if_false] at z|-;simp only [go_sem,hF,j.O,z];exact an.mk ⟨rfl,_,by simp only [go_sem,hF];trivial⟩
     . simp only [jf,n2,fb,cm,if_true] at z|-;simp only [go_sem,hF,j.O,z];exact an.mk ⟨rfl,_,by simp only [go_sem,hF];trivial⟩
   clear hF;rintro tm _ ⟨rfl,Q,hF⟩;refine au.bF hF (λo tm d=>H=d/\aM 43 [(9,.bool true)] tm/\o tm) ?_ ?_
   . simp only [go_sem];exact an.mk ⟨rfl,ay⟩
   clear hF;rintro tm _ ⟨rfl,hF⟩;refine au.kp [14,13,0,2,12] (λo tm d=>H=d/\M tm 8= .W Q (fb (c_ b h i))/\M tm 9= .bool D/\o tm) ?_ ?_
   . cases D
     . simp only [jf,n2,fb,cm,eJ,if_false] at hF Z|-;simp only [go_sem,hF,Z];exact an.mk ⟨rfl,ay⟩
     . simp only [jf,n2,fb,cm,if_true] at hF|-;simp only [go_sem,hF];exact an.mk ⟨rfl,ay⟩
   clear hF;rintro tm _ ⟨rfl,hF⟩;refine au.kp [14,13,0,2,12,9] (λo tm d=>H=d/\ ∃al,M tm 10= .W al [.int .i64 aY,.int .i64 aZ,.str aq ar,.str av aw,bb,bc]/\o tm) ?_ ?_
   . simp only [fb,cm,c_,cn] at hF Y E|-;simp only [go_sem,hF.1,hF,Y,L.O,E,aH.J,aI.J];exact an.mk ⟨rfl,_,by simp only [go_sem,hF];trivial⟩
   clear hF;rintro tm _ ⟨rfl,al,hF⟩;simp only [go_sem,hF,a8,S,T];refine au.aE ?_ ?_<;>intro c<;>try simp only [go_sem,c]
   . refine au.stop rfl ?_;simp only [go_sem,hF];exact ak.mk (by rw [af (by simpa using c)]) rfl p (U.refl _)
   . exact au.next () rfl (ae (by simpa using c)) ay
 . rintro a6 tm w hF;rw [bX] at w;simp only [go_sem,hF];exact ak.mk (by rw [w]) rfl p (U.refl _)
end
def sU (a b:Int):Int:=if decide (a<b) then -1 else if decide (a>b) then 1 else 0
def abq:d G R 234 (λ_:Int×Int=>True) (λp=> [.int .i64 p.1,.int .i64 p.2]) (λp=> .int .i64 (sU p.1 p.2)):=by
 obtain ⟨q,o⟩:d G R 297 (λ_:Int=>True) (λp=> [.int .i64 p]) (λ_=> .bool false):=by refine d.run (m:=5) rfl rfl rfl rfl (λ_=>rfl) (λ_ _=>rfl) rfl rfl 0 λj k g h b _ c a=> ?_;have l:(b !=b)=false:=ai;simp only [go_sem,l];exact e.mk rfl a (U.refl _)
 refine d.run (m:=18) rfl rfl rfl rfl (λ_=>rfl) (λ_ _=>rfl) rfl rfl q λj k g h b _ c a=> ?_;have f:=λr s=>o j k g h r trivial c s a;simp only at f;simp only [go_sem,f]
 iterate 2 all_goals try (refine e.aE ?_ ?_<;>intro n<;>try simp only [go_sem,n])
 all_goals refine e.i a (U.refl _) ?_
 all_goals unfold sU
 all_goals simp [*]
def abr:d G R 233 (λ_:Int×Int=>True) (λp=> [.int .i64 p.1,.int .i64 p.2]) (λp=> .int .i64 (sU p.1 p.2)):=by
 obtain ⟨q,o⟩:d G R 296 (λ_:Int=>True) (λp=> [.int .i64 p]) (λ_=> .bool false):=by refine d.run (m:=5) rfl rfl rfl rfl (λ_=>rfl) (λ_ _=>rfl) rfl rfl 0 λj k g h b _ c a=> ?_;have l:(b !=b)=false:=ai;simp only [go_sem,l];exact e.mk rfl a (U.refl _)
 refine d.run (m:=18) rfl rfl rfl rfl (λ_=>rfl) (λ_ _=>rfl) rfl rfl q λj k g h b _ c a=> ?_;have f:=λr s=>o j k g h r trivial c s a;simp only at f;simp only [go_sem,f]
 iterate 2 all_goals try (refine e.aE ?_ ?_<;>intro n<;>try simp only [go_sem,n])
 all_goals refine e.i a (U.refl _) ?_
 all_goals unfold sU
 all_goals simp [*]
def aij:List Int->Int
 | []=>0
 |a::l=>if a=0 then aij l else a
def ajm {a:Int} (e:a≠0): ∀ {l:List Int} {j:Nat},l[j]? =some a->(∀i∈l.take j,i=0)->aij l=a
 | [],_,b,_=>by cases b
 |c::l,0,b,_=>by cases b;exact if_neg e
 |c::l,j+1,b,d=>by have:=d c ai;rw [aij,if_pos this];exact ajm e (by simpa using b) λi f=>d i (by simp [f])
def ajl: ∀ {l:List Int},(∀i∈l,i=0)->aij l=0
 | [],_=>rfl
 |b::l,a=>by rw [aij,if_pos (a b ai)];exact ajl λi c=>a i (by simp [c])
def UW:bo λad n=> ∀x (l:List Int) H,F x (l.map λi=> [.int .i64 i])->l.length<=10->Tidy H-> ∀tm,az G (X G R ad n) 232 [x] H tm= .ok (.int .i64 (aij l)) tm H:=by
 refine ⟨20,λad n s u x l H c t g=> ?_⟩;obtain ⟨n,rfl⟩:=bY n;refine jQ (aL.at (m:=17) (rs:= [.tmp 2]) rfl rfl rfl rfl rfl (by simp only [aO,c.aD];rfl) rfl rfl ?_);simp only [go_sem,c.O,c.len,di];have hF:=trivial;generalize q:a1 _ _ _ _ _ _ _ _ _ _=h;revert h;refine dA [3,6] (λd=> ∀i∈l.take d,i=0) l.length ai ?_ ?_
 . rintro d p tm r b hF;obtain ⟨i,f⟩: ∃i,l[d]? =some i:=⟨l[d],ai⟩;have j:(l.map λi=> [aa.int .i64 i])[d]? =some [.int .i64 i]:=by rw [hO,f];rfl
   simp only [go_sem,hF,c.O,c.a_ (k:=1) j rfl];refine au.aE ?_ ?_<;>intro e<;>try simp only [go_sem,hF,e]
   . exact au.stop rfl (by simp only [go_sem,hF];exact ak.mk (by rw [ajm (by simpa using e) f b]) rfl g (U.refl _))
   . refine au.next () rfl (λo a=> ?_) ay;rw [fg,f] at a;rcases cr.1 a with a|a
     . exact b o a
     . simp at a;subst a;simpa using e
 . rintro p tm b hF;rw [bX] at b;simp only [go_sem,hF];exact ak.mk (by rw [ajl b]) rfl g (U.refl _)
def ajd {ad n:Nat} (h:0<ad) {x y:aa} (a:F x []) (b:F y []) {H:af} (e:Tidy H): ∀tm,az G (X G R ad (n+1)) 236 [x,y,.fn (.func 159) [] []] H tm= .ok (.int .i64 0) tm H:=by
 refine jQ (aL.at (m:=36) (rs:= [.tmp 6]) rfl rfl rfl rfl rfl (by simp only [aO,a.aD,b.aD];rfl) rfl rfl ?_);simp only [go_sem,a.O,a.len];have hF:=trivial;generalize i:a1 _ _ _ _ _ _ _ _ _ _=c;revert c;refine dA [0,1] (λ_=>True) 0 trivial (λf _ _ d=>absurd d (Nat.not_lt_zero f)) ?_;rintro j tm-hF;have g:decide (((0:Nat):Int)<((0:Nat):Int))=false:=rfl;simp only [go_sem,hF,a.O,a.len,b.O,b.len,g];exact ak.mk rfl rfl e (U.refl _)
theorem O5 (a b c d:Int) (H:af):cT G 50 4 [(0,.int .i64 a),(1,.int .i64 b),(2,.int .i64 c),(3,.int .i64 d)] H=some (.A [[.int .i64 a],[.int .i64 b],[.int .i64 c],[.int .i64 d]] true,H):=by rfl
theorem O4 (a b:Int) (H:af):cT G 50 2 [(0,.int .i64 a),(1,.int .i64 b)] H=some (.A [[.int .i64 a],[.int .i64 b]] true,H):=by rfl
def aiu:ak1->ak1->Int
 | .n e n g i h j _ _,.n f k a b c d _ _=>aij [sU e f,sU n k,u6 g i a b,u6 h j c d]
def ai0 (a:List aa):Prop:= ∀d i e g f h j k b c,kX a d i e g f h j k b c->b= []/\c= []
def UX {a b:List aa} (Y:aN a) (Z:aN b) (au:ai0 a) (av:ai0 b):dt 159 [.agg a,.agg b] (λw=>w= .int .i64 (aiu (ah2 a) (ah2 b))) bQ:=by
 obtain ⟨v,y,z,C,B,D,ax,aA,aF,aH,r,ag,ah⟩:=Y.ea;obtain ⟨x,E,j,k,l,o,az,aB,aG,aI,s,ae,af⟩:=Z.ea;rw [ah9 r ag ah,ah9 s ae af];obtain ⟨rfl,rfl⟩:=au _ _ _ _ _ _ _ _ _ _ r;obtain ⟨rfl,rfl⟩:=av _ _ _ _ _ _ _ _ _ _ s;obtain ⟨rfl,p,q⟩:=s.c;obtain ⟨rfl,t,u⟩:=r.c;obtain ⟨al,T⟩:=abq;obtain ⟨ao,V⟩:=abr;obtain ⟨aq,X⟩:=MS;obtain ⟨ar,K⟩:=UW;refine aL.run (m:=41) rfl rfl rfl rfl rfl rfl rfl rfl (al+ao+aq+ar+2) λh f aC aD g e=> ?_;obtain ⟨f,rfl⟩:=bY f;have F:=λa b d=>T h (f+1) ab ab (a,b) trivial g d e;have G:=λa b d=>V h (f+1) ab ab (a,b) trivial g d e;have H:=λa b M N d=>X h (f+1) ab ab (a,b,M,N) trivial g d e;simp only at F G H;have P:=K h (f+1) ab ab (.A [[.int .i64 (sU v x)],[.int .i64 (sU y E)],[.int .i64 (u6 z C j k)],[.int .i64 (u6 B D l o)]] true) [_,_,_,_] g (.inr ⟨_,rfl⟩) ai e;have Q:=ajd (ad:=h) (n:=f) ab t p e;have R:=ajd (ad:=h) (n:=f) ab u q e;have S:=K h (f+1) ab ab (.A [[.int .i64 0],[.int .i64 0]] true) [_,_] g (.inr ⟨_,rfl⟩) ai e;simp only [aiu];generalize aij [sU v x,sU y E,u6 z C j k,u6 B D l o]=aw at*;refine ak.bM (λd i=>g=i/\aM 43 [(2,.W 0 [.int .i64 v,.int .i64 y,.str z C,.str B D,ax,aA]),(3,.W 0 [.int .i64 x,.int .i64 E,.str j k,.str l o,az,aB])] d) ?_ ?_
 . simp only [go_sem,t.J,u.J,p.J,q.J];exact an.mk ⟨rfl,dC⟩
 rintro d _ ⟨rfl,hF⟩;refine ak.bF hF (λL d i=>(g=i/\aw=0)/\L d) ?_ ?_
 . simp only [go_sem,hF,F,G,H,O5,bH,P];refine an.aE ?_ ?_<;>intro I<;>try simp only [go_sem,hF,I]
   . exact an.stop rfl (by simp only [go_sem,hF];exact ak.mk rfl rfl e (U.refl _))
   . exact an.mk ⟨⟨rfl,by simpa using I⟩,ay⟩
 clear hF;rintro d _ ⟨⟨rfl,aj⟩,hF⟩;simp only [go_sem,hF,t.O,u.O,p.O,q.O,Q,R,O4,bH,S];exact ak.mk (by rw [aj];rfl) rfl e (U.refl _)
def aiP:ak1:= .n 0 0 0 0 0 0 [] []
def aif:ak1->Bool
 | .n a _ _ _ _ _ _ _=>aiD a
def aii (ky:List ak1) (j:Nat):Bool:=aif (ky[2*j]?.getD aiP)&&(j==0|| !decide (aiu (ky[2*(j-1)]?.getD aiP) (ky[2*j]?.getD aiP)>=0))
section
variable (kN jv rop j3:Y)
def ai4:ak1->Nat×Nat
 | .n a _ b d c e _ _=>zU kN rop j3 a b d c e
def ain (t:ak1) (q:List aa):Bool:=match q with
 | [.str a b]=>ja kN jv (ai4 kN rop j3 t).1 (ai4 kN rop j3 t).2 a b
 |_=>false
def aiT (l m:Nat) (ky:List ak1):Bool:=j0 rop l m&&(((f (M (iQ rop l m) 1)).length==ky.length)&&(ky.zip (f (M (iQ rop l m) 1))).all λa=>ain kN jv rop j3 a.1 a.2)
mutual
def ah6:ak1->Bool
 | .n b _ d e _ _ a c=>(b !=6&&c.isEmpty)&&(aiq a&&(if b=5 then aiT kN jv rop j3 d e a else if b=8 then (List.range ((a.length+1)/2)).all (aii a) else true))
def aiq:List ak1->Bool
 | []=>true
 |a::l=>ah6 a&&aiq l
end
theorem ajo (l:List ak1):aiq kN jv rop j3 l=l.all (ah6 kN jv rop j3):=by
 induction l with
 |nil=>simp [aiq]
 |cons b l a=>simp [aiq,a]
end
theorem aiw {kN rop j3:Y} {x:List aa} (a:aN x):ai4 kN rop j3 (ah2 x)=eh kN rop j3 x:=by obtain ⟨h,k,d,f,e,g,l,m,i,j,a,b,c⟩:=a.ea;rw [ah9 a b c,a.eq];rfl
section
variable {ax:aa} {s:List aa} {kN jv rop j3 aJ:Y} (ag:dO ax s kN jv rop j3 aJ)
include ag
theorem UZ {r} (aU:aN r):aih (ah2 r)->dt 83 [ax,.agg r] (λw=>w= .bool (ah6 kN jv rop j3 (ah2 r))) bQ:=by
 induction aU with
 | @mk r x bl F H P S aH a7 c Y aU p b4 cg _=>
 intro bx;have bY:=ah9 aU p b4;rw [bY] at bx|-;rw [aih] at bx;have bz: ∀a∈c,aih (ah2 a):=ah;obtain ⟨ch,ao⟩:=aL.j8 λa u=>cg a u (bz a u);obtain ⟨cj,aq⟩:=MO ag;obtain ⟨ck,bS⟩:=C.all (l:=c) (f:=87) (g:=λa=> [ax,.agg a]) (v:=λa=> .str (eh kN rop j3 a).1 (eh kN rop j3 a).2) λa u=>v_ ag (p a u);obtain ⟨cl,bU⟩:=Af ag;obtain ⟨cm,bV⟩:=C.all (l:=c) (f:=158) (g:=λr=> [.agg r]) (v:=λa=> .bool (aif (ah2 a))) λa u=>by obtain ⟨x,bJ,F,H,P,S,aH,a7,c,Y,u,ao,aq⟩:=(p a u).ea;rw [ah9 u ao aq];exact ajg u
 have bG: ∀a∈c,aif (ah2 a)=true->ai0 a:=λa u ar x D F H P S aH a7 c Y aA=>by
  obtain ⟨_,_,_,_,_,_,_,_,_,_,bj,ao,aq⟩:=(p a u).ea;have L:=aA.eq.symm.trans bj.eq;simp only [jn,aa.int.injEq,aa.str.injEq,and_true,true_and] at L;obtain ⟨rfl,rfl,⟨rfl,rfl⟩,⟨rfl,rfl⟩,rfl,rfl⟩:=L;obtain rfl:=qe aA.dh bj.dh;obtain rfl:=qe aA.cq bj.cq;have bf:=bz a u;rw [ah9 aA ao aq] at ar bf;rw [aih] at bf;simp only [aif,aiD,mL,beq_iff_eq] at ar;have:=bf.1 ab
  simp_all
 obtain ⟨cn,bW⟩:=dE (l:=c) (Q:=λa E D=> ∀h∈c,aif (ah2 a)=true->aif (ah2 h)=true-> ∀d b,Tidy d->az G (X G R E D) 159 [.agg a,.agg h] d b= .ok (.int .i64 (aiu (ah2 a) (ah2 h))) b d) λa u=>
  dE (l:=c) (Q:=λh E D=>aif (ah2 a)=true->aif (ah2 h)=true-> ∀d b,Tidy d->az G (X G R E D) 159 [.agg a,.agg h] d b= .ok (.int .i64 (aiu (ah2 a) (ah2 h))) b d) λh N=>by
   by_cases ar:aif (ah2 a)=true/\aif (ah2 h)=true
   . obtain ⟨x,L⟩:=(UX (p a u) (p h N) (bG a u ar.1) (bG h N ar.2)).eq;exact ⟨x,ah⟩
   exact ⟨0,λ_ _ _ _ x y=>absurd ⟨x,y⟩ ar⟩
 obtain ⟨bp,c1,cy,c2,c3,c4⟩:=ag.val;have b7:=qA ag.bT.op F H;refine aL.run (m:=108) rfl rfl rfl rfl rfl (by simp only [aO,cy];rfl) rfl rfl (ch+cj+ck+cl+cm+cn+c.length+2) λE D bE cJ d K=> ?_;have bs:=λb=>aq E D ab ab (F,H) trivial d b K;simp only at bs;have bt:=λbI bJ P S b=>bU E D ab ab (bI,bJ,P,S) trivial d b K;simp only at bt;generalize bg:ah6 kN jv rop j3 (.n x bl F H P S (c.map ah2) (Y.map ah2))=Z at*;have c6:Z=true->ak (λw=>w= .bool Z) bQ d (.ret (.bool true) d):=λag=>ak.mk (by rw [ag]) rfl K (U.refl _);have cv:Z=false->ak (λw=>w= .bool Z) bQ d (.ret (.bool false) d):=λag=>ak.mk (by rw [ag]) rfl K (U.refl _);rw [ah6,ajo,List.all_map,aiT] at bg;obtain ⟨rfl,-,-,-,-,j,bk,cK,cL⟩:=aU;generalize iQ rop F H=cT at*;generalize j0 rop F H=cw at*;obtain ⟨cp,ct,aK,cr,cu,cX,⟨⟨aI,aZ,cx,o,z,rfl,V,cb,⟨cV,b8,-⟩⟩,-,-,-,-,cc,-,-,-⟩⟩:=b7;refine ak.bM (λb A=>d=A/\aM 110 [(0,ax),(3,.W 0 [.int .i64 x,.int .i64 bl,.str F H,.str P S,aH,a7]),(7,.av [])] b) ?_ ?_
 . simp only [go_sem,j.J,bk.J];exact an.mk ⟨rfl,dC⟩
 rintro b _ ⟨rfl,hF⟩;refine ak.bF hF (λad b A=>(d=A/\x≠6/\Y= [])/\ad b) ?_ ?_
 . simp only [go_sem,hF]
   iterate 2 all_goals try (refine an.aE ?_ ?_<;>intro q<;>simp only [go_sem,hF,q,bk.O,bk.len])
   all_goals first
    |exact an.mk ⟨de,ay⟩
    | exact an.stop rfl (by simp only [go_sem,hF];exact cv (by
      rw [<-bg]
      first
       |(have L:(x !=6)=false:=(by simpa using q);rw [L];rfl)
       |(have L:(Y.map ah2).isEmpty=false:=(by cases Y with|nil=>simp at q|cons aI bI=>rfl);rw [L];simp)))
 clear hF;rintro b _ ⟨⟨rfl,cH,rfl⟩,hF⟩;have cI:(x !=6)=true:=ah;refine ak.bF hF (λad b A=>(d=A/\ ∀a∈c,ah6 kN jv rop j3 (ah2 a)=true)/\ad b) ?_ ?_
 . simp only [go_sem,hF,j.O,j.len];generalize bB:a1 _ _ _ _ _ _ _ _ _ _=ae;revert ae;refine dA [0,3,7,22] (λz=> ∀a∈c.take z,ah6 kN jv rop j3 (ah2 a)=true) c.length ai ?_ ?_
   . clear hF;intro z s b aS T hF;obtain ⟨a,B⟩:=bA aS;have y:=aV B;obtain ⟨c0,rfl,bq⟩:=ao E D ab ab a y d K;have aB:=(p a y).len;have M:=j.a_ (k:=6) B aB;have aR:ah6 kN jv rop j3 (ah2 a)=false->Z=false:=ah;obtain ⟨cW,b9⟩: ∃bO,ah6 kN jv rop j3 (ah2 a)=bO:=⟨_,rfl⟩;rw [b9] at bq;obtain ⟨aX,aY,af,aP,aj,aQ,a6,w,bn,bo,rfl,aC,aD⟩:=(p a y).t;simp only [go_sem,hF,j.O,M,aC.J,aD.J,bp,bq];refine au.aE ?_ ?_<;>intro q<;>try simp only [go_sem,q]
     . refine au.next () rfl (λh N=> ?_) ay;rcases tT B N with N|rfl
       all_goals grind
     . exact au.stop rfl (by simp only [go_sem];exact an.stop rfl (by simp only [go_sem,hF];grind))
   . intro s b T hF;rw [bX] at T;simp only [go_sem];exact an.mk ah
 clear hF;rintro b _ ⟨⟨rfl,cG⟩,hF⟩;generalize I:(if x=5 then _ else _)=aF at bg;have cM:Z=aF:=by grind
 refine ak.bM (λb A=>(d=A/\aF=true)/\aM 110 [] b) ?_ ?_
 rotate_left
 . rintro b _ ⟨⟨rfl,aA⟩,hF⟩;simp only [go_sem,hF]
   grind
 refine an.bF hF (λad b A=>d=A/\aM 110 [(34,.int .i64 x)] b/\ad b) ?_ ?_
 . simp only [go_sem,hF];exact an.mk ⟨rfl,ay⟩
 clear hF;rintro b _ ⟨rfl,hF⟩;by_cases bD:x=5
 . have bb:(x==5)=true:=ah;rw [if_pos bD,di] at I;replace I:(cw&&((f aI).length==c.length&&((c.map ah2).zip (f aI)).all λaZ=>ain kN jv rop j3 aZ.1 aZ.2))=aF:=I;rw [bm V] at I;simp only [go_sem,hF,bb,bp,bs,V.J,cb.J,b8.J];refine an.aE ?_ ?_<;>intro q<;>try simp only [go_sem,hF,q,V.O,V.len,j.O,j.len]
   rotate_left
   . exact an.stop rfl (by simp only [go_sem,hF];grind)
   refine an.aE ?_ ?_<;>intro bR<;>try simp only [go_sem,hF,bR,j.O,j.len]
   . exact an.stop rfl (by simp only [go_sem,hF];grind)
   have b5:aK.length=c.length:=ah;generalize bB:a1 _ _ _ _ _ _ _ _ _ _=ae;revert ae;refine dA [0,7,56] (λz=> ∀(o:Nat) a h,o<z->c[o]? =some a->aK[o]? =some h->ain kN jv rop j3 (ah2 a) h=true) c.length ab ?_ ?_
   . clear hF;intro e s b aS T hF;obtain ⟨a,B⟩:=bA aS;obtain ⟨h,ca⟩: ∃r,aK[e]? =some r:=ah;have y:=aV B;have bP:=λb=>bS E D ab ab a y d b K;have aR:ain kN jv rop j3 (ah2 a) h=false->aF=false:=λag=>by rw [<-I,List.all_eq_false.2 ⟨(ah2 a,h),aV (i:=e) ah,by simp [ag]⟩];simp
     have aw:ain kN jv rop j3 (ah2 a) h=true-> ∀(o:Nat) a h,o<e+1->c[o]? =some a->aK[o]? =some h->ain kN jv rop j3 (ah2 a) h=true:=ah;have cd:=aiw (kN:=kN) (rop:=rop) (j3:=j3) (p a y);obtain ⟨cA,cD,rfl,-⟩:=cc h ah;simp only [ain,cd] at aR aw;have aB:=(p a y).len;have M:=j.a_ (k:=6) B aB;have b0:=V.a_ (k:=1) ca rfl;generalize eh kN rop j3 a=cY at*;obtain ⟨aX,aY,af,aP,aj,aQ,a6,w,bn,bo,rfl,aC,aD⟩:=(p a y).t;refine au.bM (λb A=>d=A/\ ∃bK,aM 110 [(58,.int .i64 (e:Nat)),(57,.int .i64 (c.length:Nat)),(0,ax),(7,.W 0 [.str cp ct,aI,.str cr cu,aZ,.int .i64 o,.int .i64 z,cx]),(56,aH),(9,.int .i64 (e:Nat)),(10,.W bK [.int .i64 aX,.int .i64 aY,.str af aP,.str aj aQ,a6,w])] b) ?_ ?_
     . simp only [go_sem,hF,j.O,M,aC.J,aD.J];exact an.mk ⟨rfl,_,by simp only [go_sem,hF];trivial⟩
     clear hF;rintro b _ ⟨rfl,bK,hF⟩;simp only [go_sem,hF,bp,bP,V.O,b0,bt];refine au.aE ?_ ?_<;>intro q<;>try simp only [go_sem,q]
     . exact au.next () rfl (aw (by simpa using q)) ay
     . exact au.stop rfl (by simp only [go_sem];exact an.stop rfl (by simp only [go_sem,hF];grind))
   . intro s b T hF;have bE:=hF.len;simp only [go_sem];refine an.mk ⟨⟨rfl,?_⟩,bE⟩;rw [<-I,q,b5];simp only [beq_self_eq_true,aiF,ba];intro h N;obtain ⟨o,bZ⟩:=jo N;obtain ⟨af,aj⟩:=ahO.1 bZ
     grind
 . have bb:(x==5)=false:=ah;rw [if_neg bD] at I;simp only [go_sem,hF,bb];refine an.aE ?_ ?_<;>intro bu<;>try simp only [go_sem,bu]
   rotate_left
   . exact an.mk ⟨ah,ay⟩
   rw [if_pos (by simpa using bu),di] at I;have aT: ∀ {o:Nat} {a:List aa},c[o]? =some a->(c.map ah2)[o]?.getD aiP=ah2 a:=ah;have aR: ∀z,2*z<c.length->aii (c.map ah2) z=false->aF=false:=ah;generalize bB:a1 _ _ _ _ _ _ _ _ _ _=ae;revert ae;refine rP _ _ _ _ (λz b bN=>(d=bN/\ ∀o<z,aii (c.map ah2) o=true)/\aM 110 [(3,.W 0 [.int .i64 x,.int .i64 bl,.str F H,.str P S,aH,a7]),(11,.int .i64 ((2*z:Nat):Int))] b) c.length ab ⟨ai,by simp only [go_sem,hF];trivial⟩ ?_;clear hF;rintro e b _ aS ⟨⟨rfl,T⟩,hF⟩;by_cases b6:2*e<c.length
   . have al:decide (((2*e:Nat):Int)<(c.length:Int))=true:=da;obtain ⟨a,B⟩: ∃r,c[2*e]? =some r:=de;have y:=aV B;have bc:=λb=>bV E D ab ab a y d b K;have aB:=(p a y).len;have M:=j.a_ (k:=6) B aB;have bC:=aR e b6;have aw:aii (c.map ah2) e=true-> ∀o<e+1,aii (c.map ah2) o=true:=ah;have bL:IntKind.i64.wrap (((2*e:Nat):Int)+2)=((2*(e+1):Nat):Int):=by rw [wrap64 _ ab ab];omega
     by_cases bw:e=0
     . subst bw;have a8:decide (((2*0:Nat):Int)>0)=false:=rfl;rw [aii,aT B] at bC aw;generalize aif (ah2 a)=bH at*;obtain ⟨aX,aY,af,aP,aj,aQ,a6,w,bn,bo,rfl,aC,aD⟩:=(p a y).t;simp only [go_sem,hF,j.O,j.len,al,M,bc]
       iterate 2 all_goals try (refine dy.aE ?_ ?_<;>intro q<;>try simp only [go_sem,hF,q,a8,bL])
       all_goals first
        |exact dy.next (by show 0<c.length;omega) ⟨ah,ay⟩
        |exact dy.stop rfl (by simp only [go_sem];exact an.stop rfl (by simp only [go_sem,hF];exact ah))
     . have a8:decide (((2*e:Nat):Int)>0)=true:=da;have cz:IntKind.i64.wrap (((2*e:Nat):Int)-2)=((2*(e-1):Nat):Int):=by rw [wrap64 _ ab ab];omega
       obtain ⟨aG,aW⟩: ∃r,c[2*(e-1)]? =some r:=⟨c[2*(e-1)]'ab,ai⟩;have bh:=aV aW;have cf:=(p aG bh).len;have b1:=j.a_ (k:=6) aW cf;have b3:aif (ah2 aG)=true:=by have:=T (e-1) ab;rw [aii,aT aW] at this;simp only [br] at this;exact this.1
       have bd:=λag d b=>bW E D ab ab aG bh a y b3 ag d b;have b2:(e==0)=false:=by simpa using bw
       rw [aii,aT B,aT aW,b2] at bC aw;generalize aiu (ah2 aG) (ah2 a)=cU at*;generalize aif (ah2 a)=bH at*;obtain ⟨aX,aY,af,aP,aj,aQ,a6,w,bn,bo,rfl,aC,aD⟩:=(p a y).t;obtain ⟨cR,cS,cB,cE,cC,cF,cZ,c5,cP,cQ,rfl,cN,cO⟩:=(p aG bh).t
       cases bH with
       | false=>
         simp only [go_sem,hF,j.O,j.len,al,M,bc];exact dy.stop rfl (by simp only [go_sem];exact an.stop rfl (by simp only [go_sem,hF];exact ah))
       | true=>
         have bd:=λb=>bd rfl d b K;simp only [go_sem,hF,j.O,j.len,al,M,bc,a8,cz,b1,bd];refine dy.aE ?_ ?_<;>intro q<;>try simp only [go_sem,hF,q,bL]
         all_goals first
          |exact dy.next (by show e<c.length;omega) ⟨ah,ay⟩
          |exact dy.stop rfl (by simp only [go_sem];exact an.stop rfl (by simp only [go_sem,hF];exact ah))
   . have al:decide (((2*e:Nat):Int)<(c.length:Int))=false:=da;simp only [go_sem,hF,j.O,j.len,al];refine dy.stop rfl ?_;simp only [go_sem];exact an.mk ⟨ah,ay⟩
end
end Go.aj
