/- A part of the proof. -/
import Derived.Test.YtiodgpibgiodcaaGreatDoorP00
import Derived.Test.YtiodgpibgiodcaaGreatDoorP07
import Derived.Test.YtiodgpibgiodcaaGreatDoorP10
import Derived.Test.YtiodgpibgiodcaaGreatDoorP11
import Derived.Test.YtiodgpibgiodcaaGreatDoorP12
set_option linter.all false
set_option maxHeartbeats 4000000
namespace Go.aj
open Go Go.Proofs.Tryz
set_option maxRecDepth 100000
def pH (rows:Y) (ad n:Nat):Prop:= ∀e (left c:Int) b,F e rows-> -1<=left->left<=10000->0<=c->c<=81->Z b->
 ∃a:Int,(-1<=a/\a<=left/\(0<=a->bL rows (left-a).toNat))/\ ∀d,az G (X G R ad n) 39 [e,.int .i64 left,.int .i64 c] b d= .ok (.int .i64 a) d b
def bL.nil (N):bL [] N:=⟨λ_=>0,λ_ a=>(by cases a),fV _⟩
def bL.node {r k n l1 m1 l2 m2 y z ky i} (f:kX r k n l1 m1 l2 m2 y z ky i) {a b:Nat} (d:bL ky a) (e:bL i b):bL [r] (1+a+b):=by
 have j:=d.sum;have l:=e.sum;refine ⟨λ_=>1+((ky++i).map mT).sum,λm g=>by rw [bs.1 g];exact .mk mT f (λh c=>(d.g_ c).1) λh c=>(e.g_ c).1,?_⟩;simp only [fS,rG,kE,List.sum_nil,vR,List.sum_append];omega
theorem Dx (rows:Y) (V: ∀r∈rows,aN r) (bh:rows.length<4611686018427387904) (aH: ∀r∈rows,bo λad n=>pH (f (M r 4)) ad n/\pH (f (M r 5)) ad n):bo λad n=>pH rows ad n:=by
 obtain ⟨aP,aC⟩:=dE (l:=rows) (Q:=λr ad n=>pH (f (M r 4)) ad n/\pH (f (M r 5)) ad n) aH;refine ⟨aP+rows.length+2,λad n bf bj a6 left h g o S bg bc bd s=> ?_⟩;obtain ⟨n,rfl⟩:=bY n;have: ∃v,(∃a:Int,v= .int .i64 a/\(-1<=a/\a<=left/\(0<=a->bL rows (left-a).toNat)))/\ ∀b,az G (X G R ad (n+1)) 39 [a6,.int .i64 left,.int .i64 h] g b= .ok v b g:=by
  refine hg (aL.at (m:=43) (rs:= [.tmp 6]) rfl rfl rfl rfl rfl (by simp only [aO,o.aD];rfl) rfl rfl ?_);have L: ∀ {j},j=g->ak (λv=> ∃a:Int,v= .int .i64 a/\(-1<=a/\a<=left/\(0<=a->bL rows (left-a).toNat))) bQ g (.ret (.int .i64 (-1)) j):=λ{j} B=>by subst B;exact ak.mk ⟨-1,rfl,ab,S,λC=>absurd C al⟩ rfl s (U.refl _)
  by_cases P:h>80
  . have z:decide (h>80)=true:=by simpa using P
    simp only [go_sem,z];exact L rfl
  have z:decide (h>80)=false:=by simpa using P
  have aU:IntKind.i64.wrap (h+1)=h+1:=wrap64 _ ab ab;simp only [go_sem,z,o.O,o.len];have hF:=trivial;generalize bb:a1 _ _ _ _ _ _ _ _ _ _=ao;revert ao;refine cv [2,11] (λc=> [(1,.int .i64 c)]) (λ_=>g) (λaf c=> -1<=c/\c<=left/\(0<=c->bL (rows.take af) (left-c).toNat)) rows.length left ⟨S,Int.le_refl _,λ_=>bL.nil _⟩ ?_ ?_
  . rintro af c b aG ⟨Z,aa,q⟩ hF;obtain ⟨r,E⟩:=bA aG;have D:=aV E;obtain ⟨ag,ah⟩:=aC ad n ab ab r D;have aF:=o.a_ (k:=6) E (V r D).len;obtain ⟨F,H,d,I,e,K,w,x,aQ,aR,ae,-,-⟩:=(V r D).ea;have aM:=ae;obtain ⟨rfl,-,-,bn,bp,t,u,-,-⟩:=aM;have aA:f (M [.int .i64 F,.int .i64 H,.str d I,.str e K,w,x] 4)=aQ:=bm t;have aB:f (M [.int .i64 F,.int .i64 H,.str d I,.str e K,w,x] 5)=aR:=bm u;rw [aA] at ag;rw [aB] at ah;have aW:IntKind.i64.wrap ((d:Int)+(e:Int))=((d+e:Nat):Int):=by rw [wrap64 _ ab ab];rfl
    have aI:((d+e:Nat):Int).tdiv 50=(((d+e)/50:Nat):Int):=by rfl
    have aX:IntKind.i64.wrap (((d+e:Nat):Int).tdiv 50)=(((d+e)/50:Nat):Int):=by rw [aI,wrap64 _ ab ab]
    generalize bl:(d+e)/50=p at*;have bk:p<1000000000000000000:=ab;have aY:IntKind.i64.wrap (1+(p:Int))=1+(p:Int):=wrap64 _ ab ab;obtain ⟨i,aK⟩: ∃i:Int,i=c-(1+(p:Int)):=⟨_,rfl⟩;have aZ:IntKind.i64.wrap (c-(1+(p:Int)))=i:=by rw [aK];exact wrap64 _ ab ab
    refine au.np [13,12,1,2,11] (λy b j=>g=j/\ ∃aj,M b 8= .W aj [.int .i64 F,.int .i64 H,.str d I,.str e K,w,x]/\y b) ?_ ?_
    . simp only [go_sem,hF,o.O,aF,t.J,u.J];exact an.mk ⟨rfl,_,by simp only [go_sem,hF];trivial⟩
    clear hF;rintro b _ ⟨rfl,aj,hF⟩;refine au.np [13,12,2,11,8] (λy b j=>g=j/\M b 1= .int .i64 i/\y b) ?_ ?_
    . simp only [go_sem,hF,aW,aX,aY,aZ];exact an.mk ⟨rfl,ay⟩
    clear hF;rintro b _ ⟨rfl,hF⟩;by_cases T:i<0
    . have A:decide (i<0)=true:=by simpa using T
      simp only [go_sem,hF,A];exact au.stop rfl (by simp only [go_sem,hF];exact L rfl)
    have A:decide (i<0)=false:=by simpa using T
    obtain ⟨aS,⟨a7,a8,aq⟩,aw⟩:=ag w i (h+1) g t ab ab ab ab s;obtain ⟨ai,⟨ar,ba,av⟩,ax⟩:=ah x aS (h+1) g u ab ab ab ab s;simp only [go_sem,hF,A,t.O,u.O,aU,aw,ax];refine au.aE ?_ ?_<;>intro N<;>try simp only [go_sem,N]
    . exact au.stop rfl (by simp only [go_sem,hF];exact L rfl)
    . have aJ:0<=ai:=by simpa using N
      refine au.next ai rfl ⟨ar,ab,λ_=> ?_⟩ ay;have aT:=bL.node ae (aq ab) (av aJ);rw [od E];exact ((q ab).app aT).mono ab
  . rintro c b ⟨Z,aa,q⟩ hF;rw [bX] at q;simp only [go_sem,hF];exact ak.mk ⟨c,rfl,Z,aa,q⟩ rfl s (U.refl _)
 obtain ⟨_,⟨a,rfl,C⟩,B⟩:=this;exact ⟨a,C,B⟩
def YI {r:List aa} (w:aN r):bo λad n=>pH (f (M r 4)) ad n/\pH (f (M r 5)) ad n:=by
 induction w with
 | @mk r b n g i h j k l d e a s t z A=>
   have u:=a.zm;have v:=a.Kn;obtain ⟨rfl,x,y⟩:=a.c;have m:f (M [.int .i64 b,.int .i64 n,.str g i,.str h j,k,l] 4)=d:=bm x;have o:f (M [.int .i64 b,.int .i64 n,.str g i,.str h j,k,l] 5)=e:=bm y;rw [m,o];obtain ⟨B,p⟩:=Dx d s u z;obtain ⟨C,q⟩:=Dx e t v A;exact ⟨B+C,λad n D E=>⟨p ad n ab ab,q ad n ab ab⟩⟩
def UY (rows:Y) (a: ∀r∈rows,aN r) (b:rows.length<4611686018427387904):bo λad n=>pH rows ad n:=
 Dx rows a b λr c=>YI (a r c)
def Jz (rows:Y) (j: ∀r∈rows,aN r) (i:rows.length<4611686018427387904):bo λad n=> ∀x (m:Nat) H,m<=10000->F x rows->Z H->
    ∃b:Bool,(b=true->bL rows m)/\ ∀tm,az G (X G R ad n) 21 [.int .i64 (m:Nat),x] H tm= .ok (.bool b) tm H:=by
 obtain ⟨k,a⟩:=UY rows j i;refine ⟨k+1,λad n p s x m H q c d=> ?_⟩;obtain ⟨n,rfl⟩:=bY n;obtain ⟨e,⟨l,o,h⟩,f⟩:=a ad n ab ab x m 0 H c ab ab al al d;refine ⟨decide (e>=0),λa=>by
  have g:0<=e:=by simpa using a
  exact (h g).mono ab,fa (aL.at (m:=7) (rs:= [.tmp 4]) rfl rfl rfl rfl rfl (by simp only [aO,c.aD];rfl) rfl rfl ?_)⟩
 simp only [go_sem,c.O,f];exact ak.mk rfl rfl d (U.refl _)
def Ka {α:Type} (f:α->Nat): ∀ {l:List α} {x},x∈l->f x<=(l.map f).sum
 | b::l,x,a=>by
   rw [fS,kE];rcases b2.1 a with rfl|a
   . omega
   . have:=Ka f a;omega
def MX:aW G 24=some (.slice 52):=aq
@[go_sem] theorem acV (H):cT G 24 0 [] H=some (.A [] true,H):=aq
def c6.row {r} (d:c6 r):r.length=7/\ ∀v∈r,J v=true/\D 20 v=true:=by
 obtain ⟨i,k,f,j,l,o,⟨⟨e,m,s,g,h,rfl,a,p8,⟨n,b,-⟩⟩,-⟩⟩:=d;refine ⟨rfl,λv c=> ?_⟩;simp only [b2,dG,or_false] at c;rcases c with rfl|rfl|rfl|rfl|rfl|rfl|rfl
 . exact ⟨rfl,rfl⟩
 . exact ⟨a.J,a.aI _⟩
 . exact ⟨rfl,rfl⟩
 . exact ⟨b.J,b.aI _⟩
 . exact ⟨rfl,rfl⟩
 . exact ⟨rfl,rfl⟩
 . exact ⟨p8.J,p8.aI _⟩
def wS (r:List aa):Nat:=(f (M r 1)).length+(f (M r 3)).length+(f (M r 6)).length
def pA (r:List aa):Prop:= ∀c e a d f b,fB r c e a d f b->a.length<1000000000/\b.length<1000000000
structure aoU (s:List aa) (kN aw rop ao aJ:Y):Prop where
  eq: ∃so be op cP bJ,s= [so,be,op,cP,bJ]/\F so kN/\F be aw/\F op rop/\F cP ao/\F bJ aJ
  so:b8 kN
  be: ∀r∈aw,gd r
  op: ∀r∈rop,c6 r
  cP: ∀r∈ao,c6 r
  bJ:b8 aJ
  n:kN.length+aw.length+rop.length+ao.length+aJ.length<1048600
structure am8 (d:List aa) (s:List aa) (kN aw rop ao aJ ah0 p zI u:Y):Prop where
  eq: ∃n e o k m r st uG,d= [n]++s++ [e,o,k,m,r,st,uG]/\kW n/\F e ah0/\F o p/\kW k/\F m zI/\F r u/\kW st/\kW uG
  bT:aoU s kN aw rop ao aJ
  kx: ∀r∈ah0,xb r
  b9: ∀r∈p,iz r
  hm: ∀r∈zI,iz r
  bh: ∀r∈u,lI r
  n1:(ah0.map e7).sum+p.length+zI.length+(u.map kJ).sum<1048560
  iN:4+p.length+zI.length+(u.map ju).sum+ah0.length<1048600
def am8.c {d s:List aa} {kN aw rop ao aJ b p e f:Y} (a:am8 d s kN aw rop ao aJ b p e f) (g:kN.length+aw.length+rop.length+ao.length+aJ.length<1048560) (h:4+p.length+e.length+(f.map ju).sum+b.length<1048560):fz d s kN aw rop ao aJ b p e f:=
 ⟨a.eq,⟨a.bT.eq,a.bT.so,a.bT.be,a.bT.op,a.bT.cP,a.bT.bJ,g⟩,a.kx,a.b9,a.hm,a.bh,a.n1,h⟩
structure sv (kN aw rop ao aJ:Y):Prop where
  so:kN.length<=60
  be:aw.length<=250
  op:rop.length+ao.length<=250
  bJ:aJ.length<=100
  aac: ∀r∈rop++ao,nk r
section
variable {s:List aa} {kN aw rop ao aJ:Y} (p8:aoU s kN aw rop ao aJ)
include p8
theorem VJ (aN: ∀r∈rop++ao,pA r):bo λad n=> ∀H,Z H->
  ∃b:Bool,(b=true->sv kN aw rop ao aJ)/\ ∀tm,az G (X G R ad n) 33 [.agg s] H tm= .ok (.bool b) tm H:=by
 have bk:=p8.n;have ar: ∀r∈rop++ao,c6 r:=λr z=>(cr.1 z).elim (p8.op r) (p8.cP r);obtain ⟨bq,ba,bn,bb,bt,rfl,a,c,d,e,i⟩:=p8.eq;refine ⟨1048570,λad n bj bl H D=>sG ?_⟩;obtain ⟨n,rfl⟩:=bY n;refine aL.at (m:=59) (rs:= [.tmp 2]) rfl rfl rfl rfl rfl rfl rfl rfl ?_;have L: ∀ {j},j=H->ak (j9 (sv kN aw rop ao aJ)) bQ H (.ret (.bool false) j):=λ{j} aG=>by subst aG;exact ak.mk ⟨false,rfl,λT=>by cases T⟩ rfl D (U.refl _)
 have ae:IntKind.i64.wrap ((rop.length:Int)+(ao.length:Int))=(rop.length:Int)+(ao.length:Int):=wrap64 _ ab ab;by_cases bc:kN.length>60
 . have p:decide ((kN.length:Int)>60)=true:=decide_eq_true ab;simp only [go_sem,a.J,c.J,d.J,e.J,i.J,a.O,a.len,p];exact L rfl
 have p:decide ((kN.length:Int)>60)=false:=decide_eq_false ab;by_cases bd:aw.length>250
 . have y:decide ((aw.length:Int)>250)=true:=decide_eq_true ab;simp only [go_sem,a.J,c.J,d.J,e.J,i.J,a.O,c.O,a.len,c.len,p,y];exact L rfl
 have y:decide ((aw.length:Int)>250)=false:=decide_eq_false ab;by_cases bf:rop.length+ao.length>250
 . have B:decide ((rop.length:Int)+(ao.length:Int)>250)=true:=decide_eq_true ab;simp only [go_sem,a.J,c.J,d.J,e.J,i.J,a.O,c.O,d.O,e.O,a.len,c.len,d.len,e.len,p,y,ae,B];exact L rfl
 have B:decide ((rop.length:Int)+(ao.length:Int)>250)=false:=decide_eq_false ab;by_cases bg:aJ.length>100
 . have S:decide ((aJ.length:Int)>100)=true:=decide_eq_true ab;simp only [go_sem,a.J,c.J,d.J,e.J,i.J,a.O,c.O,d.O,e.O,i.O,a.len,c.len,d.len,e.len,i.len,p,y,ae,B,S];exact L rfl
 have S:decide ((aJ.length:Int)>100)=false:=decide_eq_false ab;have V:Rows 7 (rop++ao):=λr z=>(ar r z).row;obtain ⟨bs,a6,bu,Q,aH,aK,aI,Y,br,aC⟩:=aks (ti:=t52) (k:=7) MX aq rfl al al D d e V ab;have aT:=Y.cw V.len;have aA:=Y.O;have ax:=Y.len;rw [bD] at ax;simp only [go_sem,a.J,c.J,d.J,e.J,i.J,a.O,c.O,d.O,e.O,i.O,a.len,c.len,d.len,e.len,i.len,p,y,ae,B,S,aH,aK,aI,bH,aA,ax];have hF:=trivial;generalize bh:a1 _ _ _ _ _ _ _ _ _ _=aF;revert aF;refine cv [38] (λs=> [(3,.int .i64 s)]) (λ_=>Q) (λA s=>s=((((rop++ao).take A).map wS).sum:Nat)/\s<=3000) (rop.length+ao.length) 0 ⟨rfl,al⟩ ?_ ?_
 . rintro A s tm ai ⟨av,aW⟩ hF;obtain ⟨aD,aa⟩: ∃r,(rop++ao)[A]? =some r:=⟨(rop++ao)[A]'(by rw [bD];exact ai),by simp only [lj (show A<(rop++ao).length by rw [bD];exact ai)]⟩;have aj:=aV aa;obtain ⟨bp,aP,aQ,aR,-⟩:=aT.at V.len aa;have aO:=aN aD aj;obtain ⟨E,I,g,F,K,l,C⟩:=ar aD aj;obtain ⟨a7,a8⟩:=aO _ _ _ _ _ _ C;have af:=uu wS aa;obtain ⟨o,v,w,N,ac,rfl,q,u,⟨h,t,aS,-⟩⟩:=C.eq;have ag:wS [.str E I,o,.str F K,v,.int .i64 N,.int .i64 ac,w]=g.length+h.length+l.length:=by show (f o).length+(f v).length+(f w).length=_;rw [bm q,bm t,bm u]
   rw [ag] at af;have aX:IntKind.i64.wrap ((g.length:Int)+(h.length:Int))=(g.length:Int)+(h.length:Int):=wrap64 _ ab ab;have aY:IntKind.i64.wrap ((g.length:Int)+(h.length:Int)+(l.length:Int))=(g.length:Int)+(h.length:Int)+(l.length:Int):=wrap64 _ ab ab;obtain ⟨x,aU⟩: ∃x:Int,x=s+((g.length:Int)+(h.length:Int)+(l.length:Int)):=⟨_,rfl⟩;have aZ:IntKind.i64.wrap (s+((g.length:Int)+(h.length:Int)+(l.length:Int)))=x:=by rw [aU];exact wrap64 _ ab ab
   refine au.np [40,3,38] (λP tm j=>Q=j/\ ∃aB,M tm 39= .int .i64 ((rop.length:Int)+(ao.length:Int))/\M tm 5= .W aB [.str E I,o,.str F K,v,.int .i64 N,.int .i64 ac,w]/\P tm) ?_ ?_
   . simp only [go_sem,hF,aA,aP,aQ,aR,q.J,t.J,u.J];exact an.mk ⟨rfl,_,by simp only [go_sem,hF];exact ⟨rfl,rfl⟩⟩
   clear hF;rintro tm _ ⟨rfl,aB,hF⟩;refine au.np [40,39,38] (λP tm j=>Q=j/\M tm 3= .int .i64 x/\P tm) ?_ ?_
   . simp only [go_sem,hF,q.len,t.len,u.len,q.O,t.O,u.O,aX,aY,aZ];exact an.mk ⟨rfl,ay⟩
   clear hF;rintro tm _ ⟨rfl,hF⟩;simp only [go_sem,hF];refine au.aE ?_ ?_<;>intro ah<;>try simp only [go_sem,ah]
   . exact au.stop rfl (by simp only [go_sem,hF];exact ak.mk ⟨false,rfl,λT=>by cases T⟩ rfl D aC)
   . have aM:x<=3000:=by simpa using ah
     exact au.next x rfl ⟨by rw [af];omega,aM⟩ (by simp only [go_sem,hF];rfl)
 . rintro s tm ⟨av,aW⟩ hF;rw [fT uF] at av;simp only [go_sem,hF];refine ak.mk ⟨true,rfl,λ_=>⟨ab,ab,ab,ab,λr z E I g F K l C=> ?_⟩⟩ rfl D aC;have:=Ka wS z;obtain ⟨o,v,w,N,ac,rfl,q,u,⟨h,t,aS,-⟩⟩:=C.eq;have ag:wS [.str E I,o,.str F K,v,.int .i64 N,.int .i64 ac,w]=g.length+h.length+l.length:=by show (f o).length+(f v).length+(f w).length=_;rw [bm q,bm t,bm u]
   constructor<;>omega
end
def abj:prog.underlying 22=some (.slice 9):=ai
def PE:prog.cellsOf 9=1:=aq
def abe:prog.underlying 50=some (.slice 3):=ai
def Px:prog.cellsOf 3=1:=aq
def aba:prog.underlying 23=some (.slice 166):=ai
def Pl:prog.cellsOf 166=2:=aq
def ZA:lz prog 166=some [9,9]:=aq
def abh:prog.underlying 48=some (.slice 88):=ai
def PC:prog.cellsOf 88=2:=aq
def ZI:lz prog 88=some [9,9]:=aq
def MK:prog.underlying 24=some (.slice 52):=ai
def Gx:prog.cellsOf 52=7:=aq
def ZG:lz prog 52=some [9,22,9,48,3,49,50]:=aq
def aa9:prog.underlying 49=some (.int .i64):=ai
def abb:prog.underlying 27=some (.slice 81):=ai
def Pp:prog.cellsOf 81=15:=aq
def ZE:lz prog 81=some [35,35,33,3,3]:=aq
def MH:prog.underlying 28=some (.slice 83):=ai
def Gt:prog.cellsOf 83=10:=aq
def ZC:lz prog 83=some [9,9,35,3,3]:=aq
def abg:prog.underlying 61=some (.slice 85):=ai
def PB:prog.cellsOf 85=11:=aq
def ZH:lz prog 85=some [9,9,35,33,3,3]:=aq
def abc:prog.underlying 62=some (.slice 114):=ai
def Pq:prog.cellsOf 114=1:=aq
def ZF:lz prog 114=some [33]:=aq
def abi:prog.underlying 29=some (.slice 64):=ai
def PD:prog.cellsOf 64=7:=aq
def ZJ:lz prog 64=some [9,61,33,62,22,3,3]:=aq
def ZK:lz prog 26=some [22,23,24,24,22]:=aq
def ZD:lz prog 31=some [9,26,27,28,9,28,29,9,9]:=aq
def xo {vs} (f:gz 22 vs): ∃x rows,vs= [x]/\F x rows/\iS x=1+hY rows/\b8 rows/\rows.length<=hY rows:=by
 obtain ⟨x,rows,rfl,h,i,g⟩:=jH abj PE al f;have e: ∀a∈rows,∃b c,a= [.str b c]/\T b c/\b<4611686018427387904:=λa d=>i_ (g a d).2;refine ⟨x,rows,rfl,h,i,e,?_⟩;have:=kP 1 rows λa d=>by obtain ⟨b,c,rfl,-⟩:=e a d;simp [E,iS]
 omega
def F0 {vs} (e:lH prog gz [9,9] vs):gd vs/\E vs=2:=by
 obtain ⟨l,n,rfl,-,f,m,o,rfl,-,g,rfl⟩:=e;obtain ⟨a,b,rfl,j,h⟩:=i_ f;obtain ⟨c,d,rfl,k,i⟩:=i_ g;exact ⟨⟨a,b,c,d,rfl,j,k,h,i⟩,by simp [E,iS]⟩
def xp {N:Nat} (hN:N<1048576) {vs} (d:gz 33 vs) (e:E vs<=N): ∃x rows,vs= [x]/\F x rows/\iS x=1+hY rows/\(∀r∈rows,aN r)/\6*rows.length<=hY rows:=by
 obtain ⟨x,rows,rfl,f,c,b⟩:=jH Fa A8 al d;simp only [E,c] at e;refine ⟨x,rows,rfl,f,c,λr a=>qS N r (by have:=l5 a;omega) ab (b r a).2,kP 6 rows λr a=> ?_⟩;obtain ⟨_,_,_,_,_,_,_,_,_,_,-,-,-,-,-,-,-,g,-⟩:=oD (b r a).2;omega
def FZ {N:Nat} (hN:N<1048576) {r} (q:gz 52 r) (C:E r<=N):c6 r/\pA r/\7<=E r:=by
 obtain ⟨R,Z,rfl,-,s,S,aa,rfl,-,t,T,ad,rfl,-,u,U,ae,rfl,-,v,V,af,rfl,-,w,W,ag,rfl,-,x,X,ai,rfl,-,y,rfl⟩:=mi ZG q;obtain ⟨e,g,rfl,L,J⟩:=i_ s;obtain ⟨j,k,rfl,z,O,G,an⟩:=xo t;obtain ⟨f,h,rfl,M,K⟩:=i_ u;obtain ⟨o,i,rfl,B,P,H⟩:=jH abh PC al v;obtain ⟨c,rfl⟩:=kZ na w;obtain ⟨n,rfl⟩:=kZ aa9 x;obtain ⟨p,d,rfl,D,Q,I⟩:=jH abe Px al y;have aj: ∀a∈i,gd a/\E a=2:=λa b=>F0 (mi ZI (H a b).2);have l: ∀a∈d,∃c,a= [.int .i64 c]:=λa b=>kZ na (I a b).2;have ao:=kP 2 i ah;have F:=kP 1 d λa b=>by obtain ⟨c,rfl⟩:=l a b;simp [E,iS]
 simp only [bl,a6,E,O,P,Q,iS] at C|-;have m:fB [.str e g,j,.str f h,o,.int .i64 c,.int .i64 n,p] e g k f h d:=⟨⟨j,o,p,c,n,rfl,z,D,i,B,ab,ah⟩,L,M,J,K,G,ab,l,ab⟩;refine ⟨⟨e,g,k,f,h,d,m⟩,λak aq Y F ar au A=> ?_,ab⟩;obtain ⟨-,-,rfl,-,-,rfl⟩:=m.uniq A;omega
def N1 {N:Nat} (hN:N<1048566) {r} (m:gz 81 r) (h:E r<=N):xb r/\2*e7 r<=E r:=by
 obtain ⟨a,x,rfl,G,f,b,y,rfl,H,g,u,z,rfl,-,n,v,A,rfl,-,o,w,B,rfl,-,p,rfl⟩:=mi ZE m;obtain ⟨c,rfl⟩:=kZ na o;obtain ⟨d,rfl⟩:=kZ na p;simp only [sj] at h|-;obtain ⟨e,t,rfl,i,s,q,F⟩:=xp (N:=N) ab n ab;have j:=qS N a ab ab f;have k:=qS N b ab ab g;obtain ⟨_,_,_,_,_,_,_,_,_,_,-,-,-,-,-,-,-,C,-⟩:=oD f;obtain ⟨_,_,_,_,_,_,_,_,_,_,-,-,-,-,-,-,-,D,-⟩:=oD g;simp only [E,s] at h|-;have l:a++(b++([e]++([aa.int .i64 c]++([aa.int .i64 d]++ []))))=a++b++ [e,.int .i64 c,.int .i64 d]:=ai;rw [l];refine ⟨⟨a,b,e,_,_,rfl,j,k,⟨t,i,q,ab⟩,⟨c,rfl⟩,⟨d,rfl⟩⟩,?_⟩;unfold e7;rw [BF j.len k.len,bm i];omega
def FY {N:Nat} (hN:N<1048566) {r} (j:gz 83 r) (c:E r<=N):iz r/\10<=E r:=by
 obtain ⟨u,y,rfl,-,k,v,z,rfl,-,l,a,A,rfl,F,b,w,B,rfl,-,m,x,C,rfl,-,n,rfl⟩:=mi ZC j;obtain ⟨d,f,rfl,q,o⟩:=i_ k;obtain ⟨e,g,rfl,s,p⟩:=i_ l;obtain ⟨h,rfl⟩:=kZ na m;obtain ⟨i,rfl⟩:=kZ na n;simp only [sj] at c|-;have t:=qS N a ab ab b;obtain ⟨_,_,_,_,_,_,_,_,_,_,-,-,-,-,-,-,-,D,-⟩:=oD b;simp only [E,iS] at c|-;refine ⟨⟨.str d f,.str e g,a,.int .i64 h,.int .i64 i,ai,⟨d,f,rfl,q,o⟩,⟨e,g,rfl,s,p⟩,t,⟨h,rfl⟩,⟨i,rfl⟩⟩,ab⟩
def N3 {N:Nat} (hN:N<1048566) {r} (o:gz 85 r) (j:E r<=N):lG r/\2*iO r<=E r/\11<=E r:=by
 obtain ⟨C,I,rfl,-,p,D,J,rfl,-,q,a,K,rfl,S,i,F,L,rfl,-,s,G,O,rfl,-,t,H,P,rfl,-,u,rfl⟩:=mi ZH o;obtain ⟨c,e,rfl,A,y⟩:=i_ p;obtain ⟨d,f,rfl,B,z⟩:=i_ q;obtain ⟨g,rfl⟩:=kZ na t;obtain ⟨h,rfl⟩:=kZ na u;simp only [sj] at j|-;obtain ⟨b,x,rfl,k,w,v,R⟩:=xp (N:=N) ab s ab;have l:=qS N a ab ab i;obtain ⟨_,_,_,_,_,_,_,_,_,_,-,-,-,-,-,-,-,Q,-⟩:=oD i;simp only [E,iS,w] at j|-;have m: [aa.str c e]++([aa.str d f]++(a++([b]++([aa.int .i64 g]++([aa.int .i64 h]++ [])))))= [.str c e,.str d f]++a++ [b,.int .i64 g,.int .i64 h]:=ai;rw [m];refine ⟨⟨_,_,a,b,_,_,rfl,⟨c,e,rfl,A,y⟩,⟨d,f,rfl,B,z⟩,l,⟨x,k,v,ab⟩,⟨g,rfl⟩,⟨h,rfl⟩⟩,?_,ab⟩;have n:M ([.str c e,.str d f]++a++ [b,.int .i64 g,.int .i64 h]) 8=b:=by
  match a,l.len with
  | [T,U,V,W,X,Y],_=>rfl
 unfold iO;rw [n,bm k];omega
def N2 {N:Nat} (hN:N<1048566) {r} (d:gz 114 r) (a:E r<=N):AE r/\2*lp r<=E r/\1<=E r:=by
 obtain ⟨j,k,rfl,-,e,rfl⟩:=mi ZF d;simp only [sj] at a|-;obtain ⟨c,i,rfl,b,h,g,l⟩:=xp (N:=N) ab e ab;simp only [E,h] at a|-;refine ⟨⟨c,rfl,i,b,g,ab⟩,?_,ab⟩;show 2*(f c).length<=_;rw [bm b];omega
def N4 {N:Nat} (hN:N<1048566) {r} (p:gz 64 r) (k:E r<=N):lI r/\2*kJ r<=E r/\ju r+6<=E r:=by
 obtain ⟨P,W,rfl,-,q,Q,X,rfl,-,s,R,Y,rfl,-,t,S,Z,rfl,-,u,T,aa,rfl,-,v,U,ad,rfl,-,w,V,ae,rfl,-,x,rfl⟩:=mi ZJ p;obtain ⟨B,C,rfl,K,J⟩:=i_ q;obtain ⟨g,c,rfl,e,M,H⟩:=jH abg PB al s;obtain ⟨n,d,rfl,l,O,I⟩:=jH abc Pq al u;obtain ⟨h,o,rfl,i,L,G,aj⟩:=xo v;obtain ⟨D,rfl⟩:=kZ na w;obtain ⟨F,rfl⟩:=kZ na x;simp only [sj] at k|-;obtain ⟨m,A,rfl,j,z,y,ai⟩:=xp (N:=N) ab t ab;simp only [E,iS,M,O,L,z] at k|-;have af: ∀a∈c,lG a/\2*iO a<=E a/\11<=E a:=λa b=>N3 hN (H a b).2 (by have:=l5 b;omega);have ag: ∀a∈d,AE a/\2*lp a<=E a/\1<=E a:=λa b=>N2 hN (I a b).2 (by have:=l5 b;omega);have ak:=qM 2 iO c ah;have an:=kP 11 c ah;have ao:=qM 2 lp d ah;have aq:=kP 1 d ah;simp only [bl,a6];refine ⟨⟨_,g,m,n,h,_,_,rfl,⟨B,C,rfl,K,J⟩,⟨c,e,ah,ab⟩,⟨A,j,y,ab⟩,⟨d,l,ah,ab⟩,⟨o,i,G,ab⟩,⟨D,rfl⟩,⟨F,rfl⟩⟩,?_,?_⟩
 . show 2*(((f g).map iO).sum+(f m).length+((f n).map lp).sum)<=_;rw [bm e,bm j,bm l];omega
 . show 1+(f h).length+(f g).length+6<=_;rw [bm i,bm e];omega
def N0 {N:Nat} (hN:N<1048577) {vs} (A:gz 31 vs) (j:E vs<=N): ∃s kN e rop d g c p f b,am8 vs s kN e rop d g c p f b/\ ∀r∈rop++d,pA r:=by
 obtain ⟨aJ,aS,rfl,-,h,aK,aT,rfl,-,i,aL,aU,rfl,-,B,aM,aV,rfl,-,C,aN,aW,rfl,-,D,aO,aX,rfl,-,F,aP,aY,rfl,-,G,aQ,aZ,rfl,-,H,aR,a1,rfl,-,I,rfl⟩:=mi ZD A;obtain ⟨a7,bd,rfl,-,O,a8,bf,rfl,-,P,ba,bg,rfl,-,Q,bb,bh,rfl,-,R,bc,bj,rfl,-,S,rfl⟩:=mi ZK i;obtain ⟨X,Y,rfl,au,ag⟩:=i_ h;obtain ⟨aq,kN,rfl,bo,aH,y,bB⟩:=xo O;obtain ⟨l,e,rfl,bk,aA,o⟩:=jH aba Pl al P;obtain ⟨aa,rop,rfl,bn,aF,w⟩:=jH MK Gx al Q;obtain ⟨n,d,rfl,bm,aC,t⟩:=jH MK Gx al R;obtain ⟨ar,g,rfl,bp,aI,z,bC⟩:=xo S;obtain ⟨m,c,rfl,J,aB,q⟩:=jH abb Pp al B;obtain ⟨Z,p,rfl,L,aE,v⟩:=jH MH Gt al C;obtain ⟨T,U,rfl,av,ai⟩:=i_ D;obtain ⟨W,f,rfl,K,aD,u⟩:=jH MH Gt al F;obtain ⟨af,b,rfl,M,aG,x⟩:=jH abi PD al G;obtain ⟨an,ao,rfl,aw,aj⟩:=i_ H;obtain ⟨ay,az,rfl,ax,ak⟩:=i_ I;simp only [bl,a6,E,iS,aH,aA,aF,aC,aI,aB,aE,aD,aG] at j;have bD: ∀r∈e,gd r/\E r=2:=λr a=>F0 (mi ZA (o r a).2);have bH: ∀r∈rop,c6 r/\pA r/\7<=E r:=λr a=>FZ (N:=N-13) ab (w r a).2 (by have:=l5 a;omega);have bE: ∀r∈d,c6 r/\pA r/\7<=E r:=λr a=>FZ (N:=N-13) ab (t r a).2 (by have:=l5 a;omega);have ad: ∀r∈c,xb r/\2*e7 r<=E r:=λr a=>N1 (N:=N-13) ab (q r a).2 (by have:=l5 a;omega);have bG: ∀r∈p,iz r/\10<=E r:=λr a=>FY (N:=N-13) ab (v r a).2 (by have:=l5 a;omega);have bF: ∀r∈f,iz r/\10<=E r:=λr a=>FY (N:=N-13) ab (u r a).2 (by have:=l5 a;omega);have ae: ∀r∈b,lI r/\2*kJ r<=E r/\ju r+6<=E r:=λr a=>N4 (N:=N-13) ab (x r a).2 (by have:=l5 a;omega);have bq:=kP 2 e ah;have br:=kP 7 rop ah;have bs:=kP 7 d ah;have bt:=qM 2 e7 c ah;have bu:=kP 10 p ah;have bw:=kP 10 f ah;have bx:=qM 2 kJ b ah;have bz:=qM 1 ju b ah;have bA:=kP 4 c λr a=>by have:=(ad r a).2;unfold e7 at this;omega
 refine ⟨[aq,l,aa,n,ar],kN,e,rop,d,g,c,p,f,b,⟨⟨_,m,Z,_,W,af,_,_,rfl,⟨X,Y,rfl,au,ag⟩,J,L,⟨T,U,rfl,av,ai⟩,K,M,⟨an,ao,rfl,aw,aj⟩,⟨ay,az,rfl,ax,ak⟩⟩,⟨ah,y,ah,ah,ah,z,ab⟩,
  ah,ah,ah,ah,ab,?_⟩,ah⟩
 cases b with
 |nil=>grind
 | cons k V=>
   have h:=(ae k (dF ..)).2.2;have i:=qM 1 ju V ah;simp only [fS,kE,hY] at j|-;omega
def amm (v:Int) (l1 m1 l2 m2 n:Nat) (z:Nat):Bool:=((n:Int)==0&&(z:Int)==0)&&(isName l1 m1&&isName l2 m2||((l1==1&&m1==95)||(l1==1&&m1==36))&&(l2==3&&m2==7958081))&&v==0
def alK (l m:Nat):List ak1->Bool
 | []=>true
 | .n e h a c b d f g::t=>t.isEmpty&&(e==6&&(amm h a c b d f.length g.length&&(isName a c&&(b==l&&d==m))))
def alw:ak1->Bool
 | .n a g c e d f h b=>
   if a=6 then amm g c e d f h.length b.length else
   if a=7 then alK 4 1953720652 b&&(g==0&&ra c e&&ra d f) else
   if a=8 then alK 3 7364941 b&&ah3 a g c e d f h.length else
   (b.length:Int)==0&&ah3 a g c e d f h.length
def an6 (k v:Int) (l1 m1 l2 m2:Nat) (y z:aa) (s:Bool) (x w:aa):Prop:= ∃e a b c d ok,x= .W 0 [.int .i64 k,.int .i64 e,.str a b,.str c d,y,z]/\w= .bool ok/\
 (ok&&(v==e)&&(l1==a&&m1==b)&&(l2==c&&m2==d))=s
theorem apE {r k n l1 m1 l2 m2 y z ky i} (f:kX r k n l1 m1 l2 m2 y z ky i) (P: ∀x∈ky,aN x) (Q: ∀x∈i,aN x)
  (L:k=7\/k=8-> ∀l m,K 295 [.agg r,.str l m] (.bool (alK l m (i.map ah2)))):K 231 [.agg r] (.bool (alw (ah2 r))):=by
 rw [ah9 f P Q];obtain ⟨ao,q⟩:=qn l1 m1 f.c5;obtain ⟨aq,s⟩:=qn l2 m2 f.pw;obtain ⟨ar,C⟩:=(UP n);obtain ⟨au,D⟩:=US l1 m1;obtain ⟨aw,E⟩:=UO l1 m1 f.c5;obtain ⟨ax,F⟩:=UQ l1 m1 f.c5 f.s1;have ag: ∃S,∀d n,S<=d->S<=n-> ∀b a,Z b->(k=7\/k=8)->az G (X G R d n) 295 [.agg r,.str 4 1953720652] b a= .ok (.bool (alK 4 1953720652 (i.map ah2))) a b/\
   az G (X G R d n) 295 [.agg r,.str 3 7364941] b a= .ok (.bool (alK 3 7364941 (i.map ah2))) a b:=by
  by_cases v:k=7\/k=8
  . obtain ⟨A,ah⟩:=L v 4 1953720652;obtain ⟨B,u⟩:=L v 3 7364941;exact ⟨A+B,λd n q s b a I _=>⟨ah d n ab ab b a I,u d n ab ab b a I⟩⟩
  . exact ⟨0,λ_ _ _ _ _ _ _ f=>absurd f v⟩
 obtain ⟨aA,t⟩:=ag;refine aL.eq (aL.run (m:=166) rfl rfl rfl rfl rfl rfl rfl rfl (ao+aq+ar+au+aw+ax+aA) λd o aF aG b j=> ?_);have q:=λa=>q d o ab ab b a j;have s:=λa=>s d o ab ab b a j;have C:=λa=>C d o ab ab b a j;have D:=λa=>D d o ab ab b a j;have E:=λa=>E d o ab ab b a j;have F:=λa=>F d o ab ab b a j;have t:=λa=>t d o ab ab b a j;have al:(ky.map ah2).length=ky.length:=di ..
 have an:(i.map ah2).length=i.length:=di ..
 obtain ⟨rfl,g,h⟩:=f.c;generalize N:alw (.n k n l1 m1 l2 m2 (ky.map ah2) (i.map ah2))=H;simp only [alw,al,an,amm,ah3,ra] at N;generalize isName l1 m1=aH at*;generalize isName l2 m2=aI at*;generalize aiW n=aJ at*;generalize aiE l1 m1=aK at*;generalize aiv l1 m1=aO at*;generalize ajb l1 m1=aP at*;generalize alK 4 1953720652 (i.map ah2)=aQ at*;generalize alK 3 7364941 (i.map ah2)=aR at*;refine ak.seq (λa e=>b=e/\aM 167 [(1,.W 0 [.int .i64 k,.int .i64 n,.str l1 m1,.str l2 m2,y,z]),(3,.av [])] a) ?_ ?_
 . simp only [go_sem,g.J,h.J];exact dD.mk ⟨rfl,dC⟩
 rintro a _ ⟨rfl,hF⟩;refine ak.seq (λa e=>b=e/\aM 167 [(1,.W 0 [.int .i64 k,.int .i64 n,.str l1 m1,.str l2 m2,y,z]),(3,.W 0 [.int .i64 k,.int .i64 0,.str 0 0,.str 0 0,y,z])] a) ?_ ?_
 . simp only [go_sem,hF,g.J,h.J,g.O,h.O,g.cells,h.cells];exact dD.mk ⟨rfl,ay⟩
 clear hF;rintro a _ ⟨rfl,hF⟩;refine ak.seq (λa e=>b=e/\aM 167 [(1,.W 0 [.int .i64 k,.int .i64 n,.str l1 m1,.str l2 m2,y,z]),(3,.W 0 [.int .i64 k,.int .i64 0,.str 0 0,.str 0 0,y,z])] a/\M a 4= .bool (((ky.length:Nat):Int)==0&&((i.length:Nat):Int)==0)) ?_ ?_
 . simp only [go_sem,hF,g.O,g.len];refine dD.aE ?_ ?_<;>intro p<;>simp only [go_sem,p,hF,h.O,h.len]
   all_goals exact dD.mk ⟨rfl,ay,by simp only [go_sem,hF,p];try simp⟩
 clear hF;rintro a _ ⟨rfl,hF,u⟩;generalize ai:(((ky.length:Nat):Int)==0&&((i.length:Nat):Int)==0)=T at u;refine ak.seq (λa e=>b=e/\aM 167 [(1,.W 0 [.int .i64 k,.int .i64 n,.str l1 m1,.str l2 m2,y,z]),(3,.W 0 [.int .i64 k,.int .i64 0,.str 0 0,.str 0 0,y,z]),(4,.bool T),(5,.bool false)] a) ?_ ?_
 . simp only [go_sem];exact dD.mk ⟨rfl,by simp only [go_sem,hF,u]⟩
 clear hF u;rintro a _ ⟨rfl,hF⟩;refine ak.seq (λa e=>b=e/\aM 167 [(1,.W 0 [.int .i64 k,.int .i64 n,.str l1 m1,.str l2 m2,y,z])] a/\an6 k n l1 m1 l2 m2 y z H (M a 3) (M a 5)) ?_ ?_
 . have done: ∀(w:List aa),aM 167 [(1,.W 0 [.int .i64 k,.int .i64 n,.str l1 m1,.str l2 m2,y,z])] w->an6 k n l1 m1 l2 m2 y z H (M w 3) (M w 5)->dD (λa e=>b=e/\aM 167 [(1,.W 0 [.int .i64 k,.int .i64 n,.str l1 m1,.str l2 m2,y,z])] a/\an6 k n l1 m1 l2 m2 y z H (M a 3) (M a 5)) {} (.normal w b []):=λw A B=>dD.mk ⟨rfl,A,B⟩;have V:k=1\/k=2\/k=3\/k=4\/k=5\/k=6\/k=7\/k=8\/((k==1)=false/\(k==2)=false/\(k==3)=false/\(k==4)=false/\(k==5)=false/\(k==6)=false/\(k==7)=false/\(k==8)=false):=by simp only [beq_eq_false_iff_ne];omega
   rcases V with rfl|rfl|rfl|rfl|rfl|rfl|rfl|rfl|v
   rotate_left 6
   iterate 2
    have ae:=λa=>(t a ab).1;have af:=λa=>(t a ab).2;simp only [go_sem,hF,ae,af]
    rotate_left
   simp only [go_sem,hF,v]
   all_goals try simp only [go_sem,hF,F]
   iterate 8 all_goals try (refine dD.aE ?_ ?_<;>intro p<;>simp only [go_sem,p,hF,q,s,C,D,E,g.O,h.O,g.len,h.len])
   all_goals exact done _ ay (by simp only [go_sem,hF];exact ⟨_,_,_,_,_,_,rfl,rfl,by clear done hF f q s C D E F t g h P Q;subst N ai;first|(simp_all;done)|(simp_all;grind)⟩)
 clear hF;rintro a _ ⟨rfl,hF,aS,A,B,aC,aD,aB,Y,ad,aj⟩;simp only [go_sem,hF,ad]
 iterate 3 all_goals try (refine ak.aE ?_ ?_<;>intro p<;>simp only [go_sem,p,hF,Y])
 all_goals exact ak.mk (by rw [<-aj];first|(simp_all;done)|grind) rfl j (U.refl _)
def ark {r k n l1 m1 l2 m2 y z ky i} (o:kX r k n l1 m1 l2 m2 y z ky i) (V: ∀x∈i,aN x) (l m:Nat):K 295 [.agg r,.str l m] (.bool (alK l m (i.map ah2))):=by
 cases i with
 | nil=>
   refine aL.eq (aL.run (m:=36) rfl rfl rfl rfl rfl rfl rfl rfl 0 λf A P Q b h=> ?_);obtain ⟨rfl,v,e⟩:=o.c;simp only [go_sem,v.J,e.J,e.O,e.len];exact ak.mk rfl rfl h (U.refl _)
 | cons x i=>
   obtain ⟨w,ah,D,E,ad,ae,aj,al,af,ag,q,t,u⟩:=(V x (dF ..)).ea;obtain ⟨W,p⟩:=qn D E q.c5;have g: ∃B,∀f n,B<=f->B<=n-> ∀b a,Z b->w=6->az G (X G R f n) 231 [.agg x] b a= .ok (.bool (alw (ah2 x))) a b:=by
    by_cases M:w=6
    . obtain ⟨C,L⟩:=apE q t u (λo=>by omega);exact ⟨C,λf n p d b a I _=>L f n p d b a I⟩
    . exact ⟨0,λ_ _ _ _ _ _ _ o=>absurd o M⟩
   obtain ⟨Y,d⟩:=g;rw [fS,ah9 q t u];rw [ah9 q t u] at d;have N:(i.map ah2).isEmpty=(i.length==0):=by cases i<;>simp
   refine aL.eq (aL.run (m:=36) rfl rfl rfl rfl rfl rfl rfl rfl (W+Y) λf A P Q b h=> ?_);have p:=λa=>p f A ab ab b a h;have d:=λa=>d f A ab ab b a h;obtain ⟨rfl,v,e⟩:=o.c;obtain ⟨rfl,S,T⟩:=q.c;have F:(((List.length i+1:Nat):Int)==0)=false:=da;have H:(((List.length i+1:Nat):Int)==1)=(i.length==0):=by rw [jU];simp only [beq_iff_eq];omega
   generalize g:alK _ _ _=aa;simp only [alK,N] at g;simp only [go_sem,v.J,e.J,S.J,T.J,e.O,e.len,F,H,e.vJ (k:=6) rfl rfl];refine ak.aE ?_ ?_<;>intro j<;>simp only [go_sem,j]
   rotate_left
   . exact ak.mk (by rw [<-g,j];rfl) rfl h (U.refl _)
   refine ak.aE ?_ ?_<;>intro s<;>simp only [go_sem,s]
   rotate_left
   . exact ak.mk (by rw [<-g,j,s];rfl) rfl h (U.refl _)
   obtain rfl:w=6:=by simpa using s
   have d:=λa=>d a rfl;simp only [alw,if_true,di] at d g;simp only [go_sem,d];generalize amm _ _ _ _ _ _ _=ai at*
   iterate 2 all_goals try (refine ak.aE ?_ ?_<;>intro j<;>simp only [go_sem,j,p])
   all_goals exact ak.mk (by rw [<-g];simp_all) rfl h (U.refl _)
def art {r} (a:aN r):K 231 [.agg r] (.bool (alw (ah2 r))):=by
 obtain ⟨f,m,i,k,j,l,n,o,g,h,a,c,b⟩:=a.ea;exact apE a c b λ_ d e=>ark a b d e
mutual
def alg:ak1->Int->Int->Option Int
 | .n f k g i h j d e,b,c=>if b<=60/\c+1<=2000/\alw (.n f k g i h j d e)=true then (ala d (b+1) (c+1)).bind λa=>if e= [] then some a else if b<60/\a+1<=2000 then some (a+1) else none else none
def ala:List ak1->Int->Int->Option Int
 | [],_,a=>some a
 |c::l,b,a=>(alg c b a).bind (ala l b)
end
def apH (l1 l2:List ak1) (d:Int): ∀a,ala (l1++l2) d a=(ala l1 d a).bind (ala l2 d):=by
 induction l1 with
 |nil=>intro a;simp [ala]
 | cons e f c=>
   intro a;simp only [bl,ala]
   cases alg e d a with
   |none=>rfl
   |some b=>exact c b
mutual
def arB: ∀(t:ak1) (d a b:Int),0<=a->a<=2000->alg t d a=some b->0<=b/\b<=2000
 | .n j q l o m p f k,d,a,b,h,i,c=>by
   simp only [alg] at c;split at c
   . cases e:ala f (d+1) (a+1) with
     |none=>rw [e] at c;cases c
     | some g=>
       rw [e] at c;have:=anO f _ _ _ ab ab e;simp only [nT] at c;split at c
       . cases c;exact this
       . split at c<;>cases c;omega
   . cases c
def anO: ∀(l:List ak1) (d a b:Int),0<=a->a<=2000->ala l d a=some b->0<=b/\b<=2000
 | [],d,a,b,g,h,c=>by simp only [ala,N] at c;omega
 | i ::l,d,a,b,g,h,c=>by
   simp only [ala] at c
   cases e:alg i d a with
   |none=>rw [e] at c;cases c
   | some f=>
     rw [e] at c;have:=arB i d a f g h e;exact anO l d f b this.1 this.2 c
end
def asd {k v l1 m1 l2 m2 ky i} (a:alw (.n k v l1 m1 l2 m2 ky i)=true):i.length<=1:=by
 have b: ∀c d,alK c d i=true->i.length<=1:=λc d a=>by
  match i,a with
  | [],_=>simp
  | .n .. ::t,a=>simp only [alK,br,List.isEmpty_iff] at a;rw [a.1];simp
 simp only [alw] at a;split at a
 . simp only [amm,br,beq_iff_eq] at a;omega
 split at a
 . simp only [br] at a;exact b _ _ a.1
 split at a
 . simp only [br] at a;exact b _ _ a.1
 . simp only [br,beq_iff_eq] at a;omega
def aoR (H:af) (a:Int) (b:Bool) (d:Int) (t:ak1) (v:aa) (H':af):Prop:=v= .av []/\ ∃c e,H'=o1 H c e/\(b=true->0<=a/\a<=2000->alg t d a=if e then some c else none)
theorem arn {r} (aX:aN r):qX G R 155 (λi:af×Int×Bool×Int=> [.ptr i.1.n (q 201) 0 2,.agg r,.int .i64 i.2.2.2]) (λi=>o1 i.1 i.2.1 i.2.2.1) (λi=>Z i.1/\0<=i.2.2.2/\i.2.2.2<=61)
  (λi v H'=>aoR i.1 i.2.1 i.2.2.1 i.2.2.2 (ah2 r) v H'):=by
 induction aX with
 | @mk r D n E H F I U al j p e P aB ba _=>
 obtain ⟨bb,L⟩:=art (.mk e P aB);have aO:=ah9 e P aB;rw [aO] at L|-;obtain ⟨bc,X⟩:=qX.all ba;refine qX.run (m:=88) rfl rfl rfl rfl (λ_=>rfl) (λ_=>rfl) rfl rfl (bb+bc+j.length+p.length+1) λaF aG bd bf i aS=> ?_;obtain ⟨h,a,f,b⟩:=i;obtain ⟨ae,aQ,x⟩:=aS;simp only at ae aQ x|-;obtain ⟨rfl,-,-,-,-,C,aj,aU,aW⟩:=e;have hT: ∀a f,Z (o1 h a f):=λa f=>ae.push rfl;have ak:=λe=>asd (k:=D) (v:=n) (l1:=E) (m1:=H) (l2:=F) (m2:=I) (ky:=j.map ah2) (i:=p.map ah2) e;rw [di] at ak;have a8:p.map ah2= []↔p.length=0:=ai;generalize aP:ak1.n D n E H F I (j.map ah2) (p.map ah2)=s at*;have aC: ∀b a,alg s b a=if b<=60/\a+1<=2000/\alw s=true then (ala (j.map ah2) (b+1) (a+1)).bind λf=>if p.length=0 then some f else if b<60/\f+1<=2000 then some (f+1) else none else none:=λb a=>by subst aP;rw [alg];simp only [a8]
 refine df.seq (λo H'=>o1 h a f=H'/\aM 91 [(0,.ptr h.n (q 201) 0 2),(2,.int .i64 b),(4,.W 0 [.int .i64 D,.int .i64 n,.str E H,.str F I,U,al])] o) ?_ ?_
 . simp only [go_sem,C.J,aj.J];exact dD.mk ⟨rfl,dC⟩
 rintro o _ ⟨rfl,hF⟩;refine df.seq (λo H'=>o1 h (IntKind.i64.wrap (a+1)) f=H'/\aM 91 [(0,.ptr h.n (q 201) 0 2),(2,.int .i64 b),(4,.W 0 [.int .i64 D,.int .i64 n,.str E H,.str F I,U,al])] o) ?_ ?_
 . simp only [go_sem,hF];exact dD.mk ⟨rfl,ay⟩
 clear hF;rintro o _ ⟨rfl,hF⟩;have w:0<=a/\a<=2000->IntKind.i64.wrap (a+1)=a+1:=λe=>wrap64 _ ab ab;generalize IntKind.i64.wrap (a+1)=z at*;have L:=λo=>L aF aG ab ab (o1 h z f) o (hT _ _);have K: ∀z:Int,(f=true->0<=a/\a<=2000->alg s b a=none)->df (aoR h a f b s) (h.n+1) (.ret (.av []) (o1 h z false)):=λz e=>df.mk rfl ⟨rfl,z,false,ft (aT _),e⟩
 cases f with
 | false=>
   simp only [go_sem,hF];exact K _ λe=>by cases e
 | true=>
   have aa:(0<=a/\a<=2000-> ¬(b<=60/\a+1<=2000/\alw s=true))->(true=true->0<=a/\a<=2000->alg s b a=none):=λe _ X=>by rw [aC,if_neg (e X)]
   simp only [go_sem,hF];refine df.aE ?_ ?_<;>intro B<;>simp only [go_sem,B,hF]
   rotate_left
   . exact K _ (aa λ_ e=>by simp at B;omega)
   refine df.aE ?_ ?_<;>intro x<;>simp only [go_sem,x,hF,L]
   rotate_left
   . exact K _ (aa λe aq=>by have:=w e;simp at x;omega)
   cases S:alw s with
   | false=>
     simp only [go_sem];exact K _ (aa λ_ aq=>by rw [aq.2.2] at S;cases S)
   |true=>
   have ak:=ak S;simp only [go_sem,hF];have B:b<=60:=by simpa using B
   have aR:IntKind.i64.wrap (b+1)=b+1:=wrap64 _ ab ab;have az:0<=a/\a<=2000->alg s b a=(ala (j.map ah2) (b+1) (a+1)).bind λf=>if p.length=0 then some f else if b<60/\f+1<=2000 then some (f+1) else none:=λg=>by rw [aC,if_pos ⟨B,by have:=w g;simp at x;omega,S⟩]
   simp only [go_sem,C.O,C.len];generalize aI:a1 _ _ _ _ _ _ _ _ _ _=V;revert V;refine hz _ _ _ _ (σ:=Int) (λ_=> [(0,.ptr h.n (q 201) 0 2),(2,.int .i64 b),(4,.W 0 [.int .i64 D,.int .i64 n,.str E H,.str F I,U,al]),(43,U)]) (λd=>o1 h d true) (λl d=>0<=a/\a<=2000->ala ((j.map ah2).take l) (b+1) (a+1)=some d)
    91 j.length z rfl rfl (λ_=>rfl) rfl (λe=>by rw [w e];rfl) ay ab aU ?_ ?_
   . intro l d o aA N A;obtain ⟨T,ah⟩:=bA aA;have ad:=aV ah;have aK:ala ((j.map ah2).take (l+1)) (b+1) (a+1)=(ala ((j.map ah2).take l) (b+1) (a+1)).bind (alg (ah2 T) (b+1)):=by rw [fg,hO,ah,apH];congr 1;funext a;simp [ala]
     have aL:ala (j.map ah2) (b+1) (a+1)=(ala ((j.map ah2).take (l+1)) (b+1) (a+1)).bind (ala ((j.map ah2).drop (l+1)) (b+1)):=by rw [<-apH,yT]
     obtain ⟨v,H',⟨rfl,an,aH,rfl,ax⟩,ao⟩:=X aF aG ab ab T ad (h,d,true,b+1) ⟨ae,by show 0<=b+1;omega,by show b+1<=61;omega⟩;simp only at ax ao;have aw:0<=a/\a<=2000->ala ((j.map ah2).take (l+1)) (b+1) (a+1)=if aH then some an else none:=λg=>by have u:=N g;have Y:=anO _ _ _ _ (by have:=w g;omega) (by have:=w g;simp at x;omega) u;rw [aK,u];exact ax trivial Y
     have aZ:=(P T ad).len;have ag:=P T ad
     cases ag with
     |mk ag _ _=>
     obtain ⟨rfl,a6,a7⟩:=ag.c;simp only [go_sem,A,C.O,C.a_ (k:=6) ah aZ,aR,a6.J,a7.J,ao];refine au.aE ?_ ?_<;>intro t<;>simp only [go_sem,t]
     . exact au.next an (by subst t;rfl) (λg=>by rw [aw g,t];rfl) (by simp only [go_sem,A])
     . subst t;refine au.stop rfl ?_;simp only [go_sem];exact K _ λ_ g=>by rw [az g,aL,aw g];rfl
   . intro d o N A;rw [fT ai] at N;simp only [go_sem,A,aj.O,aj.len];generalize aI:a1 _ _ _ _ _ _ _ _ _ _=V;revert V;refine hz _ _ _ _ (σ:=Int×Bool) (λ_=> [(0,.ptr h.n (q 201) 0 2),(2,.int .i64 b)]) (λd=>o1 h d.1 d.2) (λl y=>if l=0 then y=(d,true) else 0<=d/\d<=2000->y=(d+1,decide (b<60)&&decide (d+1<=2000))) 91 p.length (d,true) rfl rfl (λ_=>rfl) rfl rfl (by simp only [go_sem,A]) ab aW ?_ ?_
     . intro l y o aA aJ M;obtain rfl:l=0:=ab;obtain rfl:y=(d,true):=aJ;have aY:0<=d/\d<=2000->IntKind.i64.wrap (d+1)=d+1:=λe=>wrap64 _ ab ab;simp only [go_sem,M];generalize IntKind.i64.wrap (d+1)=bg at*
       iterate 2 all_goals try (refine au.aE ?_ ?_<;>intro t<;>simp only [go_sem,t,M])
       all_goals exact au.next (_,_) rfl (show 0<=d/\d<=2000->_ from λe=>by have:=aY e;subst this;rw [t];rfl) (by simp only [go_sem,M])
     . intro y o Q M;simp only [go_sem];refine df.mk rfl ⟨rfl,y.1,y.2,ft (aT _),λ_ g=> ?_⟩;have aD:=N g;have Y:=anO _ _ _ _ (by have:=w g;omega) (by have:=w g;simp at x;omega) aD;rw [az g,aD];simp only [nT];by_cases ar:p.length=0
       . rw [if_pos ar] at Q|-;rw [Q];rfl
       . rw [if_neg ar] at Q|-;rw [Q Y];by_cases u:b<60/\d+1<=2000
         . rw [if_pos u];simp [u]
         . rw [if_neg u];simp only [br,decide_eq_true_eq];rw [if_neg u]
def aln (t:ak1):Bool:=(alg t 1 0).isSome
def apA {r} (d:aN r):K 82 [.agg r] (.bool (aln (ah2 r))):=by
 obtain ⟨l,i⟩:=arn d;refine aL.eq (aL.run (m:=8) rfl rfl rfl rfl rfl rfl rfl rfl l λn o s t f e=> ?_);obtain ⟨v,p,⟨rfl,q,g,rfl,b⟩,a⟩:=i n o ab ab (f,0,true,1) ⟨e,by show (0:Int)<=1;decide,by show (1:Int)<=61;decide⟩;simp only at b a;generalize ah2 r=u at*
 cases d with
 |mk h _ _=>
 obtain ⟨rfl,j,k⟩:=h.c;simp only [go_sem,j.J,k.J,a];exact ak.mk (by unfold aln;rw [b trivial al];cases g<;>rfl) rfl e ((U.refl _).push _)
section
variable (kN aw rop ao:Y)
def ak3:ak1->Nat×Nat
 | .n a _ b d c e _ _=>zU kN rop ao a b d c e
def ak4 (s:Nat×Nat) (q:List aa):Bool:=match q with
 | [.str a b]=>ja kN aw s.1 s.2 a b||ja kN aw a b s.1 s.2
 |_=>false
def amI (l m:Nat) (ky:List ak1):Bool:=GA rop ao l m&&((f (M (mr rop ao l m) 1)).length==ky.length&&(ky.zip (f (M (mr rop ao l m) 1))).all λa=>ak4 kN aw (ak3 kN rop ao a.1) a.2)
mutual
def tk:ak1->Bool
 | .n a _ c e d f b _=>alZ b&&(if a=6 then my kN d f else if a=5 then amI kN aw rop ao c e b else true)
def alZ:List ak1->Bool
 | []=>true
 |a::l=>tk a&&alZ l
end
theorem anw (l:List ak1):alZ kN aw rop ao l=l.all (tk kN aw rop ao):=by
 induction l with
 |nil=>simp [alZ]
 |cons b l a=>simp [alZ,a]
end
theorem ap2 {kN rop ao:Y} {x:List aa} (a:aN x):ak3 kN rop ao (ah2 x)=eh kN rop ao x:=by obtain ⟨h,k,d,f,e,g,l,m,i,j,a,b,c⟩:=a.ea;rw [ah9 a b c,a.eq];rfl
section
variable {ax:aa} {s:List aa} {kN aw rop ao aJ:Y} (ag:dO ax s kN aw rop ao aJ)
include ag
theorem aq8 {r} (A:aN r):dt 184 [ax,.agg r] (λw=>w= .bool (tk kN aw rop ao (ah2 r))) bQ:=by
 induction A with
 | @mk r K n N Q T V b1 b2 h bz A I bc bo _=>
 rw [ah9 A I bc];obtain ⟨bp,x⟩:=aL.j8 bo;obtain ⟨bq,H⟩:=I_ ag T V;obtain ⟨br,an⟩:=Dr ag N Q A.c5 A.s1;have bf:=Bl ag.bT.op ag.bT.cP N Q A.c5 A.s1;obtain ⟨bs,aq⟩:=C.all (l:=h) (f:=87) (g:=λa=> [ax,.agg a]) (v:=λa=> .str (eh kN rop ao a).1 (eh kN rop ao a).2) λa d=>v_ ag (I a d);obtain ⟨L,ar⟩:=MQ ag;obtain ⟨Y,b0,bM,-⟩:=ag.val;refine aL.run (m:=71) rfl rfl rfl rfl rfl (by simp only [aO,bM];rfl) rfl rfl (bp+bq+br+bs+L+h.length+1) λP R aK bP u B=> ?_;have x:=λa d=>x P R ab ab a d u B;have H:=λp=>H P R ab ab u p B;have an:=λp=>an P R ab ab u p B;have aq:=λa d p=>aq P R ab ab a d u p B;have ar:=λbB bE T V p=>ar P R ab ab (bB,bE,T,V) trivial u p B;obtain ⟨rfl,-,-,-,-,o,bn,bR,bS⟩:=A;generalize b:tk kN aw rop ao (.n K n N Q T V (h.map ah2) (bz.map ah2))=G at*;have aR:G=true->ak (λw=>w= .bool G) bQ u (.ret (.bool true) u):=λag=>ak.mk (by rw [ag]) rfl B (U.refl _);have W:G=false->ak (λw=>w= .bool G) bQ u (.ret (.bool false) u):=λag=>ak.mk (by rw [ag]) rfl B (U.refl _);rw [tk,anw,List.all_map,amI,di] at b;generalize mr rop ao N Q=bU at*;obtain ⟨bC,bF,z,bD,bG,bW,⟨⟨aS,X,bK,e,j,rfl,F,bk,⟨bV,bh,-⟩⟩,-,-,-,-,bl,-,-,-⟩⟩:=bf;have bj:f (M [.str bC bF,aS,.str bD bG,X,.int .i64 e,.int .i64 j,bK] 1)=z:=bm F;rw [bj] at b;have bH: ∀a∈h,tk kN aw rop ao (ah2 a)=false->G=false:=λa d aZ=>by rw [<-b,Bool.and_eq_false_iff];exact .inl (aiG.2 ⟨a,d,by simp [aZ]⟩)
 simp only [go_sem,o.J,bn.J,o.O,o.len];generalize a8:a1 _ _ _ _ _ _ _ _ _ _=Z;revert Z;have hF:=trivial;refine dA [0,3,13,7] (λj=> ∀a∈h.take j,tk kN aw rop ao (ah2 a)=true) h.length ai ?_ ?_
 . intro j s p az b hF;obtain ⟨a,q⟩:=bA az;have E:=aV q;obtain ⟨bZ,rfl,D⟩:=x a E;generalize aG:tk kN aw rop ao (ah2 a)=bO at D;obtain ⟨bx,bI,aT,aW,aU,aX,bL,w,bu,bw,aQ,aC,aD⟩:=(I a E).t;rw [aQ] at q D;simp only [go_sem,hF,o.O,o.a_ (k:=6) q rfl,aC.J,aD.J,Y,D];refine au.aE ?_ ?_<;>intro c<;>simp only [go_sem,c]
   . refine au.next () rfl (λy aA=> ?_) ay;rw [<-aQ] at q;rcases tT q aA with aA|rfl
     . exact b y aA
     . rw [aG,c]
   . exact au.stop rfl (by simp only [go_sem,hF];exact W (bH a E (by rw [aG,c])))
 intro s p aF hF;rw [bX] at aF;have a7:(h.all (tk kN aw rop ao∘ah2))=true:=ba.2 λa d=>aF a d;rw [a7,aiF] at b;simp only [go_sem,hF];refine ak.aE ?_ ?_<;>intro c<;>simp only [go_sem,hF,c,Y,H]
 . obtain rfl:K=6:=by simpa using c
   rw [if_pos rfl] at b;rw [b];exact ak.mk rfl rfl B (U.refl _)
 have bt:K≠6:=by simpa using c
 rw [if_neg bt] at b;refine ak.aE ?_ ?_<;>intro ah<;>simp only [go_sem,hF,ah,Y,an,F.J,bk.J,bh.J]
 . have L:K≠5:=by simpa using ah
   rw [if_neg L] at b;exact aR b.symm
 have L:K=5:=by simpa using ah
 rw [if_pos L] at b;generalize GA rop ao N Q=aY at*;refine ak.aE ?_ ?_<;>intro aj<;>simp only [go_sem,hF,aj,F.len,F.O,o.len,o.O]
 rotate_left
 . exact W (by rw [<-b,aj];rfl)
 refine ak.aE ?_ ?_<;>intro al<;>simp only [go_sem,hF,al,o.len,o.O]
 . exact W (by rw [<-b];simp at al;simp;omega)
 have bd:z.length=h.length:=by simp at al;omega
 have bb:aY=true:=by simpa using aj
 have aK:(z.length==h.length)=true:=by simpa using bd
 rw [bb,aK,aiF,aiF] at b;generalize a8:a1 _ _ _ _ _ _ _ _ _ _=Z;revert Z;refine dA [0,7,54] (λj=> ∀e<j,∀a y,h[e]? =some a->z[e]? =some y->ak4 kN aw (ak3 kN rop ao (ah2 a)) y=true) h.length ab ?_ ?_
 . intro j s p az av hF;obtain ⟨a,q⟩:=bA az;obtain ⟨y,S⟩: ∃r,z[j]? =some r:=⟨z[j]'ab,ai⟩;have E:=aV q;have a6:=aq a E;obtain ⟨ad,ae,rfl,-⟩:=bl y (aV S);have aB:ak3 kN rop ao (ah2 a)=eh kN rop ao a:=ap2 (I a E);have aM:((ah2 a),[aa.str ad ae])∈(h.map ah2).zip z:=by refine aV (i:=j) ?_;rw [ahO];exact ⟨by rw [hO,q];rfl,S⟩
   have aH:ak4 kN aw (eh kN rop ao a) [.str ad ae]=true-> ∀e<j+1,∀a y,h[e]? =some a->z[e]? =some y->ak4 kN aw (ak3 kN rop ao (ah2 a)) y=true:=λc e aI bN bJ D af=>by
    rcases qk e j with ag|ag
    . exact av e ag bN bJ D af
    . obtain rfl:e=j:=ab;rw [q] at D;rw [S] at af;cases D;cases af;rw [aB];exact c
   have aP:ak4 kN aw (eh kN rop ao a) [.str ad ae]=false->G=false:=λc=>by rw [<-b,aiG];exact ⟨_,aM,by simp only [aB,c];decide⟩
   simp only [ak4] at aH aP;clear aB aM;generalize eh kN rop ao a=bY at*;obtain ⟨bx,bI,aT,aW,aU,aX,bL,w,bu,bw,rfl,aC,aD⟩:=(I a E).t;simp only [go_sem,hF,o.O,o.a_ (k:=6) q rfl,aC.J,aD.J,Y,a6,F.O,F.a_ (k:=1) S rfl,ar];refine au.aE ?_ ?_<;>intro c<;>simp only [go_sem,c]
   . exact au.next () rfl (aH c) ay
   . exact au.stop rfl (by simp only [go_sem,hF];exact W (aP c))
 . intro s p av hF;simp only [go_sem,hF];refine aR ?_;rw [<-b,ba];intro X bg;obtain ⟨e,aI⟩:=jo bg;obtain ⟨x,H⟩:=ahO.1 aI;rw [hO] at x
   cases d:h[e]? with
   |none=>rw [d] at x;cases x
   | some a=>
     rw [d] at x;have:ah2 a=X.1:=by simpa using x
     rw [<-this];exact av e (by have:=(e6.1 d).1;omega) a X.2 d H
theorem apv {r} (a:aN r):K 184 [ax,.agg r] (.bool (tk kN aw rop ao (ah2 r))):=(aq8 ag a).eq
end
mutual
def tl:ak1->List ak1
 | .n c h d f e g a b=> .n c h d f e g a b::(py a++py b)
def py:List ak1->List ak1
 | []=> []
 |a::l=>tl a++py l
end
def am0 (a b:List ak1):py (a++b)=py a++py b:=by
 induction a with
 |nil=>rfl
 |cons e d c=>simp only [bl,py,c,fu]
def aoG {l:List ak1} {x:ak1}:x∈py l↔ ∃t∈l,x∈tl t:=by
 induction l with
 |nil=>simp [py]
 |cons t l a=>simp [py,a]
section
variable {ι σ:Type} {amh:ι->Prop} {P:ι->σ->Prop} {W:σ->Nat} {cS:ι->σ->af} {fv:ι->aa} {pE:Nat} {F:ak1->σ->σ}
abbrev ak6 (F:ak1->σ->σ) (l:List ak1) (s:σ):σ:=l.foldl (λs a=>F a s) s
theorem anf (hT: ∀i s,amh i->P i s->Z (cS i s)) (aI: ∀i,aD (fv i)=true/\ ∀t,O t (fv i)=fv i) (aL: ∀i s s',P i s->P i s'->gc (cS i s).n (.av []) (cS i s')=cS i s')
  (aW: ∀x,aN x-> ∃aj,∀ad n,aj<=ad->aj<=n-> ∀i s (d:Int),amh i->P i s->W s<pE->P i (F (ah2 x) s)/\W (F (ah2 x) s)<=W s+1/\ ∀tm,cx G (X G R ad n) (fv i) [.agg x,.int .i64 d] (cS i s) tm= .ok (.av []) tm (cS i (F (ah2 x) s)))
  {r:List aa} {n:Nat} (aP:e1 r n):n<=10000000-> ∃k,∀ad j,k<=ad->k<=j-> ∀i s (d:Int),amh i->P i s->W s+n<=pE->P i (ak6 F (tl (ah2 r)) s)/\W (ak6 F (tl (ah2 r)) s)<=W s+n/\
   ∀tm,az G (X G R ad j) 185 [.agg r,.int .i64 d,fv i] (cS i s) tm= .ok (.av []) tm (cS i (ak6 F (tl (ah2 r)) s)):=by
 induction aP with
 | @mk r k n ba bc bb bd L M a b g p w y aX aY=>
 intro bl;have aR: ∀x∈a++b,g x<=((a++b).map g).sum:=λx e=>o3 e;have bo:(a++b).length<=((a++b).map g).sum:=qq λx e=>((cr.1 e).elim (w x) (y x)).pos;obtain ⟨aZ,aA⟩:=aW r (e1.wt (.mk g p w y));obtain ⟨a6,aB⟩:=dE (l:=a++b) (Q:=λx ad j=> ∀i s (d:Int),amh i->P i s->W s+g x<=pE->P i (ak6 F (tl (ah2 x)) s)/\W (ak6 F (tl (ah2 x)) s)<=W s+g x/\
   ∀tm,az G (X G R ad j) 185 [.agg x,.int .i64 d,fv i] (cS i s) tm= .ok (.av []) tm (cS i (ak6 F (tl (ah2 x)) s))) λx e=>by
  have:=aR x e;rcases cr.1 e with e|e
  . exact aX x e ab
  . exact aY x e ab
 obtain ⟨-,-,-,-,-,C,D,bq,br⟩:=id p;have ah: ∀x∈a++b,aN x:=λx e=>(cr.1 e).elim (λe=>(w x e).wt) λe=>(y x e).wt;have v: [a,b].flatten=a++b:=ai;obtain ⟨a7,S⟩:=(I7 (.A [[L],[M]] true) [[L],[M]] [a,b] (.inr ⟨_,rfl⟩) (wG C D) rfl ai (by rw [v];exact aN.rows ah) (by rw [v];unfold b7;omega) (by rw [v];omega)).val;rw [v] at S;refine ⟨aZ+a6+a7+(a++b).length+2,λad j bm bp i s d K U bj=> ?_⟩;obtain ⟨j,rfl⟩:=bY j;have V:=ah9 p (λx e=>(w x e).wt) (λx e=>(y x e).wt);have ag:tl (ah2 r)=ah2 r::py ((a++b).map ah2):=by rw [vR,am0,V,tl]
 obtain ⟨T,aH,aq⟩:=aA ad j ab ab i s d K U ab;rw [ag];clear V ag;generalize ah2 r=ak at*;obtain ⟨rfl,-⟩:=p;generalize aQ:F ak s=o at*;obtain ⟨bs,z,ar⟩:=S ad j ab ab (cS i o) (hT i o K T);obtain ⟨aJ,ae⟩:=aI i;have aK:ak6 F (ak::py ((a++b).map ah2)) s=ak6 F (py ((a++b).map ah2)) o:=by rw [ak6,amL,aQ]
 rw [aK];have a8:=df.at (E:=G) (R:=R) (f:=185) (m:=26) (ad:=ad) (n:=j) (args:= [.agg [.int .i64 k,.int .i64 n,.str ba bc,.str bb bd,L,M],.int .i64 d,fv i]) (H:=cS i s) (Q:=λal N=>al= .av []/\P i (ak6 F (py ((a++b).map ah2)) o)/\W (ak6 F (py ((a++b).map ah2)) o)<=W s+(1+((a++b).map g).sum)/\N=cS i (ak6 F (py ((a++b).map ah2)) o))
  rfl rfl rfl rfl rfl (by simp only [aO,aJ];rfl) rfl rfl ?_
 . obtain ⟨al,N,⟨rfl,aE,aG,rfl⟩,ao⟩:=a8;exact ⟨aE,aG,ao⟩
 simp only [go_sem,C.J,D.J,ae,aq,C.O,D.O,O9 C D,bH,ar,z.O,z.len];generalize bh:a1 _ _ _ _ _ _ _ _ _ _=an;revert an;have hF:=trivial;refine cv [1,2,17] (λ_=> []) (λs=>cS i s) (λh s'=>s'=ak6 F (py (((a++b).take h).map ah2)) o/\P i s'/\W s'<=W s+1+(((a++b).take h).map g).sum) (a++b).length o ⟨rfl,T,by simpa using aH⟩ ?_ ?_
 . rintro h I tm aM ⟨q,u,Y⟩ hF;obtain ⟨x,B⟩: ∃r,(a++b)[h]? =some r:=⟨(a++b)[h],by simp [aM]⟩;have af:=aV B;have bg:(((a++b).take (h+1)).map g).sum=(((a++b).take h).map g).sum+g x:=by rw [fg,B];simp
   have ax:py (((a++b).take (h+1)).map ah2)=py (((a++b).take h).map ah2)++tl (ah2 x):=by rw [fg,B,vR,am0];simp [py]
   have bn:(((a++b).take (h+1)).map g).sum<=((a++b).map g).sum:=si g _ _;obtain ⟨aF,bk,aw⟩:=aB ad j ab ab x af i I (IntKind.i64.wrap (d+1)) K u ab;have e:=ah x af;have aS:=e.len;have aC:ak6 F (tl (ah2 x)) I=ak6 F (py (((a++b).take (h+1)).map ah2)) o:=by rw [ax,ak6,ak6,anc,q]
   generalize ak6 F (tl (ah2 x)) I=bf at*
   cases e with
   |mk e _ _=>
   obtain ⟨rfl,aT,aU⟩:=e.c;simp only [go_sem,hF,z.O,z.a_ (k:=6) B aS,aT.J,aU.J,ae,aw];exact au.next bf rfl ⟨aC,aF,ab⟩ ay
 . rintro I tm ⟨q,u,Y⟩ hF;rw [bX] at Y q;subst q;simp only [go_sem];exact df.mk rfl ⟨rfl,u,ab,aL i s _ U u⟩
end
def alH (rop:Y):ak1->Bool
 | .n a _ b c _ _ _ _=>a==5&& !(j0 rop b c)
def alQ (rop:Y) (t:ak1):Bool:=(tl t).any (alH rop)
def aqF (f:ak1->Bool) (l:List ak1) (b:Bool):ak6 (λt b=>b||f t) l b=(b||l.any f):=by
 induction l generalizing b with
 |nil=>simp [ak6]
 |cons t l a=>rw [ak6,amL,<-ak6,a];simp [Bool.or_assoc]
section
variable {ax:aa} {s:List aa} {kN aw rop ao aJ:Y} (ag:dO ax s kN aw rop ao aJ)
include ag
theorem aqM (x:List aa) (a:aN x): ∃k,∀ad n,k<=ad->k<=n-> ∀(H:af) (b:Bool) (d:Int),Z H->
  ∀tm,cx G (X G R ad n) (.fn (.func 186) [] [.ptr H.n (q 65) 0 1,.ptr (H.n+1) (q 4) 0 1]) [.agg x,.int .i64 d] (ru ax H b) tm= .ok (.av []) tm (ru ax H (b||alH rop (ah2 x))):=by
 obtain ⟨j,I,e,g,F,K,N,O,Y,ae,a,y,z⟩:=a.ea;rw [ah9 a y z,alH];obtain ⟨C,h⟩:=Dr ag e g a.c5 a.s1;obtain ⟨M,ay,az,aA,aB,aC⟩:=ag.val;have t:=Bl ag.bT.op ag.bT.cP e g a.c5 a.s1;refine ⟨C+1,λad n T U H b d w=> ?_⟩;obtain ⟨n,rfl⟩:=bY n;have h:=λtm=>h ad n ab ab (ru ax H b) tm (Iw ag w b);obtain ⟨rfl,A,B⟩:=a.c;generalize mr rop ao e g=al at*;generalize j0 rop e g=L at*;obtain ⟨ah,aj,S,ai,ak,au,⟨⟨P,an,ar,V,W,rfl,r,v,⟨aq,u,-⟩⟩,-⟩⟩:=t;have D:=df.at (E:=G) (R:=R) (f:=186) (m:=20) (ad:=ad) (n:=n) (args:= [.agg [.int .i64 j,.int .i64 I,.str e g,.str F K,N,O],.int .i64 d,.ptr H.n (q 65) 0 1,.ptr (H.n+1) (q 4) 0 1]) (H:=ru ax H b)
  (Q:=λl i=>l= .av []/\i=ru ax H (b||(j==5&& !L))) rfl rfl rfl rfl rfl rfl rfl rfl ?_
 . obtain ⟨l,i,⟨rfl,rfl⟩,o⟩:=D;exact λtm=>by simp only [eg,a6,bl];exact o tm
 simp only [go_sem,A.J,B.J]
 iterate 3 all_goals try (refine df.aE ?_ ?_<;>intro p<;>simp only [go_sem,p,yg,vo,M,h,r.J,v.J,u.J])
 all_goals exact df.mk rfl ⟨rfl,(pV rfl).trans de⟩
theorem apw {r:List aa} {n:Nat} (i:e1 r n) (e:n<=10000000):K 124 [ax,.agg r] (.bool (alQ rop (ah2 r))):=by
 obtain ⟨y,z,A,B,Q,R⟩:=ag.val;obtain ⟨v,l⟩:=anf (ι:=af) (σ:=Bool) (amh:=Z) (P:=λ_ _=>True) (W:=λ_=>0) (cS:=λa b=>ru ax a b) (pE:=10000001) (F:=λx b=>b||alH rop x)
  (fv:=λa=> .fn (.func 186) [] [.ptr a.n (q 65) 0 1,.ptr (a.n+1) (q 4) 0 1]) (λa b d _=>Iw ag d b) (λ_=>⟨rfl,λ_=>rfl⟩) (λ_ _ _ _ _=>pV rfl) (λC f=>by obtain ⟨j,o⟩:=aqM ag C f;exact ⟨j,λg n p e a b k d _ _=>⟨trivial,ab,o g n p e a b k d⟩⟩) i e
 obtain ⟨j,M,I,N,L,O,S,T,G,H,f,-,-⟩:=i.wt.ea;refine aL.eq (aL.run (m:=8) rfl rfl rfl rfl rfl (by simp only [aO,A];rfl) rfl rfl v λg w D E a d=> ?_);obtain ⟨-,-,h⟩:=l g w ab ab a false 1 d trivial ab;rw [aqF,anB,<-alQ] at h;generalize alQ rop (ah2 r)=b at*;obtain ⟨rfl,t,u⟩:=f.c;simp only [go_sem,t.J,u.J,y,z,B,lq,h,vo];exact ak.mk rfl rfl d (((U.refl a).push _).push _)
end
def aq6 :bo λad n=> ∀(H:af) (B:aa) (g d len:Nat) (l:List (Nat×Nat)),Z (mq H B g d l)->eC l->l.length=len->0<len->len<1048560->d<=g->q 9<=g->g<q 9+1048560->
    ∃h m j,((∀p,p∈h↔p∈l)/\h≠ [])/\eC h/\h.length<=len/\j<=g/\ ∀tm,az G (X G R ad n) 253 [.ref (H.n+1) g 0 1 len false] (mq H B g d l) tm= .ok (.ref (H.n+1) g 0 1 h.length false) tm (mq H B g j (h++m)):=by
 refine ⟨1048570,λad n bJ bL H B g d len l bb aG ag bx bz Y bB bC=> ?_⟩;obtain ⟨n,rfl⟩:=bY n;have A:=Ps H B g;generalize au:(λd b=>mq H B g d b)=r at A;have ax: ∀d b,mq H B g d b=r d b:=λd b=>by rw [<-au]
 have bd: ∀j b,(r j b).n=(r d l).n:=λj b=>by rw [<-au];rfl
 simp only [ax];generalize aY:H.n+1=id at*;clear aY au ax bb;have aA: ∀j b x,gc (r d l).n x (r j b)=r j b:=λj b x=>ft (by rw [bd j b];exact aT _);have bc: ∃x C,(∃h m j,x= .ref id g 0 1 h.length false/\C=r j (h++m)/\((∀p,p∈h↔p∈l)/\h≠ [])/\eC h/\h.length<=len/\j<=g)/\ ∀tm,az G (X G R ad (n+1)) 253 [.ref id g 0 1 len false] (r d l) tm= .ok x tm C:=by
  refine bn.at (E:=G) (R:=R) (f:=253) (ad:=ad) (n:=n) (args:= [.ref id g 0 1 len false]) (H:=r d l) (Q:=λx C=> ∃h m j,x= .ref id g 0 1 h.length false/\C=r j (h++m)/\((∀p,p∈h↔p∈l)/\h≠ [])/\eC h/\h.length<=len/\j<=g) (m:=60) (rs:= [.tmp 2]) rfl rfl rfl rfl rfl rfl rfl rfl ?_;have aL: ∀ {aJ},aJ=(r d l).n->bn (λx C=> ∃h m j,x= .ref id g 0 1 h.length false/\C=r j (h++m)/\((∀p,p∈h↔p∈l)/\h≠ [])/\eC h/\h.length<=len/\j<=g) aJ (.ret (.ref id g 0 1 len false) (r d l)):=λs=>by subst s;exact bn.mk ⟨l,[],d,by rw [ag],by rw [aA,fw],⟨λ_=>Iff.rfl,by intro s;rw [s] at ag;simp at ag;omega⟩,aG,ab,Y⟩
  by_cases bA:len<2
  . have ao:decide ((len:Int)<2)=true:=decide_eq_true ab;simp only [go_sem,ao];exact aL rfl
  have ao:decide ((len:Int)<2)=false:=decide_eq_false ab;simp only [go_sem,ao];generalize z:a1 _ _ _ _ _ _ _ _ _ _=an;revert an;refine rP _ _ _ _ (λa tm al=>al=r d l/\a+1<=len/\aM 61 [(0,.ref id g 0 1 len false),(3,.int .i64 ((a+1:Nat):Int))] tm) len ab ⟨rfl,ab,by simp only [go_sem];trivial⟩ ?_;rintro a tm _ bD ⟨rfl,bE,hF⟩;by_cases a7:a+1<len
  . have T :decide (((a+1:Nat):Int)<(len:Int))=true:=decide_eq_true ab;have aw:IntKind.i64.wrap (((a+1:Nat):Int)-1)=(a:Nat):=by rw [wrap64 _ ab ab];omega
    have ak:IntKind.i64.wrap (((a+1:Nat):Int)+1)=((a+1+1:Nat):Int):=by rw [wrap64 _ ab ab];rfl
    obtain ⟨p,u⟩: ∃p,l[a]? =some p:=⟨l[a]'ab,ai⟩;obtain ⟨bf,aI⟩: ∃p,l[a+1]? =some p:=⟨l[a+1]'ab,ai⟩;obtain ⟨aN,F,M,N,P,-⟩:=u4 A (off:=0) (i:=a) (n:=len) u Y ab ab;obtain ⟨aO,D,I,S,J,-⟩:=u4 A (off:=0) (i:=a+1) (n:=len) aI Y ab ab;simp only [go_sem,hF,T,aw,F,M,N,P,D,I,S,J];refine dy.aE ?_ ?_<;>intro U
    . have aU: ∀c p,c<=a+1+0->l[c]? =some p->p∈l.take (a+1):=λc y K v=>by
       have s:p=bf:=by simp only [br,beq_iff_eq] at U;exact (Prod.ext U.1 U.2).symm
       rcases qk c (a+1) with t|t
       . exact aV (i:=c) (by rw [List.getElem?_take_of_lt t];exact v)
       . obtain rfl:c=a+1:=ab;rw [aI] at v;cases v;exact aV (i:=a) (by rw [List.getElem?_take_of_lt ab,u,s])
      clear F M N P D I S J ak T;have bl:=Gz (id:=id) (g:=g) (off:=0) a7;have aC:iL (.ref id g (0+(a+1)) 1 (len-(a+1)) false)=some (.int .i64 (len-(a+1):Nat)):=rfl;have ah: ∀bs,O bs (.ref id g (0+(a+1)) 1 (len-(a+1)) false)= .ref id g (0+(a+1)) 1 (len-(a+1)) false:=λ_=>rfl;have bM:aD (.ref id g (0+(a+1)) 1 (len-(a+1)) false)=true:=rfl;generalize ba:aa.ref id g (0+(a+1)) 1 (len-(a+1)) false=bm at*;simp only [go_sem,hF,bl];generalize z:a1 _ _ _ _ _ _ _ _ _ _=an;revert an;refine rP _ _ _ _ (λe tm al=> ∃j b o,al=r j b/\j<=g/\b.length=len/\((∀y∈b,y∈l)/\(∀c,a+1+e<=c->b[c]? =l[c]?)/\ ∀c p,c<=a+1+e->l[c]? =some p->p∈b.take o)/\a+1<=o/\o<=a+1+e/\e+1<=len-(a+1)/\aM 61 [(0,.ref id g 0 1 len false),(3,.int .i64 (o:Nat)),(4,bm),(5,.int .i64 ((e+1:Nat):Int))] tm) len ab ⟨d,l,a+1,rfl,Y,ag,⟨λ_ t=>t,λ_ _=>rfl,aU⟩,aT _,ab,ab,by simp only [go_sem,hF,ah];rfl⟩ ?_;clear hF;rintro e tm _ bG ⟨j,b,o,rfl,ae,aB,⟨z,W,V⟩,aZ,bI,bF,hF⟩;obtain ⟨bN,a8⟩: ∃p,b[o]? =some p:=⟨b[o]'ab,ai⟩;have bt:IntKind.i64.wrap ((o:Int)+1)=((o+1:Nat):Int):=by rw [wrap64 _ ab ab];rfl
      by_cases bK:e+1<len-(a+1)
      . have aq:decide (((e+1:Nat):Int)<((len-(a+1):Nat):Int))=true:=decide_eq_true ab;have aw:IntKind.i64.wrap (((e+1:Nat):Int)-1)=(e:Nat):=by rw [wrap64 _ ab ab];omega
        have ak:IntKind.i64.wrap (((e+1:Nat):Int)+1)=((e+1+1:Nat):Int):=by rw [wrap64 _ ab ab];rfl
        obtain ⟨aj,aH⟩: ∃p,b[0+(a+1)+e]? =some p:=⟨b[0+(a+1)+e]'ab,ai⟩;obtain ⟨w,av⟩: ∃p,b[0+(a+1)+(e+1)]? =some p:=⟨b[0+(a+1)+(e+1)]'ab,ai⟩;obtain ⟨aN,F,M,N,P,-⟩:=u4 A (off:=0+(a+1)) (i:=e) (n:=len-(a+1)) aH ae rfl ab;obtain ⟨aO,D,I,S,J,-⟩:=u4 A (off:=0+(a+1)) (i:=e+1) (n:=len-(a+1)) av ae rfl ab;obtain ⟨bu,aP,aQ,bw,-,ar⟩:=u4 A (off:=0) (i:=o) (n:=len) a8 ae ab ab;have ar:=ar w;rw [ba] at F D;have a6:l[a+1+e]? =some aj:=by rw [<-W _ (aT _),<-aH];congr 1;omega
        have aF:l[a+1+(e+1)]? =some w:=by rw [<-W _ ab,<-av];congr 1;omega
        have aW:(w.1==aj.1&&w.2==aj.2)=true-> ∀c p,c<=a+1+(e+1)->l[c]? =some p->p∈b.take o:=λs c p K u=>by
         simp only [br,beq_iff_eq] at s;have s:aj=w:=(Prod.ext s.1 s.2).symm;rcases qk c (a+1+(e+1)) with t|t
         . exact V c p ab u
         . obtain rfl:c=a+1+(e+1):=ab;rw [aF] at u;cases u;exact V _ _ (aT _) (s▸a6)
        have aX: ∀c p,c<=a+1+(e+1)->l[c]? =some p->p∈(b.set o w).take (o+1):=λc p K u=>by
         have aR:(b.set o w).take (o+1)=b.take o++ [w]:=by rw [fg,List.getElem?_set_self ab,List.take_set_of_le ab];rfl
         rw [aR];rcases qk c (a+1+(e+1)) with t|t
         . exact hP _ (V c p ab u)
         . obtain rfl:c=a+1+(e+1):=ab;rw [aF] at u;cases u;simp
        simp only [go_sem,hF,ah,aC,aq,aw,F,M,N,P,D,I,S,J];refine dy.aE ?_ ?_<;>intro aS<;>simp only [go_sem,hF,ah,D,I,J,aP,aQ,ar,ak,bt]
        . exact dy.next (by show e<len;omega) ⟨j,b,o,rfl,ae,aB,⟨z,λc t=>W c ab,aW aS⟩,aZ,ab,ab,ay⟩
        . exact dy.next (by show e<len;omega) ⟨g,b.set o w,o+1,rfl,aT _,by rw [aiY,aB],⟨λy v=>by
           rcases C4 v with v|rfl
           . exact z y v
           . exact z y (aV av),λc t=>by rw [List.getElem?_set_ne ab];exact W c ab,aX⟩,ab,ab,ab,ay⟩
      . have aq:decide (((e+1:Nat):Int)<((len-(a+1):Nat):Int))=false:=decide_eq_false ab;have bp:=Gz (id:=id) (g:=g) (off:=0) (n:=len) (k:=o) ab;have bq:=PG (id:=id) (g:=g) (n:=len) (k:=o) ab ab;have aK:=PF A (d:=j) (L:=b) (k:=o) (n:=len-o) ab ab;rw [gH] at aK;simp only [go_sem,hF,ah,aC,aq];refine dy.stop rfl ?_;simp only [go_sem,hF,bp,aK,bq,bH];refine dy.stop rfl ?_;simp only [go_sem,hF];exact bn.mk ⟨b.take o,List.replicate (len-o) (0,0),g,by rw [h6,Nat.min_eq_left ab],aA _ _ _,⟨λp=>⟨λt=>z p (hQ t),λt=>by obtain ⟨c,K⟩:=jo t;have:=(e6.1 K).1;exact V c p ab K⟩,by intro s;have:=congrArg List.length s;rw [h6] at this;simp only [h5] at this;omega⟩,λy v=>aG y (z y (hQ v)),by rw [h6];omega,aT _⟩
    . simp only [go_sem,hF,U,ak];exact dy.next (by show a<len;omega) ⟨rfl,ab,ay⟩
  . have T:decide (((a+1:Nat):Int)<(len:Int))=false:=decide_eq_false ab;simp only [go_sem,hF,T];exact dy.stop rfl (by simp only [go_sem,hF];exact aL rfl)
 obtain ⟨_,_,⟨h,m,j,rfl,rfl,bg,bh,bj,bk⟩,s⟩:=bc;exact ⟨h,m,j,bg,bh,bj,bk,s⟩
def ak9:ak1->List (Nat×Nat)
 | .n a _ b c _ _ _ _=>if a==6 then [(b,c)] else []
def alm:ak1->List (Nat×Nat)
 | .n c _ a b _ _ _ _=>if c==6&& !(a==1&&b==95) then [(a,b)] else []
def apg (f:ak1->List (Nat×Nat)) (l:List ak1) (s:List (Nat×Nat)):ak6 (λt s=>s++f t) l s=s++l.flatMap f:=by
 induction l generalizing s with
 |nil=>simp [ak6]
 |cons t l a=>rw [ak6,amL,<-ak6,a];simp
def ast (x:List aa) (a:aN x): ∃k,∀ad n,k<=ad->k<=n-> ∀(H:af) (l:List (Nat×Nat)) (d:Int),Z H->eC l->l.length<1048560->
    (eC (l++ak9 (ah2 x))/\(l++ak9 (ah2 x)).length<=l.length+1)/\ ∀tm,cx G (X G R ad n) (Ab H) [.agg x,.int .i64 d] (dr H l) tm= .ok (.av []) tm (dr H (l++ak9 (ah2 x))):=by
 obtain ⟨j,p,c,e,o,r,S,T,K,L,a,B,C⟩:=a.ea;rw [ah9 a B C];refine ⟨1,λad n V W H l d Y i z=> ?_⟩;obtain ⟨n,rfl⟩:=bY n;obtain ⟨rfl,O,-,N,-,D,F,-,-⟩:=a;obtain ⟨U,u,v,w,-⟩:=MI (E:=G) (st:=22) (b:=16) oe nI rfl rfl al (H:=H) l z c e;have A:eC (l++ [(c,e)]):=λM g=>(cr.1 g).elim (i M) λg=>by rw [bs.1 g];exact ⟨O,N⟩
 have I:=df.at (E:=G) (R:=R) (f:=193) (m:=10) (ad:=ad) (n:=n) (args:= [.agg [.int .i64 j,.int .i64 p,.str c e,.str o r,S,T],.int .i64 d,.ptr H.n (q 22) 0 1]) (H:=dr H l)
  (Q:=λs h=>s= .av []/\h=dr H (l++ak9 (.n j p c e o r (K.map ah2) (L.map ah2)))) rfl rfl rfl rfl rfl rfl rfl rfl ?_
 . obtain ⟨s,h,⟨rfl,rfl⟩,t⟩:=I;exact ⟨by simp only [ak9];split<;>first|exact ⟨A,ai⟩|exact ⟨by rw [fw];exact i,ai⟩,λtm=>by simp only [eg,a6,bl];exact t tm⟩
 simp only [go_sem,D.J,F.J]
 iterate 3 all_goals try (refine df.aE ?_ ?_<;>intro y<;>simp only [go_sem,y,MJ,Ae,u,bH,v,ML,MM,w])
 all_goals first
  |exact df.mk rfl ⟨rfl,(uA H l l).trans (by simp_all [ak9])⟩
  |exact df.mk rfl ⟨rfl,(uA H l _).trans (by simp_all [ak9])⟩
def asr {r:List aa} {n:Nat} (m:e1 r n) (f:n<=1048560): ∃k,∀ad g,k<=ad->k<=g-> ∀(H:af) (l:List (Nat×Nat)) (d:Int),Z H->eC l->l.length+n<=1048560->
    eC (l++(tl (ah2 r)).flatMap ak9)/\(l++(tl (ah2 r)).flatMap ak9).length<=l.length+n/\ ∀tm,az G (X G R ad g) 185 [.agg r,.int .i64 d,Ab H] (dr H l) tm= .ok (.av []) tm (dr H (l++(tl (ah2 r)).flatMap ak9)):=by
 obtain ⟨p,i⟩:=anf (F:=λt s=>s++ak9 t) (ι:=af) (σ:=List (Nat×Nat)) (amh:=Z) (P:=λ_ l=>eC l) (W:=λl=>l.length) (cS:=λH l=>dr H l) (pE:=1048560) (fv:=Ab) (λH l a _=>Fb a l) (λ_=>⟨rfl,λ_=>rfl⟩) (λH l q _ _=>uA H l q) (λu o=>by obtain ⟨k,h⟩:=ast u o;exact ⟨k,λad n b f H l d a e c=>⟨(h ad n b f H l d a e c).1.1,(h ad n b f H l d a e c).1.2,(h ad n b f H l d a e c).2⟩⟩) m ab;simp only [apg] at i;exact ⟨p,λad g b j H l d a e c=>i ad g b j H l d a e c⟩
def asu (x:List aa) (a:aN x): ∃k,∀ad n,k<=ad->k<=n-> ∀(H:af) (l:List (Nat×Nat)) (d:Int),Z H->eC l->l.length<1048560->
    (eC (l++alm (ah2 x))/\(l++alm (ah2 x)).length<=l.length+1)/\ ∀tm,cx G (X G R ad n) (Ac H) [.agg x,.int .i64 d] (dr H l) tm= .ok (.av []) tm (dr H (l++alm (ah2 x))):=by
 obtain ⟨j,p,c,e,o,r,S,T,K,L,a,B,C⟩:=a.ea;rw [ah9 a B C];refine ⟨1,λad n V W H l d Y i z=> ?_⟩;obtain ⟨n,rfl⟩:=bY n;obtain ⟨rfl,O,-,N,-,D,F,-,-⟩:=a;obtain ⟨U,u,v,w,-⟩:=MI (E:=G) (st:=22) (b:=16) oe nI rfl rfl al (H:=H) l z c e;have A:eC (l++ [(c,e)]):=λM g=>(cr.1 g).elim (i M) λg=>by rw [bs.1 g];exact ⟨O,N⟩
 have I:=df.at (E:=G) (R:=R) (f:=252) (m:=15) (ad:=ad) (n:=n) (args:= [.agg [.int .i64 j,.int .i64 p,.str c e,.str o r,S,T],.int .i64 d,.ptr H.n (q 22) 0 1]) (H:=dr H l)
  (Q:=λs h=>s= .av []/\h=dr H (l++alm (.n j p c e o r (K.map ah2) (L.map ah2)))) rfl rfl rfl rfl rfl rfl rfl rfl ?_
 . obtain ⟨s,h,⟨rfl,rfl⟩,t⟩:=I;exact ⟨by simp only [alm];split<;>first|exact ⟨A,ai⟩|exact ⟨by rw [fw];exact i,ai⟩,λtm=>by simp only [eg,a6,bl];exact t tm⟩
 simp only [go_sem,D.J,F.J]
 iterate 3 all_goals try (refine df.aE ?_ ?_<;>intro y<;>simp only [go_sem,y,MJ,Ae,u,bH,v,ML,MM,w])
 all_goals first
  |exact df.mk rfl ⟨rfl,(uA H l l).trans (by first|(simp_all [alm];done)|(simp_all [alm];grind))⟩
  |exact df.mk rfl ⟨rfl,(uA H l _).trans (by first|(simp_all [alm];done)|(simp_all [alm];grind))⟩
def ass {r:List aa} {n:Nat} (m:e1 r n) (f:n<=1048560): ∃k,∀ad g,k<=ad->k<=g-> ∀(H:af) (l:List (Nat×Nat)) (d:Int),Z H->eC l->l.length+n<=1048560->
    eC (l++(tl (ah2 r)).flatMap alm)/\(l++(tl (ah2 r)).flatMap alm).length<=l.length+n/\ ∀tm,az G (X G R ad g) 185 [.agg r,.int .i64 d,Ac H] (dr H l) tm= .ok (.av []) tm (dr H (l++(tl (ah2 r)).flatMap alm)):=by
 obtain ⟨p,i⟩:=anf (F:=λt s=>s++alm t) (ι:=af) (σ:=List (Nat×Nat)) (amh:=Z) (P:=λ_ l=>eC l) (W:=λl=>l.length) (cS:=λH l=>dr H l) (pE:=1048560) (fv:=Ac) (λH l a _=>Fb a l) (λ_=>⟨rfl,λ_=>rfl⟩) (λH l q _ _=>uA H l q) (λu o=>by obtain ⟨k,h⟩:=asu u o;exact ⟨k,λad n b f H l d a e c=>⟨(h ad n b f H l d a e c).1.1,(h ad n b f H l d a e c).1.2,(h ad n b f H l d a e c).2⟩⟩) m ab;simp only [apg] at i;exact ⟨p,λad g b j H l d a e c=>i ad g b j H l d a e c⟩
def apF (rows:Y) (N:Nat) (hN:N<1048560) (T:bL rows N):bo λad n=> ∀x H,Z H->cG H 6 x rows->
    ∃v,(F v ((eW ((py (rows.map ah2)).flatMap ak9)).map iu)/\eC (eW ((py (rows.map ah2)).flatMap ak9))/\(eW ((py (rows.map ah2)).flatMap ak9)).length<=N)/\ ∀tm,az G (X G R ad n) 130 [x] H tm= .ok v tm H:=by
 obtain ⟨d,i,h⟩:=T;have ae: ∀b∈rows,d b<=N:=λb j=>eT (o3 j) h;have aH:rows.length<=N:=eT (qq λx f=>(i x f).pos) h;obtain ⟨aj,C⟩:=dE (l:=rows) (Q:=λb ad aq=> ∀(H:af) (a:List (Nat×Nat)) (z:Int),Z H->eC a->a.length+d b<=1048560->
  eC (a++(tl (ah2 b)).flatMap ak9)/\(a++(tl (ah2 b)).flatMap ak9).length<=a.length+d b/\ ∀tm,az G (X G R ad aq) 185 [.agg b,.int .i64 z,Ab H] (dr H a) tm= .ok (.av []) tm (dr H (a++(tl (ah2 b)).flatMap ak9))) λb e=>asr (i b e) (by have:=ae b e;omega)
 refine ⟨aj+rows.length+3,λad n aG aI x H r f=> ?_⟩;obtain ⟨n,rfl⟩: ∃ao,n=ao+2:=⟨n-2,ab⟩;have E: ∀b∈rows,b.length=6:=λb e=>(i b e).wt.len;refine hg (aL.at (m:=18) rfl rfl rfl rfl rfl (by simp only [aO,f.aD];rfl) rfl rfl ?_);simp only [go_sem,f.O,f.len];generalize aF:a1 _ _ _ _ _ _ _ _ _ _=w;revert w;refine hz _ _ _ _ (σ:=List (Nat×Nat)) (λ_=> [(3,.ptr H.n (q 22) 0 1),(6,x)]) (λa=>dr H a) (λg a=>a=(py ((rows.take g).map ah2)).flatMap ak9/\eC a/\a.length<=((rows.take g).map d).sum) 19 rows.length [] rfl rfl (λ_=>rfl) rfl ⟨rfl,λ_ e=>(by cases e),fV _⟩
  dC ab ab ?_ ?_
 . intro g o tm D p hF;obtain ⟨V,p,aJ⟩:=p;obtain ⟨b,k⟩:=bA D;have j:=aV k;have aM:((rows.take (g+1)).map d).sum=((rows.take g).map d).sum+d b:=by rw [fg,k];simp
   have aN:=si d rows (g+1);have aa:o++(tl (ah2 b)).flatMap ak9=(py ((rows.take (g+1)).map ah2)).flatMap ak9:=by rw [fg,k,vR,am0,anD,<-V];simp [py]
   obtain ⟨U,aK,A⟩:=C ad (n+1) ab ab b j H o 1 r p ab;generalize o++(tl (ah2 b)).flatMap ak9=ar at*;obtain ⟨aU,M,P,S,-⟩:=(f.up r.1 (Ad H o 0)).at E k;obtain ⟨aR,aS,ax,aC,aA,aE,aW,aw,aP,aQ,ai,-,-⟩:=(i b j).wt.ea;obtain ⟨rfl,ag,ah⟩:=ai.c;simp only [go_sem,hF,f.O,M,P,S,ag.J,ah.J,A];exact au.next ar rfl ⟨aa,U,ab⟩ ay
 . rintro a tm ⟨t,L,I⟩ hF;rw [bX] at I t;have u:a.length<1048560:=ab;have B:=λtm=>Dy (ad:=ad) (n:=n) (H:=H) u tm;have s:cO 9 H.n (eW a)=cO 9 H.n a:=by
    have:=ph a
    cases a with
    |nil=>rw [zV]
    | cons y a=>
      cases h:eW (y::a) with
      |nil=>rw [h] at this;simp at this
      |cons aB an=>rw [h] at this;simp only [cl] at this;simp only [cO];rw [show an.length=a.length by omega]
   simp only [go_sem,hF,E_,Ae,B,s];rw [<-s];have K:aD (cO 9 H.n (eW a))=true:=by cases eW a<;>rfl
   simp only [dX,K,if_true];exact ak.W al r (Mo _) (abd H (eW a) _ (by rw [ph];exact aT _) (by rw [ph];exact u)) (aT _) (Ad H _ _) λaw e=>by rw [<-t];exact ⟨e,L.sort,by rw [ph];omega⟩
def arb (rows:Y) (N:Nat) (hN:N<1048560) (aK:bL rows N):bo λad n=> ∀x H,Z H->cG H 6 x rows->
    ∃v,(∃l,F v (l.map iu)/\(∀p,p∈l↔p∈(py (rows.map ah2)).flatMap alm)/\eC l/\l.length<=N)/\ ∀tm,az G (X G R ad n) 189 [x] H tm= .ok v tm H:=by
 obtain ⟨h,z,s⟩:=aK;have aR: ∀a∈rows,h a<=N:=λa j=>eT (o3 j) s;have bm:rows.length<=N:=eT (qq λx k=>(z x k).pos) s;obtain ⟨aX,aq⟩:=dE (l:=rows) (Q:=λa ad a6=> ∀(H:af) (l:List (Nat×Nat)) (ak:Int),Z H->eC l->l.length+h a<=1048560->
  eC (l++(tl (ah2 a)).flatMap alm)/\(l++(tl (ah2 a)).flatMap alm).length<=l.length+h a/\ ∀tm,az G (X G R ad a6) 185 [.agg a,.int .i64 ak,Ac H] (dr H l) tm= .ok (.av []) tm (dr H (l++(tl (ah2 a)).flatMap alm))) λa i=>ass (z a i) (by have:=aR a i;omega)
 obtain ⟨aY,ar⟩:=aq6;refine ⟨aX+aY+rows.length+3,λad n bk bn x H w k=> ?_⟩;obtain ⟨n,rfl⟩: ∃aZ,n=aZ+2:=⟨n-2,ab⟩;have aB: ∀a∈rows,a.length=6:=λa i=>(z a i).wt.len;refine hg (aL.at (m:=19) rfl rfl rfl rfl rfl (by simp only [aO,k.aD];rfl) rfl rfl ?_);simp only [go_sem,k.O,k.len];generalize bj:a1 _ _ _ _ _ _ _ _ _ _=aj;revert aj;refine hz _ _ _ _ (σ:=List (Nat×Nat)) (λ_=> [(3,.ptr H.n (q 22) 0 1),(6,x)]) (λl=>dr H l) (λo l=>l=(py ((rows.take o).map ah2)).flatMap alm/\eC l/\l.length<=((rows.take o).map h).sum) 20 rows.length [] rfl rfl (λ_=>rfl) rfl ⟨rfl,λ_ i=>(by cases i),fV _⟩
  dC ab ab ?_ ?_
 . intro o C tm aA I hF;obtain ⟨aN,I,bp⟩:=I;obtain ⟨a,A⟩:=bA aA;have j:=aV A;have br:((rows.take (o+1)).map h).sum=((rows.take o).map h).sum+h a:=by rw [fg,A];simp
   have bs:=si h rows (o+1);have aP:C++(tl (ah2 a)).flatMap alm=(py ((rows.take (o+1)).map ah2)).flatMap alm:=by rw [fg,A,vR,am0,anD,<-aN];simp [py]
   obtain ⟨aM,bq,an⟩:=aq ad (n+1) ab ab a j H C 1 w I ab;generalize C++(tl (ah2 a)).flatMap alm=a8 at*;obtain ⟨p,aG,aH,aJ,-⟩:=(k.up w.1 (Ad H C 0)).at aB A;obtain ⟨bw,bx,bc,bf,bd,bg,bz,bB,bt,bu,aW,-,-⟩:=(z a j).wt.ea;obtain ⟨rfl,aS,aU⟩:=aW.c;simp only [go_sem,hF,k.O,aG,aH,aJ,aS.J,aU.J,an];exact au.next a8 rfl ⟨aP,aM,ab⟩ ay
 . rintro l tm ⟨E,r,ag⟩ hF;rw [bX] at ag E;have ae:l.length<1048560:=ab;have t:=λtm=>Dy (ad:=ad) (n:=n) (H:=H) ae tm;have B:=ph l
   cases l with
   | nil=>
     have y:=Un (ad:=ad) (n:=n);simp only [go_sem,hF,E_,Ae,t];rw [zV];simp only [go_sem,hF,cO,y];exact .inl ⟨.V,⟨[],.inl ⟨rfl,rfl⟩,(λp=>by rw [<-E]),(λ_ i=>by cases i),fV _⟩,e.mk rfl w (Ad H _ _)⟩
   | cons b l=>
     obtain ⟨f,d,u⟩: ∃f d,eW (b::l)=f::d:=by
      cases s:eW (b::l) with
      |nil=>rw [s] at B;simp at B
      |cons f d=>exact ⟨f,d,rfl⟩
     have aQ:=u;rw [u] at B;simp only [cl] at B ae ag;have aF:eC (f::d):=by rw [<-u];exact r.sort
     have j:d.length=l.length:=ab;have P:eY 9 22 H ((b::l).length-1) (eW (b::l))=mq H (cO 9 H.n (b::l)) (q 9+l.length) (q 9+l.length) (f::d):=by rw [u];simp only [eY,cO,j,cl,tD]
     have hT:Z (mq H (cO 9 H.n (b::l)) (q 9+l.length) (q 9+l.length) (f::d)):=by
      rw [<-P,u];have D:=Fb w (f::d);refine ⟨D.1,λa7 r=> ?_⟩;simp only [eY,af.push,b2] at r;rcases r with rfl|rfl|r
      . exact ba.2 λv K=>by obtain ⟨p,-,rfl⟩:=cd.1 K;rfl
      . exact D.2 _ (by simp [eY,af.push])
      . exact D.2 a7 (by simp [eY,af.push,r])
     obtain ⟨g,L,M,⟨aC,-⟩,aE,bl,aw,y⟩:=ar ad (n+1) ab ab H (cO 9 H.n (b::l)) (q 9+l.length) (q 9+l.length) (l.length+1) (f::d) hT aF (by simp [j]) ab ab (aT _) ab ab;have T:(mq H (cO 9 H.n (b::l)) (q 9+l.length) (q 9+l.length) (f::d)).get H.n=some (.cells (q 22) (q 22) 0 [cO 9 H.n (b::l)]):=ta _ _ _;have S:(dr H (b::l)).get H.n=some (.cells (q 22) (q 22) 0 [cO 9 H.n (b::l)]):=E_ H (b::l) 0;have t:=λtm=>Dy (ad:=ad) (n:=n) (H:=H) (l:=b::l) da tm;rw [P] at t;have ao:cO 9 H.n (b::l)= .ref (H.n+1) (q 9+l.length) 0 1 (l.length+1) false:=rfl;rw [ao] at t y S T;generalize bh:mq H (.ref (H.n+1) (q 9+l.length) 0 1 (l.length+1) false) (q 9+l.length) (q 9+l.length) (f::d)=bb at*;simp only [go_sem,hF,S,t,T,y];have ax:(mq H (.ref (H.n+1) (q 9+l.length) 0 1 (l.length+1) false) (q 9+l.length) M (g++L)).get (H.n+1)=some (.cells (q 9+l.length) M 0 ((g++L).map λp=>aa.str p.1 p.2)):=dL (H.push _) _;have s:sub ((g++L).map λp=>aa.str p.1 p.2) 0 (g.length*1)=some (g.map iu).flatten:=by unfold sub;rw [if_pos ai,rF,HK,vR,C7 ai]
     have ah:=o9 49 (H.n+1) (q 9+l.length) 0 1 g.length false _ ax aw al s (λv K=>fi _ 49 v (fr 20 49 v al ((Mo g).aI v K)));have W:=k3 1 (g.map iu) (aaz g);rw [di] at W;rw [W] at ah;exact .inl ⟨_,⟨g,.inr ⟨false,rfl⟩,λp=>by rw [aC p,<-aQ,aal,E],aE,ab⟩,_,_,_,rfl,ah,gV w ((((U.refl H).push _).push _).set ab _) rfl⟩
def DS (ks vs:List aa) (l m:Nat):Option (Nat×Nat):=match c2 (cU l m) ks vs 0 with
 |some (_,.str a b)=>some (a,b)
 |_=>none
def alx:ak1->mf->mf
 | .n f _ b c d e _ _,a=>if f==6&& !(b==1&&c==95) then (match DS a.1 a.2.1 b c with
   |none=>(h3 (cU b c) (.str b c) a.1 a.2.1,h4 (cU b c) (.str d e) a.1 a.2.1,a.2.2)
   |some (g,h)=>if !(g==d&&h==e)&&((a.2.2.1==0&&a.2.2.2==0)||js b c a.2.2.1 a.2.2.2) then (a.1,a.2.1,b,c) else a) else a
def asn (x:List aa) (w:aN x): ∃D,∀ad n,D<=ad->D<=n-> ∀(H:af) (s:mf) (d:Int),Z H->lK s->
    lK (alx (ah2 x) s)/\ ∀tm,cx G (X G R ad n) (.fn (.func 251) [] [.ptr H.n (q 226) 0 1,.ptr (H.n+1) (q 9) 0 1]) [.agg x,.int .i64 d] (d_ H s) tm= .ok (.av []) tm (d_ H (alx (ah2 x) s)):=by
 obtain ⟨C,F,b,e,k,l,ai,aj,ab,ae,w,U,V⟩:=w.ea;rw [ah9 w U V];refine ⟨1,λad n ak al H s d aq S=> ?_⟩;obtain ⟨n,rfl⟩:=bY n;obtain ⟨rfl,W,Y⟩:=w.c;obtain ⟨a,g,i,j⟩:=s;obtain ⟨o,p,u⟩:=S;simp only at o p u;generalize v:alx (.n C F b e k l (ab.map ah2) (ae.map ah2)) (a,g,i,j)=B;have y:=df.at (E:=G) (R:=R) (f:=251) (m:=45) (ad:=ad) (n:=n) (args:= [.agg [.int .i64 C,.int .i64 F,.str b e,.str k l,ai,aj],.int .i64 d,.ptr H.n (q 226) 0 1,.ptr (H.n+1) (q 9) 0 1]) (H:=d_ H (a,g,i,j))
  (Q:=λI A=>I= .av []/\lK B/\A=d_ H B) rfl rfl rfl rfl rfl rfl rfl rfl ?_
 . obtain ⟨I,A,⟨rfl,P,rfl⟩,K⟩:=y;exact ⟨P,λtm=>by simp only [eg,a6,bl];exact K tm⟩
 simp only [alx] at v;obtain ⟨r,t,ok,M,L⟩: ∃r t ok,(∀h,iM G 226 (.map (H.n+1+1)) (.str b e) true (d_ H (a,g,h))=some (.av [.str r t,.bool ok]))/\DS a g b e=if ok then some (r,t) else none:=by
  have y: ∀h,iM G 226 (.map (H.n+1+1)) (.str b e) true (d_ H (a,g,h))=some (jX true (.str 0 0) (c2 (cU b e) a g 0)):=λh=>tP (cK:=0) G FP lA (by simp only [mapOf,EZ]) z9 o p;unfold DS
  cases z:c2 (cU b e) a g 0 with
  |none=>exact ⟨0,0,false,λh=>by rw [y,z];rfl,rfl⟩
  | some ag=>
    obtain ⟨ar,ah⟩:=ag;obtain ⟨au,-,-,T⟩:=BS z;obtain ⟨r,t,rfl⟩:=u ah (aV T);exact ⟨r,t,true,λh=>by rw [y,z];rfl,rfl⟩
 rw [L] at v;have N: ∀h tm,ih G 226 (.map (H.n+1+1)) (.str b e) (.str k l) tm (d_ H (a,g,h))= .ok (.av []) tm (d_ H (h3 (cU b e) (.str b e) a g,h4 (cU b e) (.str k l) a g,h)):=λh tm=>by refine zu rfl rfl ?_;rw [Ai G FP lA (EZ H (a,g,h)) o p,aag]
 have an: ∀i j,lK (a,g,i,j):=λi j=>⟨o,p,u⟩;have ao: ∀i j,lK (h3 (cU b e) (.str b e) a g,h4 (cU b e) (.str k l) a g,i,j):=λi j=>⟨CD o,CF p,CE u ⟨k,l,rfl⟩⟩;simp only [go_sem,W.J,Y.J]
 iterate 9 all_goals try (refine df.aE ?_ ?_<;>intro O<;>simp only [go_sem,O,L6,L7,L8,M,N])
 all_goals first
  |exact df.mk rfl ⟨rfl,by rw [<-v];first|(simp_all;done)|(simp_all;grind),(pV rfl).trans (by rw [<-v];first|(simp_all;done)|(simp_all;grind))⟩
def asm {r:List aa} (h:AH r): ∃k,∀ad c,k<=ad->k<=c-> ∀(H:af) (s:mf) (d:Int),Z H->lK s->
    lK (ak6 alx (tl (ah2 r)) s)/\ ∀tm,az G (X G R ad c) 185 [.agg r,.int .i64 d,EY H] (d_ H s) tm= .ok (.av []) tm (d_ H (ak6 alx (tl (ah2 r)) s)):=by
 obtain ⟨j,g,h⟩:=h;obtain ⟨p,l⟩:=anf (F:=alx) (ι:=af) (σ:=mf) (amh:=Z) (P:=λ_ s=>lK s) (W:=λ_=>0) (cS:=d_) (pE:=10000001) (fv:=EY) (λH s b a=>aah b s a) (λ_=>⟨rfl,λ_=>rfl⟩) (λ_ _ _ _ _=>pV rfl) (λq o=>by obtain ⟨k,m⟩:=asn q o;exact ⟨k,λad j f g H s d b a _=>by obtain ⟨i,e⟩:=m ad j f g H s d b a;exact ⟨i,ab,e⟩⟩) h g;exact ⟨p,λad c f n H s d b a=>by obtain ⟨i,-,e⟩:=l ad c f n H s d b a ab;exact ⟨i,e⟩⟩
def apy (rows:Y) (h: ∀r∈rows,AH r) (E:rows.length<4611686018427387904):bo λad n=> ∀x H,Z H->cG H 6 x rows->
    ∃v,(∃ks vs a b,v= .av [.ck ks vs,.str a b]/\(ks,vs,a,b)=ak6 alx (py (rows.map ah2)) ([],[],0,0))/\ ∀tm,az G (X G R ad n) 187 [x] H tm= .ok v tm H:=by
 obtain ⟨U,B⟩:=dE (l:=rows) (Q:=λr ad u=> ∀(H:af) (c:mf) (y:Int),Z H->lK c->
  lK (ak6 alx (tl (ah2 r)) c)/\ ∀tm,az G (X G R ad u) 185 [.agg r,.int .i64 y,EY H] (d_ H c) tm= .ok (.av []) tm (d_ H (ak6 alx (tl (ah2 r)) c))) λr d=>asm (h r d)
 refine ⟨U+rows.length+2,λad n ai aj x H k e=> ?_⟩;obtain ⟨n,rfl⟩:=bY n;have D: ∀r∈rows,r.length=6:=λr d=>by obtain ⟨n,-,d⟩:=h r d;exact d.wt.len
 refine hg (aL.at (m:=18) rfl rfl rfl rfl rfl (by simp only [aO,e.aD];rfl) rfl rfl ?_);simp only [go_sem,e.O,e.len,lq,aae,aad];generalize ah:a1 _ _ _ _ _ _ _ _ _ _=w;revert w;refine hz _ _ _ _ (σ:=mf) (λ_=> [(2,.ptr H.n (q 226) 0 1),(3,.ptr (H.n+1) (q 9) 0 1),(7,x)]) (λc=>d_ H c) (λo c=>c=ak6 alx (py ((rows.take o).map ah2)) ([],[],0,0)/\lK c) 19 rows.length ([],[],0,0) rfl rfl (λ_=>rfl) rfl ⟨rfl,λ_ d=>(by cases d),rfl,λ_ d=>(by cases d)⟩
  dC ab E ?_ ?_
 . rintro o c tm C ⟨g,j⟩ hF;obtain ⟨r,i⟩:=bA C;have f:=aV i;have P:ak6 alx (tl (ah2 r)) c=ak6 alx (py ((rows.take (o+1)).map ah2)) ([],[],0,0):=by rw [fg,i,vR,am0,ak6,ak6,anc,g];simp [py]
   obtain ⟨N,z⟩:=B ad n ab ab r f H c 1 k j;generalize ak6 alx (tl (ah2 r)) c=V at*;obtain ⟨aq,K,L,M,-⟩:=(e.up k.1 (L9 H c)).at D i;obtain ⟨u,-,F⟩:=h r f;obtain ⟨an,ao,W,ae,aa,ag,ar,aw,ak,al,rfl,S,T⟩:=F.wt.t;simp only [go_sem,hF,e.O,K,L,M,S.J,T.J,z];exact au.next V rfl ⟨P,N⟩ ay
 . rintro ⟨ks,vs,a,b⟩ tm ⟨g,j⟩ hF;rw [bX] at g;simp only [go_sem,hF,L6,L7,aaf,L8];obtain ⟨p,A,s⟩:=j;simp only at p A s;have f:=zA 48 (EZ H (ks,vs,a,b)) (ba.2 λx e=>by (obtain ⟨a,b,rfl⟩:=p x e;rfl)) (ba.2 λx e=>by (obtain ⟨a,b,rfl⟩:=s x e;rfl));have I:aZ bR (.av [.map (H.n+1+1),.str a b]) (d_ H (ks,vs,a,b))=some (.av [.ck ks vs,.str a b],(d_ H (ks,vs,a,b)).set (H.n+1+1) (.map true ks vs)):=by show aZ (49+1) _ _=_;rw [aZ,lk f (lk rfl rfl)];simp only [bu]
   exact .inl ⟨_,⟨ks,vs,a,b,rfl,g⟩,_,_,_,rfl,I,gV k ((L9 H _).set ab _) rfl⟩
def aoz:ak1->Bool
 | .n a _ b c _ _ _ _=>aiD a||(a==6&& !(b==1&&c==95))
def alR (ky:List ak1) (i:Nat):Bool:=match ky[2*i]? with
 |some a=>aoz a
 |none=>true
def al9:ak1->Bool
 | .n a _ c d _ _ b _=> !(a==6&&(c==1&&d==36))&&(!(a==8)||(List.range b.length).all (alR b))
def aqE (f:ak1->Bool) (l:List ak1) (b:Bool):ak6 (λt b=>b&&f t) l b=(b&&l.all f):=by
 induction l generalizing b with
 |nil=>simp [ak6]
 |cons t l a=>rw [ak6,amL,<-ak6,a];simp [anz]
def ar6 (f:Nat->Bool) (j:Nat):(List.range (j+1)).all f=((List.range j).all f&&f j):=by rw [aor,rE];simp
def aqS (x:List aa) (r:aN x): ∃an,∀ad n,an<=ad->an<=n-> ∀(H:af) (b:Bool) (d:Int),Z H->
    ∀tm,cx G (X G R ad n) (.fn (.func 188) [] [.ptr H.n (q 4) 0 1]) [.agg x,.int .i64 d] (ns H b) tm= .ok (.av []) tm (ns H (b&&al9 (ah2 x))):=by
 obtain ⟨i,z,s,t,y,A,F,I,a,ao,r,T,aC⟩:=r.ea;rw [ah9 r T aC];obtain ⟨aJ,o⟩:=C.all (l:=a) (f:=158) (g:=λj=> [.agg j]) (v:=λx=> .bool (match x with| .int _ i::_=>aiD i|_=>false)) λj L=>by obtain ⟨i,z,s,t,y,A,F,I,a,ao,r,-,-⟩:=(T j L).ea;have:=ajg r;obtain ⟨rfl,-⟩:=r;exact this
 refine ⟨aJ+a.length+2,λad n aT aU H b d aF=> ?_⟩;obtain ⟨n,rfl⟩:=bY n;obtain ⟨rfl,-,-,-,-,D,aI,aW,-⟩:=r;generalize B:(b&&al9 (.n i z s t y A (a.map ah2) (ao.map ah2)))=aw;simp only [al9,di] at B;have aK:=df.at (E:=G) (R:=R) (f:=188) (m:=46) (ad:=ad) (n:=n) (args:= [.agg [.int .i64 i,.int .i64 z,.str s t,.str y A,F,I],.int .i64 d,.ptr H.n (q 4) 0 1]) (H:=ns H b)
  (Q:=λaq u=>aq= .av []/\u=ns H aw) rfl rfl rfl rfl rfl rfl rfl rfl ?_
 . obtain ⟨aq,u,⟨rfl,rfl⟩,ax⟩:=aK;exact λtm=>by simp only [eg,a6,bl];exact ax tm
 refine df.seq (λtm u=>ns H b=u/\aM 49 [(2,.ptr H.n (q 4) 0 1),(3,.W 0 [.int .i64 i,.int .i64 z,.str s t,.str y A,F,I])] tm) ?_ ?_
 . simp only [go_sem,D.J,aI.J];exact dD.mk ⟨rfl,dC⟩
 rintro tm _ ⟨rfl,hF⟩;obtain ⟨w,K⟩: ∃w,w=(b&& !(i==6&&(s==1&&t==36))):=⟨_,rfl⟩;rw [<-anz,<-K] at B;refine df.seq (λtm u=>ns H w=u/\aM 49 [(2,.ptr H.n (q 4) 0 1),(3,.W 0 [.int .i64 i,.int .i64 z,.str s t,.str y A,F,I])] tm) ?_ ?_
 . cases b with
   | false=>
     simp only [go_sem,hF];exact dD.mk ⟨by rw [K];rfl,ay⟩
   | true=>
     simp only [go_sem,hF]
     iterate 3 all_goals try (refine dD.aE ?_ ?_<;>intro p<;>simp only [go_sem,p,hF])
     all_goals exact dD.mk ⟨by rw [K];first|(simp_all;done)|(simp_all;grind),ay⟩
 clear hF K;rintro tm _ ⟨rfl,hF⟩;simp only [go_sem,hF];refine df.aE ?_ ?_<;>intro p<;>simp only [go_sem,p]
 rotate_left
 . exact df.mk rfl ⟨rfl,(pV rfl).trans (by rw [<-B,p];simp)⟩
 rw [p,alI,anB] at B;generalize aR:a1 _ _ _ _ _ _ _ _ _ _=au;revert au;refine rP _ _ _ _ (λe tm ar=>ar=ns H (w&&(List.range e).all (alR (a.map ah2)))/\aM 49 [(2,.ptr H.n (q 4) 0 1),(3,.W 0 [.int .i64 i,.int .i64 z,.str s t,.str y A,F,I]),(5,.int .i64 ((2*e:Nat):Int))] tm) a.length ab ⟨ai,by simp only [go_sem,hF];rfl⟩ ?_;clear hF;rintro e tm _ aS ⟨rfl,hF⟩;simp only [go_sem,hF,D.O,D.len];refine dy.aE ?_ ?_<;>intro N<;>simp only [go_sem,hF,N,D.O]
 rotate_left
 . refine dy.stop rfl ?_;simp only [go_sem];refine df.mk rfl ⟨rfl,(pV rfl).trans ?_⟩;have ag:a.length<=2*e:=by simp at N;omega
   have:(List.range a.length).all (alR (a.map ah2))=(List.range e).all (alR (a.map ah2)):=by
    rw [jU,ba,ba];have aA: ∀h,e<=h->alR (a.map ah2) h=true:=λh S=>by unfold alR;rw [vQ (by rw [di];omega)]
    refine ⟨λP h S=> ?_,λP h S=> ?_⟩
    . rw [h9] at S;rcases qk h a.length with o|o
      . exact P h (h9.2 o)
      . unfold alR;rw [vQ (by rw [di];omega)]
    . rcases qk h e with o|o
      . exact P h (h9.2 o)
      . exact aA h o
   rw [<-B,this]
 have ag:2*e<a.length:=by simp at N;omega
 obtain ⟨j,U⟩: ∃j,a[2*e]? =some j:=⟨a[2*e],by simp [ag]⟩;have L:=aV U;have aD:=ar6 (alR (a.map ah2)) e;generalize az:(w&&(List.range e).all (alR (a.map ah2)))=V at*;have M:(w&&(List.range (e+1)).all (alR (a.map ah2)))=(V&&alR (a.map ah2) e):=by rw [aD,<-az,anz]
 have aB:alR (a.map ah2) e=aoz (ah2 j):=by unfold alR;rw [hO,U];rfl
 rw [aB] at M;have Y:=λtm=>o ad n ab ab j L (ns H true) tm (Gb aF true);obtain ⟨aZ,a7,aL,aP,aO,aQ,a8,bb,aX,aY,al,aG,aH⟩:=(T j L).ea;rw [ah9 al aG aH,aoz] at M;obtain ⟨rfl,aj,ak⟩:=al.c;simp only at Y;have ah:IntKind.i64.wrap (((2*e:Nat):Int)+2)=((2*(e+1):Nat):Int):=by rw [wrap64 _ ab ab];omega
 have ae:=D.a_ (k:=6) U rfl
 cases V with
 | false=>
   simp only [go_sem,hF,ae,aj.J,ak.J,ah];exact dy.next (by show e<a.length;omega) ⟨by rw [M];rfl,ay⟩
 | true=>
   simp only [go_sem,hF,ae,aj.J,ak.J,Y]
   iterate 3 all_goals try (refine dy.aE ?_ ?_<;>intro p<;>simp only [go_sem,p,hF,ah])
   all_goals exact dy.next (by show e<a.length;omega) ⟨by rw [M];first|(simp_all;done)|(simp_all;grind),ay⟩
def alh (P:Prop) (f:Nat) (args:List aa) (ad n:Nat) (H:af):Prop:=(P/\ ∀a,az G (X G R ad n) f args H a= .ok (.av []) a H)\/ ∃b,(fA b/\ ¬P)/\ ∀a,az G (X G R ad n) f args H a= .aK b H
def alG (P:Prop) (v:aa):Prop:=v= .av []/\P
def alF (P:Prop) (v:aa):Prop:=fA v/\ ¬P
def ama {f:Nat} {args:List aa} {ad n:Nat} {H:af} {P:Prop} (ag:(∃v,alG P v/\ ∀tm,az G (X G R ad n) f args H tm= .ok v tm H)\/(∃v,alF P v/\ ∀tm,az G (X G R ad n) f args H tm= .aK v H)):alh P f args ad n H:=by
 rcases ag with ⟨v,⟨rfl,b⟩,a⟩|ag
 . exact .inl ⟨b,a⟩
 . exact .inr ag
def ak.ame {P:Prop} {H H':af} (b:Z H) (a:U H H') (ag:P):ak (alG P) (alF P) H (.ret (.av []) H'):=ak.mk ⟨rfl,ag⟩ rfl b a
def ak.al7 {P:Prop} {H H':af} {c:Int} {l m:Nat} {a b:Int} (f:Z H) (e:U H H') (d:c≠0) (ag: ¬P):ak (alG P) (alF P) H (.aK (.iface 78 (.agg [.int .i64 c,.str l m,.int .i64 a,.int .i64 b])) H'):=ak.aK ⟨lO c d _ _ _ _,ag⟩ rfl f e
def ak.amw {P:Prop} {H H':af} {v:aa} (c:Z H) (b:U H H') (a:fA v) (ag: ¬P):ak (alG P) (alF P) H (.aK v H'):=ak.aK ⟨a,ag⟩ (a.aI 17) c b
def alY (l:List ak1):Prop:=(ak6 alx (py l) ([],[],0,0)).2.2=(0,0)
def al6 (k l:List ak1):Prop:= ∀a∈(py l).flatMap ak9,(a≠(1,95)/\a≠(1,36))/\a∈(py k).flatMap alm
def apM {α:Type} {rows:List α} {j:Nat} {r x:α} (ag:rows[j]? =some r) (a:x∈rows.take (j+1)):x∈rows.take j\/x=r:=by
 rw [fg,ag] at a;simpa using a
def aqe {l:List (Nat×Nat)} (p q:Nat):(l.map iu).any (isStr p q)=true↔(p,q)∈l:=by
 rw [List.any_map,kB];simp only [Function.comp,iu,ajc,br,beq_iff_eq];exact ⟨λ⟨⟨c,d⟩,ag,a,b⟩=>by simp only at a b;rwa [<-a,<-b],λag=>⟨_,ag,rfl,rfl⟩⟩
def apD (rows:Y) (N:Nat) (hN:N<1048560) (i:bL rows N):bo λad n=> ∀(a b:Int) x H,Z H->cG H 6 x rows->alh (alY (rows.map ah2)) 126 [.agg [.int .i64 a,.int .i64 b],x] ad n H:=by
 obtain ⟨k,e⟩:=apy rows (i.ok hN) (by have:=i.len;omega);obtain ⟨l,f⟩:=gu 16 al;refine ⟨k+l+1,λad n u v a b x H c g=> ?_⟩;obtain ⟨n,rfl⟩:=bY n;obtain ⟨y,⟨w,z,q,r,rfl,j⟩,e⟩:=e ad n ab ab x H c g;have f:=λo p t=>f ad n ab ab o p a b H t c;refine ama (aL.at (m:=14) rfl rfl rfl rfl rfl (by simp only [aO,g.aD];rfl) rfl rfl ?_);have h:alY (rows.map ah2)↔(q==0&&r==0)=true:=by unfold alY;rw [<-j];simp
 simp only [go_sem,g.O,e];refine ak.aE ?_ ?_<;>intro d<;>simp only [go_sem,d,f]
 . exact ak.ame c (U.refl _) (by rw [h];simpa using d)
 . exact ak.al7 c (U.refl _) al (by rw [h];simpa using d)
section
variable {ax:aa} {s:List aa} {kN aw rop ao aJ:Y} (ag:dO ax s kN aw rop ao aJ)
include ag
theorem ang (rows:Y) (i: ∀r∈rows,aN r) (aC:rows.length<4611686018427387904):bo λad n=> ∀x c d (a b:Int) (l m:Nat) H,Z H->dP H c d ax->cG H 6 x rows->
  alh (∀r∈rows,tk kN aw rop ao (ah2 r)=true) 123 [c,.agg [.int .i64 a,.int .i64 b],.str l m,x] ad n H:=by
 obtain ⟨ae,F⟩:=C.all (l:=rows) (f:=184) (g:=λr=> [ax,.agg r]) (v:=λr=> .bool (tk kN aw rop ao (ah2 r))) λr h=>apv ag (i r h);obtain ⟨af,G⟩:=gu 16 al;obtain ⟨ah,aR,aS,aT,aU,aW⟩:=ag.val;refine ⟨ae+af+rows.length+2,λad n aB aF x c d a b l m H p L j=> ?_⟩;obtain ⟨n,rfl⟩:=bY n;obtain ⟨id,e,az,aP,rfl,P,N,M⟩:=L;have R: ∀r∈rows,r.length=6:=λr ag=>(i r ag).len;have K:=dP.te (ax:=ax) M;refine ama (aL.at (m:=23) rfl rfl rfl rfl rfl (by simp only [aO,j.aD];rfl) rfl rfl ?_);simp only [go_sem,j.O,j.len];generalize aA:a1 _ _ _ _ _ _ _ _ _ _=D;revert D;have hF:=trivial;refine dA [0,2,5,10] (λz=> ∀r∈rows.take z,tk kN aw rop ao (ah2 r)=true) rows.length ai ?_ ?_
 . intro z s k Q o hF;obtain ⟨r,y⟩:=bA Q;have h:=aV y;have W:=λr (i:r∈rows.take (z+1))=>tT y i;have q:=λk=>F ad n ab ab r h H k p;have E:=λl m a b k=>G ad n ab ab l m a b H k p;obtain ⟨aM,S,T,A,-⟩:=j.at R y;generalize u:tk kN aw rop ao (ah2 r)=aq at q;obtain ⟨aI,aK,aj,ar,an,av,aQ,aX,aG,aH,V,X,aa⟩:=(i r h).t;rw [V] at A q;simp only [go_sem,hF,j.O,S,T,A,X.J,aa.J,P,N,K,ah,q];refine au.aE ?_ ?_<;>intro e<;>simp only [go_sem,hF,e,E]
   . exact au.next () rfl (λB w=>by rcases W B w with w|rfl;exact o B w;rw [u,e]) ay
   . exact au.stop rfl (by simp only [go_sem];exact ak.al7 p (U.refl _) al λI=>by rw [I r h] at u;rw [<-u] at e;cases e)
 . intro s k o hF;rw [bX] at o;simp only [go_sem];exact ak.ame p (U.refl _) o
theorem amY {r} (k:aN r):bo λad n=> ∀c d (a b:Int) (l m ls ms:Nat) H,Z H->dP H c d ax->alh (ak4 kN aw (ak3 kN rop ao (ah2 r)) [.str ls ms]=true) 128 [c,.agg [.int .i64 a,.int .i64 b],.str l m,.agg r,.str ls ms] ad n H:=by
 obtain ⟨y,h⟩:=Ve ag k;obtain ⟨z,i⟩:=gu 16 al;obtain ⟨A,j⟩:=MQ ag;obtain ⟨D,V,W,X,Y,aa⟩:=ag.val;refine ⟨y+z+A+1,λad n L M c d a b l m ls ms H e o=> ?_⟩;obtain ⟨n,rfl⟩:=bY n;have h:=λf=>h ad n ab ab c d H f e o;have i:=λf=>i ad n ab ab l m a b H f e;have j:=λl m B C f=>j ad n ab ab (l,m,B,C) trivial H f e;obtain ⟨id,g,K,R,rfl,v,u,q⟩:=o;have p:=dP.te (ax:=ax) q;refine ama (aL.at (m:=18) rfl rfl rfl rfl rfl rfl rfl rfl ?_);rw [ap2 k];generalize eh kN rop ao r=S at*;obtain ⟨P,Q,E,G,F,I,T,ae,N,O,rfl,w,x⟩:=k.t;simp only [go_sem,w.J,x.J,v,u,p,D,h,j,ag.same];refine ak.aE ?_ ?_<;>intro g<;>simp only [go_sem,g,i]
 . exact ak.ame e (U.refl _) g
 . exact ak.al7 e (U.refl _) al (by simp only [ak4];rw [g];decide)
omit ag in
theorem apB (ani rows:Y) (N M:Nat) (hN:N<1048560) (pZ:M<1048560) (cQ:bL ani N) (bh:bL rows M):bo λad n=> ∀(a b:Int) y x H,Z H->cG H 6 y ani->cG H 6 x rows->
  alh (al6 (ani.map ah2) (rows.map ah2)) 127 [.agg [.int .i64 a,.int .i64 b],y,x] ad n H:=by
 obtain ⟨gZ,aS⟩:=arb ani N hN cQ;obtain ⟨CJ,bG⟩:=apF rows M pZ bh;obtain ⟨aqV,dS⟩:=gu 17 al;obtain ⟨aqW,fO⟩:=oZ 1048560 al;refine ⟨gZ+CJ+aqV+aqW+1048561,λad n hlf bO a b y x H hw dh bj=> ?_⟩;obtain ⟨n,rfl⟩:=bY n;obtain ⟨v,⟨l1,i1,m1,Ko,ln⟩,aS⟩:=aS ad n ab ab y H hw dh;obtain ⟨w,⟨i2,tX,nZ⟩,bG⟩:=bG ad n ab ab x H hw bj;have p0:al6 (ani.map ah2) (rows.map ah2)↔ ∀p∈eW ((py (rows.map ah2)).flatMap ak9),(p≠(1,95)/\p≠(1,36))/\p∈l1:=by unfold al6;simp only [m1,aal]
 rw [propext p0];clear p0 m1;generalize eW ((py (rows.map ah2)).flatMap ak9)=l2 at i2 tX nZ|-;have dS:=λl m tm=>dS ad n ab ab l m a b H tm hw;have fO:=λl m=>fO ad n ab ab v (l1.map iu) l m H (uO.str Ko) da hw i1.cw;refine ama (aL.at (m:=31) rfl rfl rfl rfl rfl (by simp only [aO,bj.aD,dh.aD];rfl) rfl rfl ?_);simp only [go_sem,bj.O,dh.O,aS,bG,i1.O,i2.O,i2.len];generalize aqK:a1 _ _ _ _ _ _ _ _ _ _=L;revert L;have hF:=trivial;refine dA [3,6,12] (λj=> ∀p∈l2.take j,(p≠(1,95)/\p≠(1,36))/\p∈l1) (l2.map iu).length ai (hlf:=da) (hN:=da) ?_ ?_
 . intro j s tm gE p0 hF;obtain ⟨⟨p,q⟩,oR⟩: ∃r,l2[j]? =some r:=⟨l2[j]'(by simpa using gE),ai⟩;have aqQ:(l2.map iu)[j]? =some (iu (p,q)):=by rw [hO,oR];rfl
   have hm:=aV oR;have aqR:=λr (bh:r∈l2.take (j+1))=>apM oR bh;have fO:=fO p q;have eO:=aqe (l:=l1) p q;generalize (l1.map iu).any (isStr p q)=asF at fO eO;simp only [go_sem,hF,i2.O,i2.a_ (k:=1) aqQ rfl,iu]
   iterate 3 all_goals try (refine au.aE ?_ ?_<;>intro g<;>simp only [go_sem,hF,g,dS,fO,i1.O])
   all_goals first
    |exact au.next () rfl (λr bh=>by rcases aqR r bh with bh|rfl;exact p0 r bh;simp_all) ay
    |exact au.stop rfl (by simp only [go_sem];exact ak.al7 hw (U.refl _) al λaqJ=>by have:=aqJ _ hm;simp_all)
 . intro s tm p0 hF;rw [di,bX] at p0;simp only [go_sem];exact ak.ame hw (U.refl _) p0
def alU (kN aw rop ao:Y) (t:ak1):Prop:=((aln t=true/\tk kN aw rop ao t=true)/\alQ rop t=false/\alY [t])/\ ∀a∈tl t,al9 a=true
theorem apx {r:List aa} {n:Nat} (e:e1 r n) (u:n<=1048560):dt 125 [ax,.agg r] (λw=> ∃b,w= .bool b/\(b=true↔alU kN aw rop ao (ah2 r))) bQ:=by
 obtain ⟨z,aG,ae,aH,aI,aK⟩:=ag.val;obtain ⟨S,l⟩:=apA e.wt;obtain ⟨T,o⟩:=apv ag e.wt;obtain ⟨V,p⟩:=apw ag e ab;obtain ⟨X,t⟩:=apy [r] (λB h=>by rw [bs.1 h];exact ⟨n,ab,e⟩) ai;obtain ⟨Y,k⟩:=anf (ι:=af) (σ:=Bool) (amh:=Z) (P:=λ_ _=>True) (W:=λ_=>0) (cS:=λa b=>ns a b) (pE:=10000001) (F:=λad b=>b&&al9 ad)
  (fv:=λa=> .fn (.func 188) [] [.ptr a.n (q 4) 0 1]) (λa b d _=>Gb d b) (λ_=>⟨rfl,λ_=>rfl⟩) (λ_ _ _ _ _=>pV rfl) (λB h=>by obtain ⟨v,M⟩:=aqS B h;exact ⟨v,λg n N u a b C d _ _=>⟨trivial,ab,M g n N u a b C d⟩⟩) e ab
 obtain ⟨v,aB,az,aC,aA,aD,aN,aP,av,ay,h,-,-⟩:=e.wt.ea;refine aL.run (m:=32) rfl rfl rfl rfl rfl (by simp only [aO,ae];rfl) rfl rfl (S+T+V+X+Y) λg i aq ar a d=> ?_;have l:=λj=>l g i ab ab a j d;have o:=λj=>o g i ab ab a j d;have p:=λj=>p g i ab ab a j d;have O:F (.A [r] true) [r]:= .inr ⟨_,rfl⟩;obtain ⟨aF,⟨au,aM,x,y,rfl,K⟩,t⟩:=t g i ab ab (.A [r] true) a d O.cw;have k:=λb=>(k g i ab ab a b 1 d trivial ab).2.2;have L:=jc (e.wt) a;have I:alU kN aw rop ao (ah2 r)↔(((aln (ah2 r)&&tk kN aw rop ao (ah2 r))&& !alQ rop (ah2 r))&&(x==0&&y==0)&&(tl (ah2 r)).all al9)=true:=by unfold alU alY;rw [<-al2 (f:=ah2),<-K];simp [and_assoc]
 simp only [I];simp only [aqE] at k;generalize aln (ah2 r)=ah at*;generalize tk kN aw rop ao (ah2 r)=aj at*;generalize alQ rop (ah2 r)=al at*;generalize (tl (ah2 r)).all al9=an at*;obtain ⟨rfl,Q,R⟩:=h.c;simp only [go_sem,Q.J,R.J,l];refine ak.aE ?_ ?_<;>intro E<;>simp only [go_sem,E,z,o]
 all_goals try (refine ak.aE ?_ ?_<;>intro G<;>simp only [go_sem,G,z,p])
 all_goals try (refine ak.aE ?_ ?_<;>intro H<;>simp only [go_sem,H,L,bH,t])
 all_goals try exact ak.mk ⟨_,rfl,de⟩ rfl d (U.refl _)
 have D:=k (x==0&&y==0);simp only [go_sem,D,dL];exact ak.mk ⟨_,rfl,de⟩ rfl d ((U.refl _).push _)
end
def alP (kN aw rop ao:Y) (t f:ak1) (l:List ak1):Prop:=match t with
 | .n e n c d h i b g=>(e=5/\j0 ao c d=true)/\(∀a∈ [.n e n c d h i b g,f]++l,tk kN aw rop ao a=true)/\(∀a∈b,alQ rop a=false)/\(∀a∈b,alU kN aw rop ao a)/\
   alY ([f]++l++ [.n e n c d h i b g])/\al6 [.n e n c d h i b g] ([f]++l)/\(∀a∈l,ak4 kN aw (ak3 kN rop ao a) [.str 4 1819242306]=true)/\ak4 kN aw (ak3 kN rop ao f) [M (iQ ao c d) 2]=true
section
variable {ax:aa} {s:List aa} {kN aw rop ao aJ:Y} (ag:dO ax s kN aw rop ao aJ)
include ag
theorem ard {r:List aa} (V:xb r) {N:Nat} (hT:bL ([als r,alu r]++ali r) N) (hN:N<100000):
  bo λad n=> ∀c d H,Z H->dP H c d ax->alh (alP kN aw rop ao (ah2 (als r)) (ah2 (alu r)) ((ali r).map ah2)) 65 [c,.agg r] ad n H:=by
 obtain ⟨j,i,bf,cz,bt,rfl,aW,a8,⟨h,af,bZ,-⟩,⟨w,rfl⟩,⟨y,rfl⟩⟩:=V;have P:als (j++i++ [bf,.int .i64 w,.int .i64 y])=j:=by simp [als,aW.len]
 have R:alu (j++i++ [bf,.int .i64 w,.int .i64 y])=i:=by simp [alu,aW.len,a8.len]
 have cv:ali (j++i++ [bf,.int .i64 w,.int .i64 y])=h:=by obtain ⟨b7,b8,dN,dO,dQ,dR,b9,aq,b6,ec,rfl,-⟩:=aW.t;obtain ⟨b7,b8,dN,dO,dQ,dR,b9,aq,b6,ec,rfl,-⟩:=a8.t;exact bm af
 rw [P,R,cv] at hT;rw [P,R,cv];clear P R cv;have ba:=hT;clear hT;have du:=ba.len;simp only [bl,a6,cl] at du;have dk:=ba.g_ (r:=j) ai;obtain ⟨ar,ck⟩: ∃ar,ar=alP kN aw rop ao (ah2 j) (ah2 i) (h.map ah2):=⟨_,rfl⟩;rw [<-ck];have dx: [ah2 j]= [j].map ah2:=rfl;have eu: [ah2 j,ah2 i]++h.map ah2=([j,i]++h).map ah2:=ai;have dv: [ah2 i]++h.map ah2++ [ah2 j]=([i]++h++ [j]).map ah2:=ai;have dw: [ah2 i]++h.map ah2=([i]++h).map ah2:=ai
 cases en:aW with
 | @mk _ aD bj K L bg bh bq br u eE bV b0 cN=>
 cases eo:a8 with
 | @mk _ aF aI aN P aO R aR aS eD eF dm ep er=>
 have Y:ar↔(aD=5/\j0 ao K L=true)/\(∀b∈ [j,i]++h,tk kN aw rop ao (ah2 b)=true)/\(∀b∈u,alQ rop (ah2 b)=false)/\(∀b∈u,alU kN aw rop ao (ah2 b))/\
   alY (([i]++h++ [j]).map ah2)/\al6 ([j].map ah2) (([i]++h).map ah2)/\(∀b∈h,ak4 kN aw (ak3 kN rop ao (ah2 b)) [.str 4 1819242306]=true)/\ak4 kN aw (ak3 kN rop ao (ah2 i)) [M (iQ ao K L) 2]=true:=by
  rw [ck,<-dv,<-dw,<-dx];rw [ah9 bV b0 cN];unfold alP;simp only [cr,b2,dG,or_false,cd,forall_exists_index,and_imp,forall_apply_eq_imp_iff₂,or_imp,forall_and,forall_eq];rw [ah9 bV b0 cN]
 clear ck;have cM: ∀b∈u,∃n,e1 b n/\n<=1048560:=λb bc=>by
  obtain ⟨aj,cp⟩:=dk;generalize mT j=eL at*
  cases aj with
  | @mk _ eB eK eG eI eH eJ eY eZ eC ed cg da dJ ez=>
  obtain ⟨cc,-,-,-,-,a7,-⟩:=bV;obtain ⟨az,-,-,-,-,bS,-⟩:=da;rw [cc] at az;simp only [jn,aa.int.injEq,aa.str.injEq,and_true,true_and] at az;obtain ⟨-,-,-,-,rfl,rfl⟩:=az;obtain rfl:=qe a7 bS;refine ⟨cg b,dJ b bc,?_⟩;have:cg b<=((u++ed).map cg).sum:=o3 ah;omega
 obtain ⟨dS,ch⟩:=(MN ag).c (K,L) trivial;obtain ⟨dU,dc⟩:=ang ag ([j,i]++h) ba.wt ah;obtain ⟨dV,dd⟩:=C.all (l:=u) (f:=124) (g:=λr=> [ax,.agg r]) (v:=λb=> .bool (alQ rop (ah2 b))) λb bc=>by obtain ⟨n,aj,cp⟩:=cM b bc;exact apw ag aj ab
 obtain ⟨dW,df⟩:=aL.j8 (l:=u) (f:=125) (g:=λr=> [ax,.agg r]) (S:=λb cb=> ∃bt,cb= .bool bt/\(bt=true↔alU kN aw rop ao (ah2 b))) λb bc=>by obtain ⟨n,aj,cp⟩:=cM b bc;exact apx ag aj cp
 have bW:bL ([i]++h++ [j]) N:= .mk (λb bc=>(ba.g_ ah).1) (by have:=ba.sum;grind);have cI:bL ([i]++h) N:=bW.left;obtain ⟨dX,dg⟩:=apD ([i]++h++ [j]) N ab bW;obtain ⟨dY,dh⟩:=apB [j] ([i]++h) N N ab ab bW.right cI;obtain ⟨dZ,di⟩:=dE (l:=h) (Q:=λr ad n=> ∀c d (cz bt:Int) (aG aH aX aY:Nat) H,Z H->dP H c d ax->alh (ak4 kN aw (ak3 kN rop ao (ah2 r)) [.str aX aY]=true) 128 [c,.agg [.int .i64 cz,.int .i64 bt],.str aG aH,.agg r,.str aX aY] ad n H) λr E=>amY ag (bZ r E);obtain ⟨ea,dj⟩:=amY ag a8;obtain ⟨eb,cj⟩:=gu 15 al;obtain ⟨dT,db⟩:=gu 16 al;obtain ⟨cx,aP,eT,eU,eV,eW⟩:=ag.val;have dy:=qA ag.bT.cP K L;refine ⟨dS+dU+dV+dW+dX+dY+dZ+ea+eb+dT+u.length+h.length+2,λad n et aj c d H I bD=> ?_⟩;obtain ⟨n,rfl⟩:=bY n;have ch:=λH I a=>ch ad n ab ab H a I;have cn:=bD;obtain ⟨id,p,ef,eO,rfl,dt,ds,dr⟩:=bD;have cm:=dP.te (ax:=ax) dr;have dp:=A4 aW a8 H;generalize alQ rop=hT at*;generalize alU kN aw rop ao=cY at*;generalize ej:(∀b∈ [j,i]++h,tk kN aw rop ao (ah2 b)=true)=c2 at*;generalize ek:alY (([i]++h++ [j]).map ah2)=c3 at*;generalize ei:al6 ([j].map ah2) (([i]++h).map ah2)=c1 at*;generalize ey:ak3 kN rop ao (ah2 i)=eR at*;obtain ⟨rfl,eX,-,eQ,-,aB,dL,ev,-⟩:=bV;obtain ⟨rfl,dK,dM⟩:=dm.c;generalize iQ ao K L=eM at*;generalize j0 ao K L=cW at*;obtain ⟨cU,cV,ee,aX,aY,eS,⟨⟨cA,cX,cZ,cQ,cS,rfl,dn,dB,⟨eN,dz,-⟩⟩,-⟩⟩:=dy;have dF:M [.str cU cV,cA,.str aX aY,cX,.int .i64 cQ,.int .i64 cS,cZ] 2= .str aX aY:=rfl;rw [dF] at Y;refine ama (aL.at (m:=142) rfl rfl rfl rfl rfl rfl rfl rfl ?_);simp only [bl,a6];generalize F: [aa.int .i64 aD,.int .i64 bj,.str K L,.str bg bh,bq,br,.int .i64 aF,.int .i64 aI,.str aN P,.str aO R,aR,aS,bf,.int .i64 w,.int .i64 y]=bp at*;refine ak.seq (λa e=>H=e/\aM 144 [(0,.ptr id p 0 14),(3,.W 0 bp),(4,.av []),(6,.av [])] a) ?_ ?_
 . subst F;simp only [go_sem,aB.J,dL.J,dK.J,dM.J,af.J];exact dD.mk ⟨rfl,dC⟩
 rintro a _ ⟨rfl,hF⟩;refine ak.seq (λa e=>H=e/\aM 144 [(0,.ptr id p 0 14),(3,.W 0 bp),(4,.W 0 [.int .i64 w,.int .i64 y]),(6,.av [])] a) ?_ ?_
 . subst F;simp only [go_sem,hF];exact dD.mk ⟨rfl,ay⟩
 clear hF;rintro a _ ⟨rfl,hF⟩;refine ak.P0 hF (λq a e=>H=e/\aM 144 [(5,.str 0 0)] a/\q a) ?_ ?_
 . simp only [go_sem];exact dD.mk ⟨rfl,ay⟩
 clear hF;rintro a _ ⟨rfl,hF⟩;refine ak.seq (λa e=>H=e/\ ∃bk bn,aM 144 [(0,.ptr id p 0 14),(3,.W 0 bp),(4,.W 0 [.int .i64 w,.int .i64 y]),(6,.av []),(5,.str bk bn)] a) ?_ ?_
 . subst F;simp only [go_sem,hF]
   iterate 2 all_goals try (refine dD.aE ?_ ?_<;>intro p<;>simp only [go_sem,p,hF])
   all_goals exact dD.mk ⟨rfl,_,_,by simp only [go_sem,hF];trivial⟩
 clear hF;rintro a _ ⟨rfl,bk,bn,hF⟩;have cq: ∀(c:Int) (bD:c≠0) aG aH bP e,U H e-> ¬ar->ak (alG ar) (alF ar) H (fin G [] (.aK (.iface 78 (.agg [.int .i64 c,.str aG aH,.int .i64 w,.int .i64 y])) bP e [])):=λc bD aG aH bP e ct aj=>by simp only [go_sem];exact ak.al7 I ct bD aj
 have b1: ∀ca,fA ca-> ∀bP e,U H e-> ¬ar->ak (alG ar) (alF ar) H (fin G [] (.aK ca bP e [])):=λca dH bP e ct aj=>by simp only [go_sem];exact ak.amw I ct dH aj
 have ew: ∀c0,O c0 (.W 0 bp)= .cR c0 0 0:=λ_=>rfl;refine ak.bM (λa e=>H=e/\aM 144 [(0,.ptr id p 0 14),(3,.W 0 bp),(4,.W 0 [.int .i64 w,.int .i64 y]),(5,.str bk bn),(6,.W 0 [.str cU cV,cA,.str aX aY,cX,.int .i64 cQ,.int .i64 cS,cZ]),(7,.bool cW)] a) ?_ ?_
 . have cc:=ch H I;subst F;simp only [go_sem,hF,dt,ds,cm,cx,cc,dn.J,dB.J,dz.J];exact an.mk ⟨rfl,ay⟩
 clear hF;rintro a _ ⟨rfl,hF⟩;refine ak.np [0,3,4,5,6] (λq a e=>(H=e/\aD=5/\cW=true)/\q a) ?_ ?_
 . have cj:=λaG aH a=>cj ad n ab ab aG aH w y H a I;subst F;simp only [go_sem,hF]
   iterate 2 all_goals try (refine an.aE ?_ ?_<;>intro p<;>simp only [go_sem,p,hF,cj])
   all_goals first
    |exact an.mk ⟨⟨rfl,de⟩,ay⟩
    |exact an.stop rfl (cq 15 al _ _ _ _ (U.refl _) (by rw [Y];simp_all))
 clear hF;rintro a _ ⟨⟨rfl,a7⟩,hF⟩;refine ak.bF hF (λq a e=>(Z e/\U H e/\c2)/\q a) ?_ ?_
 . obtain ⟨bQ,e,bz,aC,ae⟩:=pq (n0:=H.n) (c:=2) (H:=H) (rows:= [[.int .i64 aD,.int .i64 bj,.str K L,.str bg bh,bq,br],[.int .i64 aF,.int .i64 aI,.str aN P,.str aO R,aR,aS]]) (aQ:=h) (v:= .A [[.int .i64 aD,.int .i64 bj,.str K L,.str bg bh,bq,br],[.int .i64 aF,.int .i64 aI,.str aN P,.str aO R,aR,aS]] true) (x:=bf) (.inr (.inl rfl)) I ab ah af.cw bZ ah ab;have bb:=ae.up H ab (U.refl _);have b4:=aC.cw (λr V=>(ba.wt r V).len);have az:=dc ad n ab ab bQ (.ptr id p 0 14) d w y bk bn e ae.tidy (cn.up I.1 bb) b4;subst F;simp only [go_sem,hF,af.O,dp,bH,bz,aC.O];rcases az with ⟨o,az⟩|⟨bU,⟨aA,o⟩,az⟩
   . simp only [go_sem,az];exact an.mk ⟨⟨ae.tidy,bb,o⟩,ay⟩
   . simp only [go_sem,az];exact an.stop rfl (b1 _ aA _ _ bb λD=>o (Y.1 D).2.1)
 clear hF;rintro a aT ⟨⟨b5,bI,bR⟩,hF⟩;have dq:=cn.up I.1 bI;obtain ⟨eA,eh,eg,eP,c9,cL,cK,-⟩:=dq;cases c9;have cE:=λaG aH a=>db ad n ab ab aG aH w y aT a b5;refine ak.bF hF (λq a e=>(aT=e/\ ∀b∈u,hT (ah2 b)=false)/\q a) ?_ ?_
 . subst F;simp only [go_sem,hF,aB.O,aB.len];generalize cF:a1 _ _ _ _ _ _ _ _ _ _=bs;revert bs;refine dA [0,3,4,5,6,69] (λX=> ∀b∈u.take X,hT (ah2 b)=false) u.length ai ?_ ?_
   . intro X s a bE z hF;obtain ⟨b,B⟩:=bA bE;have E:=aV B;have bG:=λr (V:r∈u.take (X+1))=>tT B V;have cf:=λa=>dd ad n ab ab b E aT a b5;generalize bB:hT (ah2 b)=cC at cf;obtain ⟨b7,b8,a7,bS,bR,cB,b9,cb,b6,cT,bK,bN,bO⟩:=(b0 b E).t;rw [bK] at B cf;simp only [go_sem,hF,aB.O,aB.a_ (k:=6) B rfl,bN.J,bO.J,cL,cK,cm,cx,cf];refine au.aE ?_ ?_<;>intro p<;>simp only [go_sem,hF,p,cE]
     . exact au.stop rfl (by simp only [go_sem];exact an.stop rfl (cq 16 al _ _ _ _ bI λD=>by have:=(Y.1 D).2.2.1 b E;rw [bB,p] at this;cases this))
     . exact au.next () rfl (λaq T=>by rcases bG aq T with T|rfl;exact z aq T;rw [bB,p]) ay
   . intro s a z hF;rw [bX] at z;simp only [go_sem];exact an.mk ⟨⟨rfl,z⟩,ay⟩
 clear hF;rintro a _ ⟨⟨rfl,c4⟩,hF⟩;refine ak.bF hF (λq a e=>(aT=e/\ ∀b∈u,cY (ah2 b))/\q a) ?_ ?_
 . subst F;simp only [go_sem,hF,aB.O,aB.len];generalize cF:a1 _ _ _ _ _ _ _ _ _ _=bs;revert bs;refine dA [0,3,4,5,6,87] (λX=> ∀b∈u.take X,cY (ah2 b)) u.length ai ?_ ?_
   . intro X s a bE z hF;obtain ⟨b,B⟩:=bA bE;have E:=aV B;have bG:=λr (V:r∈u.take (X+1))=>tT B V;obtain ⟨ca,⟨cC,rfl,bB⟩,cD⟩:=df ad n ab ab b E aT b5;obtain ⟨b7,b8,a7,bS,bR,cB,b9,cb,b6,cT,bK,bN,bO⟩:=(b0 b E).t;rw [bK] at B cD;simp only [go_sem,hF,aB.O,aB.a_ (k:=6) B rfl,bN.J,bO.J,cL,cK,cm,cx,cD];refine au.aE ?_ ?_<;>intro p<;>simp only [go_sem,hF,p,cE]
     . exact au.next () rfl (λaq T=>by rcases bG aq T with T|rfl;exact z aq T;exact bB.1 p) ay
     . exact au.stop rfl (by simp only [go_sem];exact an.stop rfl (cq 16 al _ _ _ _ bI λD=>by have:=bB.2 ((Y.1 D).2.2.2.1 b E);rw [p] at this;cases this))
   . intro s a z hF;rw [bX] at z;simp only [go_sem];exact an.mk ⟨⟨rfl,z⟩,ay⟩
 clear hF;rintro a _ ⟨⟨rfl,c5⟩,hF⟩;refine ak.bF hF (λq a e=>Z e/\U H e/\ ∃aP,bd H.n 35 6 (1+h.length) e ([[.int .i64 aF,.int .i64 aI,.str aN P,.str aO R,aR,aS]]++h) aP/\aM 144 [(12,aP)] a/\q a) ?_ ?_
 . obtain ⟨bQ,e,bz,aC,ae⟩:=pq (n0:=H.n) (c:=1) (H:=aT) (rows:= [[.int .i64 aF,.int .i64 aI,.str aN P,.str aO R,aR,aS]]) (aQ:=h) (v:= .A [[.int .i64 aF,.int .i64 aI,.str aN P,.str aO R,aR,aS]] true) (x:=bf) (.inr (.inl rfl)) b5 bI.n ah af.cw bZ ah ab;have bC:=jc a8 aT;subst F;simp only [go_sem,hF,af.O,bC,bH,bz,aC.O];exact an.mk ⟨ae.tidy,ae.up H ab bI,bQ,aC,ay⟩
 clear hF;rintro a cy ⟨dI,cO,aP,b4,hF⟩;refine ak.np [0,4,5,6] (λq a e=>(Z e/\U H e/\cG e 6 aP ([[.int .i64 aF,.int .i64 aI,.str aN P,.str aO R,aR,aS]]++h)/\c3)/\M a 3= .W 0 bp/\M a 12=aP/\q a) ?_ ?_
 . obtain ⟨bQ,e,bz,aC,ae,b3⟩:=aaZ (n0:=H.n) (c:=1+h.length) (H:=cy) (rows:= [[.int .i64 aF,.int .i64 aI,.str aN P,.str aO R,aR,aS]]++h) (aQ:= [[.int .i64 aD,.int .i64 bj,.str K L,.str bg bh,bq,br]]) (v:=aP) (x:= .A [[.int .i64 aD,.int .i64 bj,.str K L,.str bg bh,bq,br]] true) b4 dI cO.n cI.wt (.inl (.inr ⟨_,rfl⟩)) ah ah ah;have bC:=jc aW cy;have bb:=ae.up H ab cO;have bu:=dg ad n ab ab w y bQ e ae.tidy (aC.cw λr V=>(bW.wt r V).len);subst F;simp only [go_sem,hF,b4.O,bC,bH,bz,aC.O];rcases bu with ⟨o,bu⟩|⟨bU,⟨aA,o⟩,bu⟩
   . simp only [go_sem,bu];exact an.mk ⟨⟨ae.tidy,bb,b3,o⟩,ay⟩
   . simp only [go_sem,bu];exact an.stop rfl (b1 _ aA _ _ bb λD=>o (Y.1 D).2.2.2.2.1)
 clear hF;rintro a aZ ⟨⟨cu,bJ,b3,c6⟩,hF⟩;refine ak.np [0,3,4,5,6] (λq a e=>(aZ=e/\c1)/\q a) ?_ ?_
 . have bC:=jc aW aZ;have bw:=dh ad n ab ab w y (.A [[.int .i64 aD,.int .i64 bj,.str K L,.str bg bh,bq,br]] true) aP aZ cu (.inl (.inr ⟨_,rfl⟩)) b3;subst F;simp only [go_sem,hF,b3.O,bC,bH];rcases bw with ⟨o,bw⟩|⟨bU,⟨aA,o⟩,bw⟩
   . simp only [go_sem,bw];exact an.mk ⟨⟨rfl,o⟩,ay⟩
   . simp only [go_sem,bw];exact an.stop rfl (b1 _ aA _ _ bJ λD=>o (Y.1 D).2.2.2.2.2.1)
 clear hF;rintro a _ ⟨⟨rfl,c7⟩,hF⟩;have cJ:=cn.up I.1 bJ;refine ak.bF hF (λq a e=>(aZ=e/\ ∀b∈h,ak4 kN aw (ak3 kN rop ao (ah2 b)) [.str 4 1819242306]=true)/\q a) ?_ ?_
 . subst F;simp only [go_sem,hF,af.O,af.len];generalize cF:a1 _ _ _ _ _ _ _ _ _ _=bs;revert bs;refine dA [0,3,4,5,6,124] (λX=> ∀b∈h.take X,ak4 kN aw (ak3 kN rop ao (ah2 b)) [.str 4 1819242306]=true) h.length ai ?_ ?_
   . intro X s a bE z hF;obtain ⟨b,B⟩:=bA bE;have E:=aV B;have bG:=λr (V:r∈h.take (X+1))=>tT B V;have aU:=di ad n ab ab b E (.ptr id p 0 14) d w y bk bn 4 1819242306 aZ cu cJ;obtain ⟨b7,b8,a7,bS,bR,cB,b9,cb,b6,cT,bK,bN,bO⟩:=(bZ b E).t;generalize cH:ak4 kN aw (ak3 kN rop ao (ah2 b)) [.str 4 1819242306]=cC at aU;rw [bK] at B aU;simp only [go_sem,hF,af.O,af.a_ (k:=6) B rfl,bN.J,bO.J];rcases aU with ⟨o,aU⟩|⟨bU,⟨aA,o⟩,aU⟩
     . simp only [go_sem,aU];exact au.next () rfl (λaq T=>by rcases bG aq T with T|rfl;exact z aq T;rw [cH,o]) ay
     . simp only [go_sem,aU];exact au.stop rfl (by simp only [go_sem];exact an.stop rfl (b1 _ aA _ _ bJ λD=>o (by rw [<-cH];exact (Y.1 D).2.2.2.2.2.2.1 b E)))
   . intro s a z hF;rw [bX] at z;simp only [go_sem];exact an.mk ⟨⟨rfl,z⟩,ay⟩
 clear hF;rintro a _ ⟨⟨rfl,c8⟩,hF⟩;have bx:=dj ad n ab ab (.ptr id p 0 14) d w y bk bn aX aY aZ cu cJ;subst F;simp only [go_sem,hF];rcases bx with ⟨o,bx⟩|⟨bU,⟨aA,o⟩,bx⟩
 . simp only [go_sem,bx];exact ak.ame I bJ (Y.2 ⟨a7,bR,c4,c5,c6,c7,c8,o⟩)
 . simp only [go_sem,bx];exact ak.amw I bJ aA λD=>o (Y.1 D).2.2.2.2.2.2.2
end
def ak5 (p aU:Y) (l m:Nat):(Nat×Nat)×Bool×Bool:=match p.find? (eV l m) with
 |some a=>(kt a 1,false,true)
 | none=>match aU.find? (eV l m) with
   |some a=>(kt a 1,true,true)
   |none=>((0,0),false,false)
def apc {α:Type} {p:α->Bool} {l:List α} {j:Nat} {x:α} (e:l[j]? =some x) (a: ∀y∈l.take j,p y=false) (c:p x=true):l.find? p=some x:=by
 rw [<-yT j l,List.find?_append,aoo.2 (λy f=>by rw [a y f];decide),anJ];obtain ⟨b,rfl⟩:=e6.1 e;rw [CQ b,List.find?_cons_of_pos c]
def ak7 (r:List aa):Y:=f (M r 6)
def am5 (kN aw rop aJ p aU:Y) (d:List aa):Prop:=my kN (kt d 11).1 (kt d 11).2=true/\(ak5 p aU (kt d 12).1 (kt d 12).2).2=(false,true)/\(kt d 8=(0,0)↔aU= [])/\
 (∀a∈rop,ak7 a≠ []->(ak5 p aU 1 107).2.2=true/\(ak5 p aU 1 107).1=(4,1953720652))/\ ∀a∈rop,ak7 a≠ []->pt kN aw aJ (kt a 2).1 (kt a 2).2=false
section
variable {ax:aa} {s:List aa} {kN aw rop ao aJ:Y} {d:List aa} {ahJ p aU ahI:Y} (aX:fz d s kN aw rop ao aJ ahJ p aU ahI)
include aX
theorem apC:bo λad n=> ∀c (l m:Nat) H,Z H->dP H c d ax-> ∀tm,az G (X G R ad n) 131 [c,.str l m] H tm= .ok (.av [.str (ak5 p aU l m).1.1 (ak5 p aU l m).1.2,.bool (ak5 p aU l m).2.1,.bool (ak5 p aU l m).2.2]) tm H:=by
 refine ⟨p.length+aU.length+2,λad n aY aZ c l m H P al=> ?_⟩;obtain ⟨n,rfl⟩:=bY n;obtain ⟨id,f,aQ,bf,rfl,M,aa,aT⟩:=al;obtain ⟨bh,aP,bd,aS,bk,rfl,-⟩:=aX.bT.eq;have a7:=aX.n1;obtain ⟨bb,aR,bc,a8,ba,bg,bj,bm,rfl,-,aW,B,-,A,C,-,-⟩:=aX.eq;simp only [bl,a6] at M;generalize j:ak5 p aU l m=z
 suffices aG: ∃V,V= .av [.str z.1.1 z.1.2,.bool z.2.1,.bool z.2.2]/\ ∀tm,az G (X G R ad (n+1)) 131 [.ptr id f 0 14,.str l m] H tm= .ok V tm H by obtain ⟨V,rfl,r⟩:=aG;exact r
 refine hg (aL.at (m:=43) rfl rfl rfl rfl rfl rfl rfl rfl ?_);have hF:=trivial;refine ak.np [0,1] (λD tm E=>H=E/\D tm) ?_ ?_
 . simp only [go_sem];exact an.mk ⟨rfl,dC⟩
 rintro tm _ ⟨rfl,hF⟩;refine ak.np [0,1] (λD tm E=>(H=E/\ ∀g∈p,eV l m g=false)/\D tm) ?_ ?_
 . simp only [go_sem,hF,M,aa,B.O,B.len];generalize aj:a1 _ _ _ _ _ _ _ _ _ _=F;revert F;refine dA [0,1,15] (λi=> ∀g∈p.take i,eV l m g=false) p.length ai ?_ ?_
   . intro i s tm N b hF;obtain ⟨W,e⟩:=bA N;have w:=λg (C:g∈p.take (i+1))=>tT e C;have u:=λr=>apc (p:=eV l m) e b r;obtain ⟨ag,ah,ab,I,K,rfl,⟨o,q,rfl,-⟩,⟨ae,af,rfl,-⟩,L,⟨I,rfl⟩,⟨K,rfl⟩⟩:=aX.b9 W (aV e);obtain ⟨aK,aM,aB,aC,aD,aF,aN,aO,aH,aI,rfl,Q,S⟩:=L.t;simp only [bl,a6] at e w u;have v: ∀y,eV l m (.str o q::y)=(o==l&&q==m):=λy=>by rw [eV,anA (a:=l),anA (a:=m)]
     simp only [go_sem,hF,B.O,B.a_ (k:=10) e rfl,Q.J,S.J];refine au.aE ?_ ?_<;>intro f<;>simp only [go_sem,hF,f]
     . refine au.stop rfl (by simp only [go_sem];exact an.stop rfl (by simp only [go_sem,hF];exact ak.mk (by rw [<-j,ak5,u ((v _).trans f)];rfl) rfl P (U.refl _)))
     . exact au.next () rfl (λx h=>by rcases w x h with h|rfl;exact b x h;exact (v _).trans f) ay
   . intro s tm b hF;rw [bX] at b;simp only [go_sem];exact an.mk ⟨⟨rfl,b⟩,ay⟩
 clear hF;rintro tm _ ⟨⟨rfl,aq⟩,hF⟩;have ar:p.find? (eV l m)=none:=aoo.2 λY T=>by rw [aq Y T];decide
 unfold ak5 at j;rw [ar] at j;simp only [go_sem,hF,M,aa,A.O,A.len];generalize aj:a1 _ _ _ _ _ _ _ _ _ _=F;revert F;refine dA [1,32] (λi=> ∀g∈aU.take i,eV l m g=false) aU.length ai ?_ ?_
 . intro i s tm N b hF;obtain ⟨W,e⟩:=bA N;have w:=λg (C:g∈aU.take (i+1))=>tT e C;have u:=λr=>apc (p:=eV l m) e b r;obtain ⟨ag,ah,ab,I,K,rfl,⟨o,q,rfl,-⟩,⟨ae,af,rfl,-⟩,L,⟨I,rfl⟩,⟨K,rfl⟩⟩:=aX.hm W (aV e);obtain ⟨aK,aM,aB,aC,aD,aF,aN,aO,aH,aI,rfl,Q,S⟩:=L.t;simp only [bl,a6] at e w u;have v: ∀y,eV l m (.str o q::y)=(o==l&&q==m):=λy=>by rw [eV,anA (a:=l),anA (a:=m)]
   simp only [go_sem,hF,A.O,A.a_ (k:=10) e rfl,Q.J,S.J];refine au.aE ?_ ?_<;>intro f<;>simp only [go_sem,hF,f]
   . refine au.stop rfl (by simp only [go_sem,hF];exact ak.mk (by rw [<-j,u ((v _).trans f)];rfl) rfl P (U.refl _))
   . exact au.next () rfl (λx h=>by rcases w x h with h|rfl;exact b x h;exact (v _).trans f) ay
 . intro s tm b hF;rw [bX] at b;have aA:aU.find? (eV l m)=none:=aoo.2 λY T=>by rw [b Y T];decide
   rw [aA] at j;simp only [go_sem,hF];exact ak.mk (by rw [<-j]) rfl P (U.refl _)
end
theorem arx {ax:aa} {s:List aa} {kN aw rop ao aJ:Y} (N:dO ax s kN aw rop ao aJ) {d:List aa} {ahJ p aU ahI:Y} (aX:fz d s kN aw rop ao aJ ahJ p aU ahI):
  bo λad n=> ∀c H,Z H->dP H c d ax->alh (am5 kN aw rop aJ p aU d) 67 [c] ad n H:=by
 obtain ⟨bL,aP⟩:=sm N;obtain ⟨bN,bD⟩:=apC (ax:=ax) aX;obtain ⟨bO,aj⟩:=gu 13 al;obtain ⟨bP,aQ⟩:=gu 15 al;obtain ⟨bQ,aR⟩:=gu 16 al;obtain ⟨bR,bE⟩:=C.all (l:=rop) (f:=86) (g:=λb=> [ax,.str (kt b 2).1 (kt b 2).2]) (v:=λb=> .bool (pt kN aw aJ (kt b 2).1 (kt b 2).2)) λb ar=>Jg N _ _;obtain ⟨br,cp,cq,cr,ct,cu⟩:=N.val;refine ⟨bL+bN+bO+bP+bQ+bR+rop.length+2,λad n b2 bj c H E aq=> ?_⟩;obtain ⟨n,rfl⟩:=bY n;have aP:=λe h a=>aP ad n ab ab (e,h) trivial H a E;have bf:=λe h=>bD ad n ab ab c e h H E aq;have aj:=λe h q B a=>aj ad n ab ab e h q B H a E;have aQ:=λe h q B a=>aQ ad n ab ab e h q B H a E;have aR:=λe h q B a=>aR ad n ab ab e h q B H a E;obtain ⟨id,o,bW,cl,rfl,t,x,bI⟩:=aq;have b1:=dP.te (ax:=ax) bI;have b3:=aX.n1;have aF:=N.bT.n;have bk:=N.bT.op;have bH:=N;obtain ⟨bK,cb,cw,cf,cy,cc,cx,aT,-⟩:=N;obtain ⟨cn,bV,ck,b0,cv,rfl,b7,b8,F,b9,ca⟩:=bK.eq;obtain ⟨ch,bZ,cj,cd,cg,cm,I,cz,rfl,-,aD,b4,⟨bb,bc,rfl,-⟩,bh,ar,⟨bn,bp,rfl,-⟩,⟨aB,aC,rfl,-⟩⟩:=aX.eq;simp only [bl,a6] at t aT;have b5:=bH.same;generalize bg:am5 kN aw rop aJ p aU _=A;have D:A↔my kN bn bp=true/\(ak5 p aU aB aC).2=(false,true)/\((bb,bc)=(0,0)↔aU= [])/\
  (∀b∈rop,ak7 b≠ []->(ak5 p aU 1 107).2.2=true/\(ak5 p aU 1 107).1=(4,1953720652))/\ ∀b∈rop,ak7 b≠ []->pt kN aw aJ (kt b 2).1 (kt b 2).2=false:=by rw [<-bg];rfl
 clear bg;have av: ∀(c:Int) (aq:c≠0) e h q B bq,¬A->ak (alG A) (alF A) H (fin G [] (.aK (.iface 78 (.agg [.int .i64 c,.str e h,.int .i64 q,.int .i64 B])) bq H [])):=λc aq e h q B bq bj=>by simp only [go_sem];exact ak.al7 E (U.refl _) aq bj
 refine ama (aL.at (m:=140) rfl rfl rfl rfl rfl rfl rfl rfl ?_);refine ak.bM (λa j=>H=j/\aM 141 [(0,.ptr id o 0 14),(2,.W 0 [.int .i64 0,.int .i64 0])] a) ?_ ?_
 . simp only [go_sem];exact an.mk ⟨rfl,dC⟩
 rintro a _ ⟨rfl,hF⟩;refine ak.bF hF (λr a j=>(H=j/\my kN bn bp=true)/\r a) ?_ ?_
 . simp only [go_sem,hF,t,x,br,aP];refine an.aE ?_ ?_<;>intro o<;>simp only [go_sem,hF,o,t,x,aj]
   . exact an.mk ⟨⟨rfl,o⟩,ay⟩
   . exact an.stop rfl (av 13 al _ _ _ _ _ λu=>by have:=(D.1 u).1;rw [o] at this;cases this)
 clear hF;rintro a _ ⟨⟨rfl,bt⟩,hF⟩;refine ak.bF hF (λr a j=>(H=j/\(ak5 p aU aB aC).2=(false,true))/\r a) ?_ ?_
 . have L:=bf aB aC;have ah:(ak5 p aU aB aC).2≠(false,true)-> ¬A:=λP u=>P (D.1 u).2.1;generalize ak5 p aU aB aC=aN at L ah|-;obtain ⟨⟨ae,af⟩,bs,K⟩:=aN;simp only at L ah|-;refine an.np [0,2] (λr a j=>H=j/\(M a 4= .bool bs/\M a 5= .bool K/\r a)) ?_ ?_
   . simp only [go_sem,hF,t,x,L];exact an.mk ⟨rfl,ay⟩
   clear hF;rintro a _ ⟨rfl,hF⟩;simp only [go_sem,hF]
   iterate 2 all_goals try (refine an.aE ?_ ?_<;>intro o<;>simp only [go_sem,hF,o,t,x,aj])
   all_goals first
    |exact an.mk ⟨⟨rfl,de⟩,ay⟩
    |exact an.stop rfl (av 13 al _ _ _ _ _ (ah de))
 clear hF;rintro a _ ⟨⟨rfl,bu⟩,hF⟩;refine ak.bF hF (λr a j=>(H=j/\((bb,bc)=(0,0)↔aU= []))/\r a) ?_ ?_
 . have ah: ¬((bb,bc)=(0,0)↔aU= [])-> ¬A:=λP u=>P (D.1 u).2.2.1;have bJ:aU= []↔(aU.length:Int)=0:=by rw [<-amV];omega
   rw [propext bJ] at ah|-;simp only [go_sem,hF,t,x,bh.O,bh.len];refine an.aE ?_ ?_<;>intro o<;>simp only [go_sem,hF,o,t,x,aQ]
   all_goals first
    |exact an.mk ⟨⟨rfl,by simp at o|-;grind⟩,ay⟩
    |exact an.stop rfl (av 15 al _ _ _ _ _ (ah (by simp at o|-;grind)))
 clear hF;rintro a _ ⟨⟨rfl,bw⟩,hF⟩;have L:=bf 1 107;generalize ak5 p aU 1 107=aN at L D;obtain ⟨⟨ae,af⟩,bs,K⟩:=aN;simp only at L D;refine ak.np [0,2] (λr a j=>H=j/\(M a 6= .str ae af/\M a 8= .bool K/\r a)) ?_ ?_
 . simp only [go_sem,hF,L];exact an.mk ⟨rfl,ay⟩
 clear hF;rintro a _ ⟨rfl,hF⟩;refine ak.np [0,2] (λr a j=>(H=j/\ ∀b∈rop,ak7 b≠ []->K=true/\(ae,af)=(4,1953720652))/\r a) ?_ ?_
 . simp only [go_sem,hF,t,x,aT,F.O,F.len];generalize bG:a1 _ _ _ _ _ _ _ _ _ _=aI;revert aI;refine dA [0,2,6,8,89] (λz=> ∀b∈rop.take z,ak7 b≠ []->K=true/\(ae,af)=(4,1953720652)) rop.length ai ?_ ?_
   . intro z s a aW w hF;obtain ⟨i,T⟩:=bA aW;have ag:=aV T;have aF:=λb (ar:b∈rop.take (z+1))=>tT T ar;have Q: ¬(ak7 i≠ []->K=true/\(ae,af)=(4,1953720652))-> ¬A:=λP u=>P ((D.1 u).2.2.2.1 i ag);have V:(ak7 i≠ []->K=true/\(ae,af)=(4,1953720652))-> ∀b∈rop.take (z+1),ak7 b≠ []->K=true/\(ae,af)=(4,1953720652):=λaD aA S=>by
      rcases aF aA S with S|rfl
      . exact w aA S
      . exact aD
     obtain ⟨e,h,bz,aG,aH,I,⟨⟨q,bd,s,a8,ba,rfl,aS,y,⟨bS,aY,-⟩⟩,-⟩⟩:=bk i ag;have a7:ak7 [.str e h,q,.str aG aH,bd,.int .i64 a8,.int .i64 ba,s]=I:=bm y;rw [a7] at Q V;have aZ:I≠ []↔ ¬(I.length:Int)<=0:=by rw [ne_eq,<-amV];omega
     rw [propext aZ] at Q V;simp only [go_sem,hF,F.O,F.a_ (k:=7) T rfl,aS.J,y.J,aY.J,y.O,y.len]
     iterate 3 all_goals try (refine au.aE ?_ ?_<;>intro o<;>simp only [go_sem,hF,o,aj])
     all_goals first
      |exact au.next () rfl (V de) ay
      |exact au.stop rfl (by simp only [go_sem];exact an.stop rfl (av 13 al _ _ _ _ _ (Q (by simp_all;try (rintro rfl;simp_all)))))
   . intro s a w hF;rw [bX] at w;simp only [go_sem];exact an.mk ⟨⟨rfl,w⟩,ay⟩
 clear hF;rintro a _ ⟨⟨rfl,bx⟩,hF⟩;simp only [go_sem,hF,t,x,aT,F.O,F.len];generalize bG:a1 _ _ _ _ _ _ _ _ _ _=aI;revert aI;refine dA [0,2,117] (λz=> ∀b∈rop.take z,ak7 b≠ []->pt kN aw aJ (kt b 2).1 (kt b 2).2=false) rop.length ai ?_ ?_
 . intro z s a aW w hF;obtain ⟨i,T⟩:=bA aW;have ag:=aV T;have aF:=λb (ar:b∈rop.take (z+1))=>tT T ar;have aO:=λa=>bE ad n ab ab i ag H a E;have Q: ¬(ak7 i≠ []->pt kN aw aJ (kt i 2).1 (kt i 2).2=false)-> ¬A:=λP u=>P ((D.1 u).2.2.2.2 i ag);have V:(ak7 i≠ []->pt kN aw aJ (kt i 2).1 (kt i 2).2=false)-> ∀b∈rop.take (z+1),ak7 b≠ []->pt kN aw aJ (kt b 2).1 (kt b 2).2=false:=λaD aA S=>by
    rcases aF aA S with S|rfl
    . exact w aA S
    . exact aD
   generalize b6:pt kN aw aJ (kt i 2).1 (kt i 2).2=bU at*;obtain ⟨e,h,bz,aG,aH,I,⟨⟨q,bd,s,a8,ba,rfl,aS,y,⟨bS,aY,-⟩⟩,-⟩⟩:=bk i ag;have a7:ak7 [.str e h,q,.str aG aH,bd,.int .i64 a8,.int .i64 ba,s]=I:=bm y;rw [a7] at Q V;have aZ:I≠ []↔ ¬(I.length:Int)<=0:=by rw [ne_eq,<-amV];omega
   rw [propext aZ] at Q V;have aO: ∀a,az G (X G R ad n) 86 [ax,.str aG aH] H a= .ok (.bool bU) a H:=aO;simp only [go_sem,hF,F.O,F.a_ (k:=7) T rfl,aS.J,y.J,aY.J,y.O,y.len];refine au.aE ?_ ?_<;>intro bB<;>simp only [go_sem,hF,bB,t,x,br,aO]
   all_goals try (refine au.aE ?_ ?_<;>intro bC<;>simp only [go_sem,hF,bC,aR])
   all_goals first
    |exact au.stop rfl (by simp only [go_sem];exact av 16 al _ _ _ _ _ (Q (by simp_all;try (rintro rfl;simp_all))))
    |exact au.next () rfl (V de) ay
 . intro s a w hF;rw [bX] at w;simp only [go_sem];exact ak.ame E (U.refl _) (D.2 ⟨bt,bu,bw,bx,w⟩)
end Go.aj
