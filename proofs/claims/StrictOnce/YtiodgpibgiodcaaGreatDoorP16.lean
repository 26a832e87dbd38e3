/- A part of the proof. -/
import Derived.KernelRfl
import Derived.Shelf.Lays
import Derived.Shelf.Slices.In.SortNone
import Derived.Shelf.Sort.Plain
import Derived.Test.YtiodgpibgiodcaaGreatDoorP00
import Derived.Test.YtiodgpibgiodcaaGreatDoorP02
import Derived.Test.YtiodgpibgiodcaaGreatDoorP03
import Derived.Test.YtiodgpibgiodcaaGreatDoorP07
import Derived.Test.YtiodgpibgiodcaaGreatDoorP09
import Derived.Test.YtiodgpibgiodcaaGreatDoorP10
import Derived.Test.YtiodgpibgiodcaaGreatDoorP12
import Derived.Test.YtiodgpibgiodcaaGreatDoorP15
import Derived.Test.YtiodgpibgiodcaaGreatDoorProg
set_option linter.all false
set_option maxHeartbeats 4000000
namespace Go.aj
open Go Go.Proofs.Tryz
set_option maxRecDepth 100000
def pH (rows:Y) (ad n:Nat):Prop:= ∀e (left c:Int) b,F e rows-> -1<=left->left<=10000->0<=c->c<=81->Z b->
 ∃a:Int,(-1<=a/\a<=left/\(0<=a->bL rows (left-a).toNat))/\ ∀d,az G (X G R ad n) 39 [e,.int .i64 left,.int .i64 c] b d= .ok (.int .i64 a) d b
def bL.nil (N):bL [] N:=⟨λ_=>0,λ_ a=>(by cases a),fV _⟩
def bL.node {r k n h l j m y z ky i} (f:kX r k n h l j m y z ky i) {a b:Nat} (d:bL ky a) (e:bL i b):bL [r] (1+a+b):=by
 have p:=d.sum;have q:=e.sum;refine ⟨λ_=>1+((ky++i).map mT).sum,λs g=>by rw [bs.1 g];exact .mk mT f (λo c=>(d.g_ c).1) λo c=>(e.g_ c).1,?_⟩;simp only [fS,rG,kE,List.sum_nil,vR,List.sum_append];omega
theorem Dx (rows:Y) (V: ∀r∈rows,aN r) (bh:rows.length<4611686018427387904) (aH: ∀r∈rows,bo λad n=>pH (f (M r 4)) ad n/\pH (f (M r 5)) ad n):bo λad n=>pH rows ad n:=by
 obtain ⟨aP,aC⟩:=dE (l:=rows) (Q:=λr ad n=>pH (f (M r 4)) ad n/\pH (f (M r 5)) ad n) aH;refine ⟨aP+rows.length+2,λad n bf bj a6 left h g o S bg bc bd s=> ?_⟩;obtain ⟨n,rfl⟩:=bY n;have: ∃v,(∃a:Int,v= .int .i64 a/\(-1<=a/\a<=left/\(0<=a->bL rows (left-a).toNat)))/\ ∀b,az G (X G R ad (n+1)) 39 [a6,.int .i64 left,.int .i64 h] g b= .ok v b g:=by
  refine hg (aL.at (m:=43) (rs:= [.tmp 6]) rfl rfl rfl rfl rfl (by simp only [aO,o.aD];rfl) rfl rfl ?_);have L: ∀ {j},j=g->ak (λv=> ∃a:Int,v= .int .i64 a/\(-1<=a/\a<=left/\(0<=a->bL rows (left-a).toNat))) bQ g (.ret (.int .i64 (-1)) j):=λ{j} B=>by subst B;exact ak.mk ⟨-1,rfl,ab,S,λC=>absurd C al⟩ rfl s (U.refl _)
  by_cases P:h>80
  . have z:decide (h>80)=true:=by simpa using P
    simp only [go_sem,z];exact L rfl
  have z:decide (h>80)=false:=by simpa using P
  have aU:IntKind.i64.wrap (h+1)=h+1:=wrap64 _ ab ab;simp only [go_sem,z,o.O,o.len];have hF:=trivial;generalize bb:a1 _ _ _ _ _ _ _ _ _ _=ao;revert ao;refine cv [2,11] (λc=> [(1,.int .i64 c)]) (λ_=>g) (λaf c=> -1<=c/\c<=left/\(0<=c->bL (rows.take af) (left-c).toNat)) rows.length left ⟨S,Int.le_refl _,λ_=>bL.nil _⟩ ?_ ?_
  . rintro af c b aG ⟨Z,aa,q⟩ hF;obtain ⟨r,E⟩:=bA aG;have D:=aV E;obtain ⟨ag,ah⟩:=aC ad n ab ab r D;have aF:=o.a_ (k:=6) E (V r D).len;obtain ⟨F,H,d,I,e,K,w,x,aQ,aR,ae,-,-⟩:=(V r D).ea;have aM:=ae;obtain ⟨rfl,-,-,bn,bp,t,u,-,-⟩:=aM;have aA:f (M [.int .i64 F,.int .i64 H,.str d I,.str e K,w,x] 4)=aQ:=bm t;have aB:f (M [.int .i64 F,.int .i64 H,.str d I,.str e K,w,x] 5)=aR:=bm u;rw [aA] at ag;rw [aB] at ah;have aW:IntKind.i64.wrap ((d:Int)+(e:Int))=((d+e:Nat):Int):=by rw [wrap64 _ ab ab];rfl
    have aI:((d+e:Nat):Int).tdiv 50=(((d+e)/50:Nat):Int):=by rfl
    have aX:IntKind.i64.wrap (((d+e:Nat):Int).tdiv 50)=(((d+e)/50:Nat):Int):=by rw [aI,wrap64 _ ab ab]
    generalize bl:(d+e)/50=p at*;have bk:p<1000000000000000000:=ab;have aY:IntKind.i64.wrap (1+(p:Int))=1+(p:Int):=wrap64 _ ab ab;obtain ⟨i,aK⟩: ∃i:Int,i=c-(1+(p:Int)):=⟨_,rfl⟩;have aZ:IntKind.i64.wrap (c-(1+(p:Int)))=i:=by rw [aK];exact wrap64 _ ab ab
    refine au.kp [13,12,1,2,11] (λy b j=>g=j/\ ∃aj,M b 8= .W aj [.int .i64 F,.int .i64 H,.str d I,.str e K,w,x]/\y b) ?_ ?_
    . simp only [go_sem,hF,o.O,aF,t.J,u.J];exact an.mk ⟨rfl,_,by simp only [go_sem,hF];trivial⟩
    clear hF;rintro b _ ⟨rfl,aj,hF⟩;refine au.kp [13,12,2,11,8] (λy b j=>g=j/\M b 1= .int .i64 i/\y b) ?_ ?_
    . simp only [go_sem,hF,aW,aX,aY,aZ];exact an.mk ⟨rfl,ay⟩
    clear hF;rintro b _ ⟨rfl,hF⟩;by_cases T:i<0
    . have A:decide (i<0)=true:=by simpa using T
      simp only [go_sem,hF,A];exact au.stop rfl (by simp only [go_sem,hF];exact L rfl)
    have A:decide (i<0)=false:=by simpa using T
    obtain ⟨aS,⟨a7,a8,aq⟩,aw⟩:=ag w i (h+1) g t ab ab ab ab s;obtain ⟨ai,⟨ar,ba,av⟩,ax⟩:=ah x aS (h+1) g u ab ab ab ab s;simp only [go_sem,hF,A,t.O,u.O,aU,aw,ax];refine au.aE ?_ ?_<;>intro N<;>try simp only [go_sem,N]
    . exact au.stop rfl (by simp only [go_sem,hF];exact L rfl)
    . have aJ:0<=ai:=by simpa using N
      refine au.next ai rfl ⟨ar,ab,λ_=> ?_⟩ ay;have aT:=bL.node ae (aq ab) (av aJ);rw [od E];exact ((q ab).app aT).mono ab
  . rintro c b ⟨Z,aa,q⟩ hF;rw [bX] at q;simp only [go_sem,hF];exact ak.mk ⟨c,rfl,Z,aa,q⟩ rfl s (U.refl _)
 obtain ⟨_,⟨a,rfl,C⟩,B⟩:=this;exact ⟨a,C,B⟩
def YI {r:List aa} (w:aN r):bo λad n=>pH (f (M r 4)) ad n/\pH (f (M r 5)) ad n:=by
 induction w with
 | @mk r b n g i h j k l d e a s t z A=>
   have u:=a.zm;have v:=a.Kn;obtain ⟨rfl,x,y⟩:=a.c;have m:f (M [.int .i64 b,.int .i64 n,.str g i,.str h j,k,l] 4)=d:=bm x;have o:f (M [.int .i64 b,.int .i64 n,.str g i,.str h j,k,l] 5)=e:=bm y;rw [m,o];obtain ⟨B,p⟩:=Dx d s u z;obtain ⟨C,q⟩:=Dx e t v A;exact ⟨B+C,λad n D E=>⟨p ad n ab ab,q ad n ab ab⟩⟩
def UY (rows:Y) (a: ∀r∈rows,aN r) (b:rows.length<4611686018427387904):bo λad n=>pH rows ad n:=
 Dx rows a b λr c=>YI (a r c)
def Jz (rows:Y) (j: ∀r∈rows,aN r) (i:rows.length<4611686018427387904):bo λad n=> ∀x (m:Nat) H,m<=10000->F x rows->Z H->
    ∃b:Bool,(b=true->bL rows m)/\ ∀tm,az G (X G R ad n) 21 [.int .i64 (m:Nat),x] H tm= .ok (.bool b) tm H:=by
 obtain ⟨k,a⟩:=UY rows j i;refine ⟨k+1,λad n p s x m H q c d=> ?_⟩;obtain ⟨n,rfl⟩:=bY n;obtain ⟨e,⟨l,o,h⟩,f⟩:=a ad n ab ab x m 0 H c ab ab al al d;refine ⟨decide (e>=0),λa=>by
  have g:0<=e:=by simpa using a
  exact (h g).mono ab,fa (aL.at (m:=7) (rs:= [.tmp 4]) rfl rfl rfl rfl rfl (by simp only [aO,c.aD];rfl) rfl rfl ?_)⟩
 simp only [go_sem,c.O,f];exact ak.mk rfl rfl d (U.refl _)
def Ka {α:Type} (f:α->Nat): ∀ {l:List α} {x},x∈l->f x<=(l.map f).sum
 | b::l,x,a=>by
   rw [fS,kE];rcases b2.1 a with rfl|a
   . omega
   . have:=Ka f a;omega
def MX:aW G 24=some (.slice 52):=aq
@[go_sem] theorem acV (H):cT G 24 0 [] H=some (.A [] true,H):=aq
def c6.row {r} (d:c6 r):r.length=7/\ ∀v∈r,J v=true/\D 20 v=true:=by
 obtain ⟨i,k,f,j,l,o,⟨⟨e,m,s,g,h,rfl,a,p8,⟨n,b,-⟩⟩,-⟩⟩:=d;refine ⟨rfl,λv c=> ?_⟩;simp only [b2,dG,or_false] at c;rcases c with rfl|rfl|rfl|rfl|rfl|rfl|rfl
 . exact ⟨rfl,rfl⟩
 . exact ⟨a.J,a.aI _⟩
 . exact ⟨rfl,rfl⟩
 . exact ⟨b.J,b.aI _⟩
 . exact ⟨rfl,rfl⟩
 . exact ⟨rfl,rfl⟩
 . exact ⟨p8.J,p8.aI _⟩
def Oi {H:af} (I:Z H) {o r:aa} {p a:Y} (E:F o p) (D:F r a) (h:Rows 7 (p++a)) (J:p.length+a.length<1048560):
    ∃e f l d,cI G 24 24 (.A [] true) o H=some (e,f)/\(∀t,O t e=e)/\cI G 24 24 e r f=some (l,d)/\bd H.n 52 7 (p.length+a.length) d (p++a) l/\Z d/\U H d:=by
 have q:Rows 7 p:=λj m=>h j (hP _ m);have y:Rows 7 a:=λj m=>h j (h7 _ m);obtain ⟨e,f,B,b,u⟩:=bd.app (c:=0) (n0:=H.n) (H:=H) (rows:= []) (aQ:=p) (v:= .A [] true) (x:=o) (k:=7) MX (i:=t52) aq rfl rfl al al (.inr (.inl rfl)) I (aT _) (λj h=>by cases h) (dR (H:=H) E q.len) q (by
  have b:(([]:Y).length+p.length)<=1048560:=by simp only [h5];omega
  have g:t52.bytes+1<=300:=al;exact eT (kF b g) (by unfold b7;omega)) ab
 rw [gH,a6] at b;have z:=u.up H (aT _) (U.refl _);obtain ⟨l,d,C,g,w⟩:=bd.app (aQ:=a) (x:=r) (k:=7) MX (i:=t52) aq rfl rfl al al b u.tidy z.n q (dR (H:=f) D y.len) y (by have b:(p.length+a.length)<=1048560:=ab;have g:t52.bytes+1<=300:=al;exact eT (kF b g) (by unfold b7;omega)) ab;exact ⟨e,f,l,d,B,b.O,C,g,w.tidy,w.up H (aT _) z⟩
def wS (r:List aa):Nat:=(f (M r 1)).length+(f (M r 3)).length+(f (M r 6)).length
def pA (r:List aa):Prop:= ∀c e a d f b,fB r c e a d f b->a.length<1000000000/\b.length<1000000000
structure sv (ar aw rop ao aJ:Y):Prop where
  so:ar.length<=60
  be:aw.length<=250
  op:rop.length+ao.length<=250
  bJ:aJ.length<=100
  aac: ∀r∈rop++ao,nk r
section
variable {s:List aa} {ar aw rop ao aJ:Y} (p8:oz s ar aw rop ao aJ)
include p8
theorem VJ (aM: ∀r∈rop++ao,pA r):bo λad n=> ∀H,Z H->
  ∃b:Bool,(b=true->sv ar aw rop ao aJ)/\ ∀tm,az G (X G R ad n) 33 [.agg s] H tm= .ok (.bool b) tm H:=by
 have bj:=p8.n;have aj: ∀r∈rop++ao,c6 r:=λr y=>(cr.1 y).elim (p8.op r) (p8.cP r);obtain ⟨bp,a8,bl,ba,bs,rfl,a,c,d,e,i⟩:=p8.eq;refine ⟨1048570,λad n bh bk H C=>sG ?_⟩;obtain ⟨n,rfl⟩:=bY n;refine aL.at (m:=59) (rs:= [.tmp 2]) rfl rfl rfl rfl rfl rfl rfl rfl ?_;have K: ∀ {j},j=H->ak (j9 (sv ar aw rop ao aJ)) bQ H (.ret (.bool false) j):=λ{j} aF=>by subst aF;exact ak.mk ⟨false,rfl,λS=>by cases S⟩ rfl C (U.refl _)
 have aa:IntKind.i64.wrap ((rop.length:Int)+(ao.length:Int))=(rop.length:Int)+(ao.length:Int):=wrap64 _ ab ab;by_cases bb:ar.length>60
 . have o:decide ((ar.length:Int)>60)=true:=decide_eq_true ab;simp only [go_sem,a.J,c.J,d.J,e.J,i.J,a.O,a.len,o];exact K rfl
 have o:decide ((ar.length:Int)>60)=false:=decide_eq_false ab;by_cases bc:aw.length>250
 . have x:decide ((aw.length:Int)>250)=true:=decide_eq_true ab;simp only [go_sem,a.J,c.J,d.J,e.J,i.J,a.O,c.O,a.len,c.len,o,x];exact K rfl
 have x:decide ((aw.length:Int)>250)=false:=decide_eq_false ab;by_cases bd:rop.length+ao.length>250
 . have A:decide ((rop.length:Int)+(ao.length:Int)>250)=true:=decide_eq_true ab;simp only [go_sem,a.J,c.J,d.J,e.J,i.J,a.O,c.O,d.O,e.O,a.len,c.len,d.len,e.len,o,x,aa,A];exact K rfl
 have A:decide ((rop.length:Int)+(ao.length:Int)>250)=false:=decide_eq_false ab;by_cases bf:aJ.length>100
 . have Q:decide ((aJ.length:Int)>100)=true:=decide_eq_true ab;simp only [go_sem,a.J,c.J,d.J,e.J,i.J,a.O,c.O,d.O,e.O,i.O,a.len,c.len,d.len,e.len,i.len,o,x,aa,A,Q];exact K rfl
 have Q:decide ((aJ.length:Int)>100)=false:=decide_eq_false ab;have T:Rows 7 (rop++ao):=λr y=>(aj r y).row;obtain ⟨br,aZ,bt,P,aG,aI,aH,V,bq,aB⟩:=Oi C d e T ab;have aS:=V.cw T.len;have ax:=V.O;have av:=V.len;rw [bD] at av;simp only [go_sem,a.J,c.J,d.J,e.J,i.J,a.O,c.O,d.O,e.O,i.O,a.len,c.len,d.len,e.len,i.len,o,x,aa,A,Q,aG,aI,aH,bH,ax,av];have hF:=trivial;generalize bg:a1 _ _ _ _ _ _ _ _ _ _=aD;revert aD;refine cv [38] (λs=> [(3,.int .i64 s)]) (λ_=>P) (λz s=>s=((((rop++ao).take z).map wS).sum:Nat)/\s<=3000) (rop.length+ao.length) 0 ⟨rfl,al⟩ ?_ ?_
 . rintro z s tm ah ⟨aq,aU⟩ hF;obtain ⟨aC,Y⟩: ∃r,(rop++ao)[z]? =some r:=⟨(rop++ao)[z]'(by rw [bD];exact ah),by simp only [lj (show z<(rop++ao).length by rw [bD];exact ah)]⟩;have ai:=aV Y;obtain ⟨bn,aO,aP,aQ,-⟩:=aS.at T.len Y;have aN:=aM aC ai;obtain ⟨D,F,g,E,I,k,B⟩:=aj aC ai;obtain ⟨a6,a7⟩:=aN _ _ _ _ _ _ B;have ae:=uu wS Y;obtain ⟨l,u,v,L,ac,rfl,p,t,⟨h,q,aR,-⟩⟩:=B.eq;have af:wS [.str D F,l,.str E I,u,.int .i64 L,.int .i64 ac,v]=g.length+h.length+k.length:=by show (f l).length+(f u).length+(f v).length=_;rw [bm p,bm q,bm t]
   rw [af] at ae;have aW:IntKind.i64.wrap ((g.length:Int)+(h.length:Int))=(g.length:Int)+(h.length:Int):=wrap64 _ ab ab;have aX:IntKind.i64.wrap ((g.length:Int)+(h.length:Int)+(k.length:Int))=(g.length:Int)+(h.length:Int)+(k.length:Int):=wrap64 _ ab ab;obtain ⟨w,aT⟩: ∃w:Int,w=s+((g.length:Int)+(h.length:Int)+(k.length:Int)):=⟨_,rfl⟩;have aY:IntKind.i64.wrap (s+((g.length:Int)+(h.length:Int)+(k.length:Int)))=w:=by rw [aT];exact wrap64 _ ab ab
   refine au.kp [40,3,38] (λN tm j=>P=j/\ ∃aA,M tm 39= .int .i64 ((rop.length:Int)+(ao.length:Int))/\M tm 5= .W aA [.str D F,l,.str E I,u,.int .i64 L,.int .i64 ac,v]/\N tm) ?_ ?_
   . simp only [go_sem,hF,ax,aO,aP,aQ,p.J,q.J,t.J];exact an.mk ⟨rfl,_,by simp only [go_sem,hF];exact ⟨rfl,rfl⟩⟩
   clear hF;rintro tm _ ⟨rfl,aA,hF⟩;refine au.kp [40,39,38] (λN tm j=>P=j/\M tm 3= .int .i64 w/\N tm) ?_ ?_
   . simp only [go_sem,hF,p.len,q.len,t.len,p.O,q.O,t.O,aW,aX,aY];exact an.mk ⟨rfl,ay⟩
   clear hF;rintro tm _ ⟨rfl,hF⟩;simp only [go_sem,hF];refine au.aE ?_ ?_<;>intro ag<;>try simp only [go_sem,ag]
   . exact au.stop rfl (by simp only [go_sem,hF];exact ak.mk ⟨false,rfl,λS=>by cases S⟩ rfl C aB)
   . have aK:w<=3000:=by simpa using ag
     exact au.next w rfl ⟨by rw [ae];omega,aK⟩ (by simp only [go_sem,hF];rfl)
 . rintro s tm ⟨aq,aU⟩ hF;rw [fT uF] at aq;simp only [go_sem,hF];refine ak.mk ⟨true,rfl,λ_=>⟨ab,ab,ab,ab,λr y D F g E I k B=> ?_⟩⟩ rfl C aB;have:=Ka wS y;obtain ⟨l,u,v,L,ac,rfl,p,t,⟨h,q,aR,-⟩⟩:=B.eq;have af:wS [.str D F,l,.str E I,u,.int .i64 L,.int .i64 ac,v]=g.length+h.length+k.length:=by show (f l).length+(f u).length+(f v).length=_;rw [bm p,bm q,bm t]
   constructor<;>omega
end
def abj:prog.underlying 22=some (.slice 9):=ai
def PE:prog.cellsOf 9=1:=aq
def abe:prog.underlying 50=some (.slice 3):=ai
def Px:prog.cellsOf 3=1:=aq
def aba:prog.underlying 23=some (.slice 166):=ai
def Pl:prog.cellsOf 166=2:=aq
def ZA:lz prog 166=some [9,9]:=aq
def abh:prog.underlying 48=some (.slice 88):=ai
def PC:prog.cellsOf 88=2:=aq
def ZI:lz prog 88=some [9,9]:=aq
def MK:prog.underlying 24=some (.slice 52):=ai
def Gx:prog.cellsOf 52=7:=aq
def ZG:lz prog 52=some [9,22,9,48,3,49,50]:=aq
def aa9:prog.underlying 49=some (.int .i64):=ai
def abb:prog.underlying 27=some (.slice 81):=ai
def Pp:prog.cellsOf 81=15:=aq
def ZE:lz prog 81=some [35,35,33,3,3]:=aq
def MH:prog.underlying 28=some (.slice 83):=ai
def Gt:prog.cellsOf 83=10:=aq
def ZC:lz prog 83=some [9,9,35,3,3]:=aq
def abg:prog.underlying 61=some (.slice 85):=ai
def PB:prog.cellsOf 85=11:=aq
def ZH:lz prog 85=some [9,9,35,33,3,3]:=aq
def abc:prog.underlying 62=some (.slice 114):=ai
def Pq:prog.cellsOf 114=1:=aq
def ZF:lz prog 114=some [33]:=aq
def abi:prog.underlying 29=some (.slice 64):=ai
def PD:prog.cellsOf 64=7:=aq
def ZJ:lz prog 64=some [9,61,33,62,22,3,3]:=aq
def ZK:lz prog 26=some [22,23,24,24,22]:=aq
def ZD:lz prog 31=some [9,26,27,28,9,28,29,9,9]:=aq
def xo {vs} (f:gz 22 vs): ∃x rows,vs= [x]/\F x rows/\iS x=1+hY rows/\b8 rows/\rows.length<=hY rows:=by
 obtain ⟨x,rows,rfl,h,i,g⟩:=jH abj PE al f;have e: ∀a∈rows,∃b c,a= [.str b c]/\T b c/\b<4611686018427387904:=λa d=>i_ (g a d).2;refine ⟨x,rows,rfl,h,i,e,?_⟩;have:=kP 1 rows λa d=>by obtain ⟨b,c,rfl,-⟩:=e a d;simp [E,iS]
 omega
def F0 {vs} (e:lH prog gz [9,9] vs):gd vs/\E vs=2:=by
 obtain ⟨l,n,rfl,-,f,m,o,rfl,-,g,rfl⟩:=e;obtain ⟨a,b,rfl,j,h⟩:=i_ f;obtain ⟨c,d,rfl,k,i⟩:=i_ g;exact ⟨⟨a,b,c,d,rfl,j,k,h,i⟩,by simp [E,iS]⟩
def xp {N:Nat} (hN:N<1048576) {vs} (d:gz 33 vs) (e:E vs<=N): ∃x rows,vs= [x]/\F x rows/\iS x=1+hY rows/\(∀r∈rows,aN r)/\6*rows.length<=hY rows:=by
 obtain ⟨x,rows,rfl,f,c,b⟩:=jH Fa A8 al d;simp only [E,c] at e;refine ⟨x,rows,rfl,f,c,λr a=>qS N r (by have:=l5 a;omega) ab (b r a).2,kP 6 rows λr a=> ?_⟩;obtain ⟨_,_,_,_,_,_,_,_,_,_,-,-,-,-,-,-,-,g,-⟩:=oD (b r a).2;omega
def FZ {N:Nat} (hN:N<1048576) {r} (q:gz 52 r) (C:E r<=N):c6 r/\pA r/\7<=E r:=by
 obtain ⟨R,Z,rfl,-,s,S,aa,rfl,-,t,T,ad,rfl,-,u,U,ae,rfl,-,v,V,af,rfl,-,w,W,ag,rfl,-,x,X,ai,rfl,-,y,rfl⟩:=mi ZG q;obtain ⟨e,g,rfl,L,J⟩:=i_ s;obtain ⟨j,k,rfl,z,O,G,an⟩:=xo t;obtain ⟨f,h,rfl,M,K⟩:=i_ u;obtain ⟨o,i,rfl,B,P,H⟩:=jH abh PC al v;obtain ⟨c,rfl⟩:=kZ na w;obtain ⟨n,rfl⟩:=kZ aa9 x;obtain ⟨p,d,rfl,D,Q,I⟩:=jH abe Px al y;have aj: ∀a∈i,gd a/\E a=2:=λa b=>F0 (mi ZI (H a b).2);have l: ∀a∈d,∃c,a= [.int .i64 c]:=λa b=>kZ na (I a b).2;have ao:=kP 2 i ah;have F:=kP 1 d λa b=>by obtain ⟨c,rfl⟩:=l a b;simp [E,iS]
 simp only [bl,a6,E,O,P,Q,iS] at C|-;have m:fB [.str e g,j,.str f h,o,.int .i64 c,.int .i64 n,p] e g k f h d:=⟨⟨j,o,p,c,n,rfl,z,D,i,B,ab,ah⟩,L,M,J,K,G,ab,l,ab⟩;refine ⟨⟨e,g,k,f,h,d,m⟩,λak aq Y F ar au A=> ?_,ab⟩;obtain ⟨-,-,rfl,-,-,rfl⟩:=m.uniq A;omega
def N1 {N:Nat} (hN:N<1048560) {r} (m:gz 81 r) (h:E r<=N):xb r/\2*e7 r<=E r:=by
 obtain ⟨a,x,rfl,G,f,b,y,rfl,H,g,u,z,rfl,-,n,v,A,rfl,-,o,w,B,rfl,-,p,rfl⟩:=mi ZE m;obtain ⟨c,rfl⟩:=kZ na o;obtain ⟨d,rfl⟩:=kZ na p;simp only [sj] at h|-;obtain ⟨e,t,rfl,i,s,q,F⟩:=xp (N:=N) ab n ab;have j:=qS N a ab ab f;have k:=qS N b ab ab g;obtain ⟨_,_,_,_,_,_,_,_,_,_,-,-,-,-,-,-,-,C,-⟩:=oD f;obtain ⟨_,_,_,_,_,_,_,_,_,_,-,-,-,-,-,-,-,D,-⟩:=oD g;simp only [E,s] at h|-;have l:a++(b++([e]++([aa.int .i64 c]++([aa.int .i64 d]++ []))))=a++b++ [e,.int .i64 c,.int .i64 d]:=ai;rw [l];refine ⟨⟨a,b,e,_,_,rfl,j,k,⟨t,i,q,ab⟩,⟨c,rfl⟩,⟨d,rfl⟩⟩,?_⟩;unfold e7;rw [BF j.len k.len,bm i];omega
def FY {N:Nat} (hN:N<1048560) {r} (j:gz 83 r) (c:E r<=N):iz r/\10<=E r:=by
 obtain ⟨u,y,rfl,-,k,v,z,rfl,-,l,a,A,rfl,F,b,w,B,rfl,-,m,x,C,rfl,-,n,rfl⟩:=mi ZC j;obtain ⟨d,f,rfl,q,o⟩:=i_ k;obtain ⟨e,g,rfl,s,p⟩:=i_ l;obtain ⟨h,rfl⟩:=kZ na m;obtain ⟨i,rfl⟩:=kZ na n;simp only [sj] at c|-;have t:=qS N a ab ab b;obtain ⟨_,_,_,_,_,_,_,_,_,_,-,-,-,-,-,-,-,D,-⟩:=oD b;simp only [E,iS] at c|-;refine ⟨⟨.str d f,.str e g,a,.int .i64 h,.int .i64 i,ai,⟨d,f,rfl,q,o⟩,⟨e,g,rfl,s,p⟩,t,⟨h,rfl⟩,⟨i,rfl⟩⟩,ab⟩
def N3 {N:Nat} (hN:N<1048560) {r} (o:gz 85 r) (j:E r<=N):lG r/\2*iO r<=E r/\11<=E r:=by
 obtain ⟨C,I,rfl,-,p,D,J,rfl,-,q,a,K,rfl,S,i,F,L,rfl,-,s,G,O,rfl,-,t,H,P,rfl,-,u,rfl⟩:=mi ZH o;obtain ⟨c,e,rfl,A,y⟩:=i_ p;obtain ⟨d,f,rfl,B,z⟩:=i_ q;obtain ⟨g,rfl⟩:=kZ na t;obtain ⟨h,rfl⟩:=kZ na u;simp only [sj] at j|-;obtain ⟨b,x,rfl,k,w,v,R⟩:=xp (N:=N) ab s ab;have l:=qS N a ab ab i;obtain ⟨_,_,_,_,_,_,_,_,_,_,-,-,-,-,-,-,-,Q,-⟩:=oD i;simp only [E,iS,w] at j|-;have m: [aa.str c e]++([aa.str d f]++(a++([b]++([aa.int .i64 g]++([aa.int .i64 h]++ [])))))= [.str c e,.str d f]++a++ [b,.int .i64 g,.int .i64 h]:=ai;rw [m];refine ⟨⟨_,_,a,b,_,_,rfl,⟨c,e,rfl,A,y⟩,⟨d,f,rfl,B,z⟩,l,⟨x,k,v,ab⟩,⟨g,rfl⟩,⟨h,rfl⟩⟩,?_,ab⟩;have n:M ([.str c e,.str d f]++a++ [b,.int .i64 g,.int .i64 h]) 8=b:=by
  match a,l.len with
  | [T,U,V,W,X,Y],_=>rfl
 unfold iO;rw [n,bm k];omega
def N2 {N:Nat} (hN:N<1048560) {r} (d:gz 114 r) (a:E r<=N):AE r/\2*lp r<=E r/\1<=E r:=by
 obtain ⟨j,k,rfl,-,e,rfl⟩:=mi ZF d;simp only [sj] at a|-;obtain ⟨c,i,rfl,b,h,g,l⟩:=xp (N:=N) ab e ab;simp only [E,h] at a|-;refine ⟨⟨c,rfl,i,b,g,ab⟩,?_,ab⟩;show 2*(f c).length<=_;rw [bm b];omega
def N4 {N:Nat} (hN:N<1048560) {r} (p:gz 64 r) (k:E r<=N):lI r/\2*kJ r<=E r/\ju r+6<=E r:=by
 obtain ⟨P,W,rfl,-,q,Q,X,rfl,-,s,R,Y,rfl,-,t,S,Z,rfl,-,u,T,aa,rfl,-,v,U,ad,rfl,-,w,V,ae,rfl,-,x,rfl⟩:=mi ZJ p;obtain ⟨B,C,rfl,K,J⟩:=i_ q;obtain ⟨g,c,rfl,e,M,H⟩:=jH abg PB al s;obtain ⟨n,d,rfl,l,O,I⟩:=jH abc Pq al u;obtain ⟨h,o,rfl,i,L,G,aj⟩:=xo v;obtain ⟨D,rfl⟩:=kZ na w;obtain ⟨F,rfl⟩:=kZ na x;simp only [sj] at k|-;obtain ⟨m,A,rfl,j,z,y,ai⟩:=xp (N:=N) ab t ab;simp only [E,iS,M,O,L,z] at k|-;have af: ∀a∈c,lG a/\2*iO a<=E a/\11<=E a:=λa b=>N3 hN (H a b).2 (by have:=l5 b;omega);have ag: ∀a∈d,AE a/\2*lp a<=E a/\1<=E a:=λa b=>N2 hN (I a b).2 (by have:=l5 b;omega);have ak:=qM 2 iO c ah;have an:=kP 11 c ah;have ao:=qM 2 lp d ah;have aq:=kP 1 d ah;simp only [bl,a6];refine ⟨⟨_,g,m,n,h,_,_,rfl,⟨B,C,rfl,K,J⟩,⟨c,e,ah,ab⟩,⟨A,j,y,ab⟩,⟨d,l,ah,ab⟩,⟨o,i,G,ab⟩,⟨D,rfl⟩,⟨F,rfl⟩⟩,?_,?_⟩
 . show 2*(((f g).map iO).sum+(f m).length+((f n).map lp).sum)<=_;rw [bm e,bm j,bm l];omega
 . show 1+(f h).length+(f g).length+6<=_;rw [bm i,bm e];omega
def N0 {N:Nat} (hN:N<1048571) {vs} (A:gz 31 vs) (i:E vs<=N): ∃s e c rop b f req p d u,fz vs s e c rop b f req p d u/\ ∀r∈rop++b,pA r:=by
 obtain ⟨aJ,aS,rfl,-,g,aK,aT,rfl,-,h,aL,aU,rfl,-,B,aM,aV,rfl,-,C,aN,aW,rfl,-,D,aO,aX,rfl,-,F,aP,aY,rfl,-,G,aQ,aZ,rfl,-,H,aR,a1,rfl,-,I,rfl⟩:=mi ZD A;obtain ⟨a7,bd,rfl,-,O,a8,bf,rfl,-,P,ba,bg,rfl,-,Q,bb,bh,rfl,-,R,bc,bj,rfl,-,S,rfl⟩:=mi ZK h;obtain ⟨X,Y,rfl,au,ag⟩:=i_ g;obtain ⟨aq,e,rfl,bo,aH,y,bB⟩:=xo O;obtain ⟨k,c,rfl,bk,aA,n⟩:=jH aba Pl al P;obtain ⟨aa,rop,rfl,bn,aF,w⟩:=jH MK Gx al Q;obtain ⟨m,b,rfl,bm,aC,q⟩:=jH MK Gx al R;obtain ⟨ar,f,rfl,bp,aI,z,bC⟩:=xo S;obtain ⟨l,req,rfl,J,aB,o⟩:=jH abb Pp al B;obtain ⟨Z,p,rfl,L,aE,v⟩:=jH MH Gt al C;obtain ⟨T,U,rfl,av,ai⟩:=i_ D;obtain ⟨W,d,rfl,K,aD,t⟩:=jH MH Gt al F;obtain ⟨af,u,rfl,M,aG,x⟩:=jH abi PD al G;obtain ⟨an,ao,rfl,aw,aj⟩:=i_ H;obtain ⟨ay,az,rfl,ax,ak⟩:=i_ I;simp only [bl,a6,E,iS,aH,aA,aF,aC,aI,aB,aE,aD,aG] at i;have bD: ∀r∈c,gd r/\E r=2:=λr a=>F0 (mi ZA (n r a).2);have bH: ∀r∈rop,c6 r/\pA r/\7<=E r:=λr a=>FZ (N:=N) ab (w r a).2 (by have:=l5 a;omega);have bE: ∀r∈b,c6 r/\pA r/\7<=E r:=λr a=>FZ (N:=N) ab (q r a).2 (by have:=l5 a;omega);have ad: ∀r∈req,xb r/\2*e7 r<=E r:=λr a=>N1 (N:=N-13) ab (o r a).2 (by have:=l5 a;omega);have bG: ∀r∈p,iz r/\10<=E r:=λr a=>FY (N:=N-13) ab (v r a).2 (by have:=l5 a;omega);have bF: ∀r∈d,iz r/\10<=E r:=λr a=>FY (N:=N-13) ab (t r a).2 (by have:=l5 a;omega);have ae: ∀r∈u,lI r/\2*kJ r<=E r/\ju r+6<=E r:=λr a=>N4 (N:=N-13) ab (x r a).2 (by have:=l5 a;omega);have bq:=kP 2 c ah;have br:=kP 7 rop ah;have bs:=kP 7 b ah;have bt:=qM 2 e7 req ah;have bu:=kP 10 p ah;have bw:=kP 10 d ah;have bx:=qM 2 kJ u ah;have bz:=qM 1 ju u ah;have bA:=kP 4 req λr a=>by have:=(ad r a).2;unfold e7 at this;omega
 refine ⟨[aq,k,aa,m,ar],e,c,rop,b,f,req,p,d,u,⟨⟨_,l,Z,_,W,af,_,_,rfl,⟨X,Y,rfl,au,ag⟩,J,L,⟨T,U,rfl,av,ai⟩,K,M,⟨an,ao,rfl,aw,aj⟩,⟨ay,az,rfl,ax,ak⟩⟩,⟨ah,y,ah,ah,ah,z,ab⟩,
  ah,ah,ah,ah,ab,?_⟩,ah⟩
 cases u with
 |nil=>grind
 | cons j V=>
   have g:=(ae j (dF ..)).2.2;have h:=qM 1 ju V ah;simp only [fS,kE,hY] at i|-;omega
section
variable {d:List aa} {s:List aa} {ar aw rop ao aJ req p aU u:Y} (aX:fz d s ar aw rop ao aJ req p aU u)
include aX
theorem YT: ∀t∈m1 req p aU u,aN t:=by
 intro t a;rcases cr.1 a with a|a
 . rcases cr.1 a with a|a
   . obtain ⟨c,e,a⟩:=fC.1 a;obtain ⟨x,P,m,h,i,rfl,b,r,⟨S,j,k,-⟩,-⟩:=aX.kx c e;rw [xO b.len r.len,bm j] at a;simp only [bl,a6,b2] at a;rcases a with rfl|rfl|a
     . exact b
     . exact r
     . exact k _ a
   . obtain ⟨c,e,rfl⟩:=cd.1 a;obtain ⟨L,s,o,h,i,rfl,-,-,q,-⟩:=(cr.1 e).elim (aX.b9 c) (aX.hm c);have B:dQ ([L,s]++o++ [h,i])=o:=by unfold dQ;rw [fu,qh ai];simp [q.len]
     rw [B];exact q
 . obtain ⟨c,e,a⟩:=fC.1 a;obtain ⟨M,g,m,w,A,h,i,rfl,-,⟨N,E,F,-⟩,⟨K,j,k,-⟩,⟨O,G,H,-⟩,-⟩:=aX.bh c e;have C:hB [M,g,m,w,A,h,i]=N.flatMap (λg=>dd g::cu g)++K++O.flatMap cC:=by show (f g).flatMap _++f m++(f w).flatMap cC=_;rw [bm E,bm j,bm G]
   rw [C] at a;rcases cr.1 a with a|a
   . rcases cr.1 a with a|a
     . obtain ⟨n,l,a⟩:=fC.1 a;obtain ⟨Q,R,x,W,U,V,rfl,-,-,b,⟨T,I,J,-⟩,-⟩:=F n l;rw [zy b.len,zz b.len,bm I] at a;rcases b2.1 a with rfl|a
       . exact b
       . exact J _ a
     . exact k _ a
   . obtain ⟨n,l,a⟩:=fC.1 a;obtain ⟨y,rfl,⟨z,D,v,-⟩⟩:=H n l;have:f y=z:=bm D;rw [<-this] at v;exact v _ a
theorem Vh (aY: ∀r∈rop++ao,pA r):bo λad n=> ∀H,Z H->
  ∃b:Bool,(b=true->sv ar aw rop ao aJ/\oA ar aw rop ao aJ req p aU u)/\ ∀tm,az G (X G R ad n) 15 [.agg d] H tm= .ok (.bool b) tm H:=by
 obtain ⟨bj,ae⟩:=VJ aX.bT aY;obtain ⟨bk,A⟩:=VG aX;have bd:=YT aX;have bX:=K8 req p aU u;have bP:=aX.n1;have bO:=aX.iN;have b2:u.length<1048559:=by have:=nV u;omega
 obtain ⟨bm,aW⟩:=Jz (m1 req p aU u) bd ab;obtain ⟨b4,v,ax,b1,aj,aB,b5,b6,a8,⟨aq,av,rfl,-⟩,C,I,⟨ah,ai,rfl,-⟩,E,c,⟨aD,aF,rfl,-⟩,⟨aN,aO,rfl,-⟩⟩:=aX.eq;obtain ⟨aG,T,aA,Y,aK,rfl,bu,bw,bx,bz,bB⟩:=aX.bT.eq;rw [a8] at A|-;simp only [bl,a6] at ae A|-;refine ⟨bj+bk+bm+1048570,λad n bL bN H q=>sG ?_⟩;obtain ⟨n,rfl⟩:=bY n;obtain ⟨x,aZ,V⟩:=ae ad n ab ab H q;obtain ⟨aI,af,aS⟩: ∃aH,F aH (m1 req p aU u)/\ ∀tm,az G (X G R ad n) 34 [.agg [.str aq av,aG,T,aA,Y,aK,v,ax,.str ah ai,aj,aB,.str aD aF,.str aN aO]] H tm= .ok aH tm H:=by
  rcases A ad n ab ab H q with h|⟨_,h,-⟩
  . exact h
  . exact h.elim
 obtain ⟨y,a7,z⟩:=aW ad n ab ab aI 2500 H al af q;have z: ∀tm,az G (X G R ad n) 21 [.int .i64 2500,aI] H tm= .ok (.bool y) tm H:=z;refine aL.at (m:=58) (rs:= [.tmp 2]) rfl rfl rfl rfl rfl rfl rfl rfl ?_;have N: ∀ {a},a=H->ak (j9 (sv ar aw rop ao aJ/\oA ar aw rop ao aJ req p aU u)) bQ H (.ret (.bool false) a):=λ{a} v=>by subst v;exact ak.mk ⟨false,rfl,λh=>by cases h⟩ rfl q (U.refl _)
 obtain ⟨f,bU⟩: ∃f:Nat,f=req.length+p.length+aU.length+u.length:=⟨_,rfl⟩;have P:IntKind.i64.wrap ((req.length:Int)+(p.length:Int))=(req.length:Int)+(p.length:Int):=wrap64 _ ab ab;have Q:IntKind.i64.wrap ((req.length:Int)+(p.length:Int)+(aU.length:Int))=(req.length:Int)+(p.length:Int)+(aU.length:Int):=wrap64 _ ab ab;have S:IntKind.i64.wrap ((req.length:Int)+(p.length:Int)+(aU.length:Int)+(u.length:Int))=(f:Nat):=by rw [wrap64 _ ab ab];omega
 refine ak.bM (λtm a=>H=a/\aM 59 [(1,.W 0 [.str aq av,aG,T,aA,Y,aK,v,ax,.str ah ai,aj,aB,.str aD aF,.str aN aO]),(2,.bool false)] tm) ?_ ?_
 . simp only [go_sem,bu.J,bw.J,bx.J,bz.J,bB.J,C.J,I.J,E.J,c.J];exact an.mk ⟨rfl,dC⟩
 rintro tm _ ⟨rfl,hF⟩;refine ak.bF hF (λo tm a=>H=a/\aM 59 [(3,.int .i64 (f:Nat))] tm/\o tm) ?_ ?_
 . simp only [go_sem,hF,C.O,I.O,E.O,c.O,C.len,I.len,E.len,c.len,P,Q,S];exact an.mk ⟨rfl,ay⟩
 clear hF;rintro tm _ ⟨rfl,hF⟩;by_cases bD:f>400
 . have t:decide ((f:Int)>400)=true:=decide_eq_true ab;simp only [go_sem,hF,t];exact N rfl
 have t:decide ((f:Int)>400)=false:=decide_eq_false ab
 cases x with
 | false=>
   simp only [go_sem,hF,t,V];exact N rfl
 |true=>
 simp only [go_sem,hF,t,V,c.O,c.len];generalize bE:a1 _ _ _ _ _ _ _ _ _ _=aP;revert aP;refine cv [1,30] (λs=> [(3,.int .i64 s)]) (λ_=>H) (λbg s=>0<=s/\s<=900) u.length f ⟨ab,ab⟩ ?_ ?_
 . clear hF;rintro bg s tm ba ⟨bV,bW⟩ hF;obtain ⟨bt,ag⟩:=bA ba;have bb:=aV ag;obtain ⟨b3,bq,bf,br,aR,bC,b,rfl,⟨aQ,x,rfl,-⟩,⟨e,K,bS,bR⟩,⟨w,D,bK,bI⟩,⟨g,L,b0,bZ⟩,⟨i,B,bH,bG⟩,⟨bn,rfl⟩,⟨bp,rfl⟩⟩:=aX.bh bt bb;have P:IntKind.i64.wrap ((e.length:Int)+(g.length:Int))=(e.length:Int)+(g.length:Int):=wrap64 _ ab ab;have Q:IntKind.i64.wrap ((e.length:Int)+(g.length:Int)+(i.length:Int))=(e.length:Int)+(g.length:Int)+(i.length:Int):=wrap64 _ ab ab;have S:IntKind.i64.wrap ((e.length:Int)+(g.length:Int)+(i.length:Int)+(w.length:Int))=(e.length:Int)+(g.length:Int)+(i.length:Int)+(w.length:Int):=wrap64 _ ab ab;obtain ⟨l,bc⟩: ∃l:Int,l=s+((e.length:Int)+(g.length:Int)+(i.length:Int)+(w.length:Int)):=⟨_,rfl⟩;have bs:IntKind.i64.wrap (s+((e.length:Int)+(g.length:Int)+(i.length:Int)+(w.length:Int)))=l:=by rw [bc];exact wrap64 _ ab ab
   refine au.kp [32,31,1,3,30] (λo tm a=>H=a/\ ∃aC,M tm 5= .W aC [.str aQ x,bq,bf,br,aR,.int .i64 bn,.int .i64 bp]/\o tm) ?_ ?_
   . simp only [go_sem,hF,c.O,c.a_ (k:=7) ag rfl,K.J,D.J,L.J,B.J];exact an.mk ⟨rfl,_,by simp only [go_sem,hF];trivial⟩
   clear hF;rintro tm _ ⟨rfl,aC,hF⟩;refine au.kp [32,31,1,30] (λo tm a=>H=a/\M tm 3= .int .i64 l/\o tm) ?_ ?_
   . simp only [go_sem,hF,K.len,D.len,L.len,B.len,K.O,D.O,L.O,B.O,P,Q,S,bs];exact an.mk ⟨rfl,ay⟩
   clear hF;rintro tm _ ⟨rfl,hF⟩;simp only [go_sem,hF];refine au.aE ?_ ?_<;>intro aa<;>try simp only [go_sem,aa]
   . exact au.stop rfl (by simp only [go_sem,hF];exact N rfl)
   . have aT:l<=900:=by simpa using aa
     exact au.next l rfl ⟨ab,aT⟩ ay
 . clear hF;rintro s tm-hF;simp only [go_sem,hF,aS,af.O,z];refine ak.mk (show j9 (sv ar aw rop ao aJ/\oA ar aw rop ao aJ req p aU u) (.bool y) from ⟨y,rfl,λh=> ?_⟩) rfl q (U.refl _);have j:=aZ rfl;exact ⟨j,⟨by have:=j.so;have:=j.be;have:=j.op;have:=j.bJ;omega,λr c=>j.aac r (h7 _ c),2500,(a7 h).perm (Yn ..),al⟩⟩
end
theorem U_:K 8 [] (.bool true):=C.cL (p:=KK) rfl rfl rfl rfl λ_=>rfl
section
variable {d:List aa} {s:List aa} {ar aw rop ao aJ req p aU u:Y} (aX:fz d s ar aw rop ao aJ req p aU u)
include aX
theorem Vl (S: ∀r∈rop++ao,pA r) {f:List aa} (a:aN f):bo λad n=> ∀H,Z H->
  ∃b:Bool,(b=true->sv ar aw rop ao aJ/\oA ar aw rop ao aJ req p aU u/\bL [f] 1500)/\ ∀tm,az G (X G R ad n) 7 [.agg d,.agg f] H tm= .ok (.bool b) tm H:=by
 obtain ⟨Y,i⟩:=Vh aX S;obtain ⟨ae,Q⟩:=Jz [f] (λr c=>by rw [bs.1 c];exact a) ai;obtain ⟨aD,ag,aF,au,aB,aH,aO,aQ,W,⟨aC,aE,rfl,-⟩,y,B,⟨av,ax,rfl,-⟩,z,c,⟨aI,aK,rfl,-⟩,⟨aR,aS,rfl,-⟩⟩:=aX.eq;obtain ⟨aM,af,aG,ah,aP,rfl,F,I,K,L,M⟩:=aX.bT.eq;rw [W] at i|-;simp only [bl,a6] at i|-;have aj:=k7 a.row;have V:=jc a;obtain ⟨C,D,j,k,l,o,E,N,ay,aA,rfl,v,w⟩:=a.t;refine ⟨Y+ae+10,λad n an aq H e=>sG ?_⟩;obtain ⟨n,rfl⟩:=bY n;obtain ⟨O,x,q⟩:=i ad n ab ab H e;obtain ⟨P,T,g⟩:=Q ad n ab ab (.A [[.int .i64 C,.int .i64 D,.str j k,.str l o,E,N]] true) 1500 H al (.inr ⟨_,rfl⟩) e;have g: ∀tm,az G (X G R ad n) 21 [.int .i64 1500,.A [[.int .i64 C,.int .i64 D,.str j k,.str l o,E,N]] true] H tm= .ok (.bool P) tm H:=g;refine aL.at (m:=10) (rs:= [.tmp 4]) rfl rfl rfl rfl rfl rfl rfl rfl ?_
 cases O with
 | false=>
   simp only [go_sem,F.J,I.J,K.J,L.J,M.J,y.J,B.J,z.J,c.J,v.J,w.J,q];exact ak.gg e (U.refl _) λh=>by cases h
 | true=>
   simp only [go_sem,F.J,I.J,K.J,L.J,M.J,y.J,B.J,z.J,c.J,v.J,w.J,q,V,bH,g];exact ak.gg e (U.refl _) λh=>⟨(x rfl).1,(x rfl).2,T h⟩
theorem UU (aK: ∀r∈rop++ao,pA r) {l:List aa} (P:aN l):dt 4 [.agg d,.agg l] (λv=>v= .bool true) bQ:=by
 obtain ⟨aS,aF⟩:=U_;obtain ⟨aT,L⟩:=Vl aX aK P;obtain ⟨aV,M⟩:bo λe c=>oA ar aw rop ao aJ req p aU u->bL [l] 1500-> ∀a,Z a-> ∃D n E z,aN D/\aN E/\(∀i,az G (X G R e (c+1)) 10 [.agg d,.agg l] a i= .ok (.av [.agg D,.int .i64 n]) i a)/\(∀i,az G (X G R e (c+1)) 14 [.agg d,.agg l] a i= .ok (.av [.agg E,.int .i64 z]) i a)/\(n≠0\/z=4):=by
  by_cases aC:oA ar aw rop ao aJ req p aU u/\bL [l] 1500
  . obtain ⟨V,H⟩:=aC;have C:ek 1500 l:=(H.g_ (bs.2 rfl)).1.abS.mono (H.g_ (bs.2 rfl)).2;obtain ⟨aW,aG⟩:=Va aX V P;obtain ⟨aY,aH⟩:=Jb aX C (f:=10) (b:=true) rfl λx q w y=>Zg aX q w y al C;obtain ⟨aZ,au⟩:=Jb aX C (f:=14) (b:=false) rfl λx q w y=>Zf aX q w y al C;refine ⟨aW+aY+aZ,λe c aQ bu _ _ a g=> ?_⟩;obtain ⟨aE,I,K⟩: ∃v,Av p rop u ar aw ao aJ l v/\ ∀i,az G (X G R e c) 27 [.agg d,.agg l] a i= .ok v i a:=by
     rcases aG e c ab ab a g with j|⟨_,j,-⟩
     . exact j
     . exact j.elim
    have aI: ∀x,aE= .av [x,.int .i64 0]->gf ar aw rop ao aJ:=λx h=>by
     rcases I with ⟨_,rfl,-,-,j,-⟩|⟨y,A,rfl⟩
     . exact j
     . simp only [aa.av.injEq,jn,aa.int.injEq,and_true,true_and] at h;exact absurd h.2 A
    rcases aH e c ab ab aE a g I K with ⟨y,A,rfl,o⟩|⟨x,rfl,b1,an,o⟩
    . rcases au e c ab ab _ a g I K with ⟨bk,bt,-,B⟩|⟨x,h,-⟩
      . exact ⟨_,_,_,_,w7,w7,o,B,.inl A⟩
      . simp only [aa.av.injEq,jn,aa.int.injEq,and_true,true_and] at h;exact absurd h.2 A
    . rcases au e c ab ab _ a g I K with ⟨y,A,h,-⟩|⟨bj,-,b2,aq,B⟩
      . simp only [aa.av.injEq,jn,aa.int.injEq,and_true,true_and] at h;exact absurd h.2.symm A
      . have aR:=once aX (aI _ rfl) al C an aq;obtain ⟨D,n,rfl,Y⟩:=an.wt;obtain ⟨E,z,rfl,ad⟩:=aq.wt;refine ⟨D,n,E,z,Y,ad,o,B,?_⟩;rcases aR with ⟨q,h,k,j⟩|⟨w,k⟩
        . simp only [aa.av.injEq,jn,aa.int.injEq,and_true,true_and] at k;exact .inl (by rw [k.2];exact j)
        . simp only [aa.av.injEq,jn,aa.int.injEq,and_true,true_and] at k;exact .inr k.2
  . exact ⟨0,λ_ _ _ _ q w=>absurd ⟨q,w⟩ aC⟩
 obtain ⟨bR,h,bU,bB,bK,bW,b0,b4,aM,⟨bP,bS,rfl,-⟩,k,S,⟨bC,bD,rfl,-⟩,Q,T,⟨bX,bY,rfl,-⟩,⟨b5,b6,rfl,-⟩⟩:=aX.eq;obtain ⟨bZ,bh,bV,br,b3,rfl,ae,af,ag,ah,ai⟩:=aX.bT.eq;rw [aM] at L M|-;simp only [bl,a6] at L M|-;obtain ⟨bx,bM,a8,ba,bb,bc,b7,ca,bE,bH,rfl,N,O⟩:=P.t;refine ⟨aS+aT+aV+10,λe c aQ bw a g=> ?_⟩;obtain ⟨c,rfl⟩: ∃a1,c=a1+1+1:=⟨c-2,ab⟩;have W:=λi=>aF e (c+1) ab ab a i g;obtain ⟨aj,F,o⟩:=L e (c+1) ab ab a g;refine aL.at (m:=33) (rs:= [.tmp 4]) rfl rfl rfl rfl rfl rfl rfl rfl ?_
 cases aj with
 | false=>
   simp only [go_sem,ae.J,af.J,ag.J,ah.J,ai.J,k.J,S.J,Q.J,T.J,N.J,O.J,o,W];exact ak.mk rfl rfl g (U.refl _)
 | true=>
   obtain ⟨-,V,H⟩:=F rfl;obtain ⟨D,n,E,z,Y,ad,B,aD,aP⟩:=M e c ab ab V H a g;obtain ⟨bz,bN,aj,bd,bf,bg,b8,cb,bF,bI,rfl,F,ax⟩:=Y.t;obtain ⟨bA,bO,bm,bn,bp,bq,b9,cc,bG,bJ,rfl,ay,aA⟩:=ad.t;by_cases aB:n=0
   . subst aB;have aO:z=4:=aP.resolve_left λj=>j rfl;subst aO;simp only [go_sem,ae.J,af.J,ag.J,ah.J,ai.J,k.J,S.J,Q.J,T.J,N.J,O.J,o,W,B,aD,F.J,ax.J,ay.J,aA.J];exact ak.mk rfl rfl g (U.refl _)
   . have a7:(n !=0)=true:=by simpa using aB
     simp only [go_sem,ae.J,af.J,ag.J,ah.J,ai.J,k.J,S.J,Q.J,T.J,N.J,O.J,o,W,B,aD,F.J,ax.J,ay.J,aA.J,a7];exact ak.mk rfl rfl g (U.refl _)
end
end Go.aj
namespace Go.Proofs
open Go.Shelf
def Tryz.VY:Go.Shelf.Ren:=⟨λ|190=>194|125=>255|258=>254|128=>323|129=>324|302=>314|303=>315|304=>316|305=>317|306=>318|307=>319|308=>320|309=>321|310=>322|333=>357|329=>358|330=>359|334=>360|335=>361|336=>298|344=>377|n=>n,λ|31=>22|9=>9|3=>3|46=>260|0=>0|51=>295|53=>309|4=>4|183=>321|182=>320|131=>207|5=>5|218=>346|222=>288|228=>365|229=>241|n=>n,λ|n=>n⟩
def Tryz.JR:Go.Proofs.Lays.n190 Tryz.prog Tryz.VY:= {
 mixed:=by kernel_rfl,
 f125:=Tryz.func255.trans (congrArg some (by kernel_rfl)),
 f128:=Tryz.func323.trans (congrArg some (by kernel_rfl)),
 f129:=Tryz.func324.trans (congrArg some (by kernel_rfl)),
 f190:=Tryz.func194.trans (congrArg some (by kernel_rfl)),
 f258:=Tryz.func254.trans (congrArg some (by kernel_rfl)),
 f302:=Tryz.func314.trans (congrArg some (by kernel_rfl)),
 f303:=Tryz.func315.trans (congrArg some (by kernel_rfl)),
 f304:=Tryz.func316.trans (congrArg some (by kernel_rfl)),
 f305:=Tryz.func317.trans (congrArg some (by kernel_rfl)),
 f306:=Tryz.func318.trans (congrArg some (by kernel_rfl)),
 f307:=Tryz.func319.trans (congrArg some (by kernel_rfl)),
 f308:=Tryz.func320.trans (congrArg some (by kernel_rfl)),
 f309:=Tryz.func321.trans (congrArg some (by kernel_rfl)),
 f310:=Tryz.func322.trans (congrArg some (by kernel_rfl)),
 f329:=Tryz.func358.trans (congrArg some (by kernel_rfl)),
 f330:=Tryz.func359.trans (congrArg some (by kernel_rfl)),
 f333:=Tryz.func357.trans (congrArg some (by kernel_rfl)),
 f334:=Tryz.func360.trans (congrArg some (by kernel_rfl)),
 f335:=Tryz.func361.trans (congrArg some (by kernel_rfl)),
 f336:=Tryz.func298.trans (congrArg some (by kernel_rfl)),
 f344:=Tryz.func377.trans (congrArg some (by kernel_rfl)),
 t0:=Tryz.underlying0,
 a0:=Tryz.isAgg0,
 z0:=Tryz.sizeOf0,
 v0:=Tryz.zeroValue0,
 t3:=Tryz.underlying3,
 a3:=Tryz.isAgg3,
 z3:=Tryz.sizeOf3,
 v3:=Tryz.zeroValue3,
 t4:=Tryz.underlying4,
 a4:=Tryz.isAgg4,
 z4:=Tryz.sizeOf4,
 v4:=Tryz.zeroValue4,
 t5:=Tryz.underlying5,
 a5:=Tryz.isAgg5,
 z5:=Tryz.sizeOf5,
 v5:=Tryz.zeroValue5,
 t9:=Tryz.underlying9,
 a9:=Tryz.isAgg9,
 z9:=Tryz.sizeOf9,
 v9:=Tryz.zeroValue9,
 t31:=Tryz.underlying22,
 a31:=Tryz.isAgg22,
 z31:=Tryz.sizeOf22,
 v31:=Tryz.zeroValue22,
 t46:=Tryz.underlying260,
 a46:=Tryz.isAgg260,
 z46:=Tryz.sizeOf260,
 v46:=Tryz.zeroValue260,
 t51:=Tryz.underlying295,
 a51:=Tryz.isAgg295,
 z51:=Tryz.sizeOf295,
 v51:=Tryz.zeroValue295,
 t53:=Tryz.underlying309,
 a53:=Tryz.isAgg309,
 z53:=Tryz.sizeOf309,
 v53:=Tryz.zeroValue309,
 t131:=Tryz.underlying207,
 a131:=Tryz.isAgg207,
 z131:=Tryz.sizeOf207,
 v131:=Tryz.zeroValue207,
 t182:=Tryz.underlying320,
 a182:=Tryz.isAgg320,
 z182:=Tryz.sizeOf320,
 v182:=Tryz.zeroValue320,
 t183:=Tryz.underlying321,
 a183:=Tryz.isAgg321,
 z183:=Tryz.sizeOf321,
 v183:=Tryz.zeroValue321,
 t218:=Tryz.underlying346,
 a218:=Tryz.isAgg346,
 z218:=Tryz.sizeOf346,
 v218:=Tryz.zeroValue346,
 t222:=Tryz.underlying288,
 a222:=Tryz.isAgg288,
 z222:=Tryz.sizeOf288,
 v222:=Tryz.zeroValue288,
 t228:=Tryz.underlying365,
 a228:=Tryz.isAgg365,
 z228:=Tryz.sizeOf365,
 v228:=Tryz.zeroValue365,
 t229:=Tryz.underlying241,
 a229:=Tryz.isAgg241,
 z229:=Tryz.sizeOf241,
 v229:=Tryz.zeroValue241}
end Go.Proofs
namespace Go.aj
open Go.Sort Go.Proofs
set_option maxRecDepth 100000
def Mq {cs a:List aa} {off n:Nat} (b:sub cs off n=some a):a.length=n/\off+n<=cs.length/\ ∀j,j<n->cs[off+j]? =a[j]? :=by
 unfold sub at b;split at b
 . next d=>
   cases b;refine ⟨by rw [h6,oW];omega,d,λj c=> ?_⟩;rw [CX,if_pos c,List.getElem?_drop]
 . cases b
def Zq {ae:aF} {H:af} {w:World} (l:Q ae H w) {id c off d B b o cap len:Nat} {cs a:List aa} (k:aC ae (.ref id c off 1 len false) (.slice (some ⟨b,o,none⟩) len cap)) (q:H.get id=some (.cells c d B cs)) (t:d<=c)
    (m:sub cs off len=some a):b<w.heap.size/\ ∀j,j<len-> ∃(v:aa) (x:Value),a[j]? =some v/\w.cell? ⟨b,o+j,none⟩=some x/\aC ae v x/\w.frozen? ⟨b,o+j,none⟩=false:=by
 obtain ⟨E,V,u⟩:=Mq m;unfold aC at k
 cases k with
 | ref _ _ _ _ _ _ F h D J g L M O P R S=>
   obtain ⟨G,C,e⟩:=l.obj _ _ q;have f:=e.at_;rw [g] at f;simp only [N,bz] at f;obtain ⟨rfl,rfl,rfl⟩:=f;refine ⟨l.e3 _ _ _ _ _ g,λj y=> ?_⟩;have r:=(e.cont c b h cs.length t g).2;have i:j<a.length:=ab;obtain ⟨x,z,A⟩:=r (off+j) a[j] ab ab (by rw [u j y,lj i]);refine ⟨a[j],x,lj i,?_,A,?_⟩
   . rw [sP,<-z];congr 1;omega
   . obtain ⟨I,K,X,U,n,T,p⟩:=e.free;have W:=e.room;unfold World.frozen?;simp only [n];have:=p (off-h.s+j) ab;simpa using this
def F9 {ae:aF} {v:aa} {xs:Array Value} (b: [v].length=xs.size) (a: ∀(i:Nat) (u:aa) (x:Value),[v][i]? =some u->xs[i]? =some x->aC ae u x): ∃x,xs= #[x]/\aC ae v x:=by
 obtain ⟨c⟩:=xs
 match c,b with
 | [x],_=>exact ⟨x,rfl,a 0 _ _ rfl rfl⟩
def Hd (args:Array Value) (w:World):(callFunc 194 args).run Tryz.prog w= .ok (.enter 194 args) w:=enters_of Tryz.func194 aq rfl args w
def aan (a off cap:Nat) (b:List (List UInt8)) (w:World) (c:Holds encStr w a off b.toArray) (d:a<w.heap.size) (f:b.length<4611686018427387904):
    Calls Tryz.prog 194 #[.slice (some ⟨a,off,none⟩) b.length cap] w λe w'=>
     e= .returned (.tuple #[])/\ ∃n g,w'=grow (putRow encStr (Sort.ahead w n) a off (b.mergeSort λx y=>decide (x<=y)).toArray) g:=
 Any.slices_Sort_string Tryz.JR a off cap b w c d f
def aao (p:Option Addr) (cap:Nat) (w:World):Calls Tryz.prog 194 #[.slice p 0 cap] w λe w'=>e= .returned (.tuple #[])/\w'=w:=
 Any.slices_Sort_string_none Tryz.JR p cap w
def o8 (b:List UInt8):Nat×Nat:=(b.length,cV b)
def V1 (a b:List UInt8):decide (a<=b)=JT (o8 a) (o8 b):=by
 show _= !js b.length (cV b) a.length (cV a);rw [Gq,bytesLess_eq];by_cases c:b<a
 . have: ¬a<=b:=λd=>d c;simp [c,this]
 . have:a<=b:=c;simp [c,this]
def aak (a:List (List UInt8)):(a.mergeSort λx y=>decide (x<=y)).map o8=eW (a.map o8):=List.map_mergeSort λb _ c _=>V1 b c
def Mp: ∀ {a:List aa} {l:List (Nat×Nat)},sg a=some l->a=l.map λp=>aa.str p.1 p.2
 | [],l,b=>by cases b;rfl
 | d ::a,l,b=>by
   cases d with
   | str f g=>
     simp only [sg] at b
     cases c:sg a with
     |none=>rw [c] at b;cases b
     |some e=>rw [c] at b;cases b;rw [Mp c];rfl
   |_=>cases b
def H8 {P:Nat->List UInt8->Prop}: ∀(l:List (Nat×Nat)) (o:Nat),(∀j p,l[j]? =some p-> ∃b:List UInt8,o8 b=p/\P (o+j) b)-> ∃c:List (List UInt8),c.map o8=l/\ ∀j b,c[j]? =some b->P (o+j) b
 | [],o,_=>⟨[],rfl,λj b a=>by simp at a⟩
 | p ::l,o,a=>by
   obtain ⟨b,h,i⟩:=a 0 p rfl;obtain ⟨c,k,m⟩:=H8 (P:=P) l (o+1) λj q n=>by obtain ⟨b,f,g⟩:=a (j+1) q (by simpa using n);exact ⟨b,f,by rw [show o+1+j=o+(j+1) by omega];exact g⟩
   refine ⟨b::c,by rw [fS,h,k],λj e d=> ?_⟩
   cases j with
   |zero=>simp at d;subst d;exact i
   | succ j=>
     have:=m j e (by simpa using d);rw [show o+(j+1)=o+1+j by omega];exact this
def Yc (E:Env) (args:List aa) (H:af):e9 E Tryz.prog 194 args H (qC args H):=by
 intro a M o aG v aA I C;unfold qC at a|-;split at a
 case h_3=>exact absurd rfl a
 case h_1=>
  obtain ⟨g,rfl,b⟩:=F9 I C;unfold aC at b;cases b;refine .inl ⟨194,_,Hd _ _,(aao none 0 o).mono ?_⟩;rintro t ao ⟨rfl,rfl⟩;exact ⟨_,_,M,rfl,v,Fr.refl λ_ j=>j,.av [] #[] rfl λe z g j=>by cases j⟩
 rename_i id az aE x;obtain ⟨g,rfl,b⟩:=F9 I C;split at a
 case h_2=>exact absurd rfl a
 rename_i ay ax aF aw F;split at a
 case h_2=>exact absurd rfl a
 rename_i Y;obtain ⟨rfl,ag,X,ad⟩:=of_decide_eq_true Y;split at a
 case h_2=>exact absurd rfl a
 rename_i ar K;split at a
 case h_2=>exact absurd rfl a
 rename_i w Z;split at a
 case h_2=>exact absurd rfl a
 rename_i au ak;have D:=Mp Z;obtain ⟨N,aD,-⟩:=Mq K;have L:=b;unfold aC at L;obtain ⟨i,n,s,rfl⟩: ∃i n s,g= .slice (some ⟨i,n,none⟩) x s:=by cases L;exact ⟨_,_,_,rfl⟩
 obtain ⟨W,ah⟩:=Zq v b F X K;have ae:w.length=x:=by rw [<-N,D,di]
 obtain ⟨c,J,T⟩:=H8 (P:=λd f=>o.cell? ⟨i,d,none⟩=some (encStr f)/\o.frozen? ⟨i,d,none⟩=false) w n λd y q=>by
  have aB:=(e6.1 q).1;obtain ⟨z,A,p,u,B,R⟩:=ah d ab;rw [D,hO,q] at p;cases p;unfold aC at B
  cases B with
  | str f _ _ O Q=>
    refine ⟨f.data.toList,?_,?_,R⟩
    . unfold o8;rw [show f.data.toList.length=f.size from vM,O,show cV f.data.toList=et f from rfl,Q]
    . rw [u]
 have aj:c.length=x:=by rw [<-ae,<-J,di]
 have S:Holds encStr o i n c.toArray:=λd q=>by
  have G:d<c.length:=by simpa using q
  have:=T d c[d] (lj G);refine ⟨?_,this.2⟩;rw [this.1];simp [G]
 subst aj;refine .inl ⟨194,_,Hd _ _,(aan i n s c o S W ad).mono ?_⟩;rintro t ao ⟨rfl,al,an,rfl⟩;simp only [bu,c8];have r:=aak c;rw [J] at r;generalize U:(c.mergeSort λg A=>decide (g<=A))=h at r;have V:h.length=c.length:=by rw [<-U];exact List.length_mergeSort c
 obtain ⟨p,u⟩:=aam Tryz.prog v b F ag (vs:=(eW w).map λy=>aa.str y.1 y.2) encStr h.toArray (by simpa using V)
  ⟨by rw [<-r];simp,λe z g k b=>by
   rw [<-r,hO,hO] at k;rw [yF] at b;have t:h.toArray[e]? =h[e]? :=ai;rw [t] at b
   cases m:h[e]? with
   |none=>rw [m] at k;cases k
   |some aq=>rw [m] at k b;cases k;cases b;exact .str _ _ _ (by simp [ByteArray.size,o8]) (by simp [et,o8])⟩
  (λe A l=>by
   rw [yF] at l
   cases m:h.toArray[e]? with
   |none=>rw [m] at l;cases l
   |some aq=>rw [m] at l;cases l;rfl) ak al an
 exact ⟨_,_,M,rfl,p,u,.av [] #[] rfl λe z g j=>by cases j⟩
open Go Go.Proofs.Tryz
noncomputable abbrev FU (f n:Nat) (fn:Func):iW:=y8 l R f 1 n (la 1) (sf 1) fn
abbrev NX (f n:Nat) (fn:Func):Prop:=pU l prog R f (FU f n fn)
def NU {f n:Nat} {fn:Func} (b:l.fns f=some fn) (a:oX l f 1 n (la 1) fn=true):NX f n fn:=Dp l R f 1 n (la 1) (sf 1) (B9 1) (E1 1) fn rfl b a
noncomputable abbrev FV (f n:Nat) (fn:Func):iW:=y8 l R f 2 n (la 2) (sf 2) fn
abbrev NY (f n:Nat) (fn:Func):Prop:=pU l prog R f (FV f n fn)
def NV {f n:Nat} {fn:Func} (b:l.fns f=some fn) (a:oX l f 2 n (la 2) fn=true):NY f n fn:=Dp l R f 2 n (la 2) (sf 2) (B9 2) (E1 2) fn rfl b a
noncomputable abbrev FW (f n:Nat) (fn:Func):iW:=y8 l R f 3 n (la 3) (sf 3) fn
abbrev NZ (f n:Nat) (fn:Func):Prop:=pU l prog R f (FW f n fn)
def NW {f n:Nat} {fn:Func} (b:l.fns f=some fn) (a:oX l f 3 n (la 3) fn=true):NZ f n fn:=Dp l R f 3 n (la 3) (sf 3) (B9 3) (E1 3) fn rfl b a
noncomputable def EC (f:Nat):Option iW:=match l.fns f with
 |none=>none
 | some fn=>some (match Nat.ble fn.ntmps 8 with
   |true=>FU f fn.ntmps fn
   | false=>match Nat.ble fn.ntmps 64 with
     |true=>FV f fn.ntmps fn
     |false=>FW f fn.ntmps fn)
noncomputable def JC (f:Nat):Bool:=match l.fns f with
 |none=>true
 | some fn=>match Nat.ble fn.ntmps 8 with
   |true=>oX l f 1 fn.ntmps (la 1) fn
   | false=>match Nat.ble fn.ntmps 64 with
     |true=>oX l f 2 fn.ntmps (la 2) fn
     |false=>oX l f 3 fn.ntmps (la 3) fn
def T1:(List.range 410).all JC=true:=by decide+kernel
def YU (f:Nat) (x:iW) (a:EC f=some x):pU l prog R f x:=by
 unfold EC at a
 cases c:l.fns f with
 |none=>rw [c] at a;cases a
 | some fn=>
   have b:=ba.1 T1 f (h9.2 (Fh c));unfold JC at b;rw [c] at a b;dsimp only at a b
   cases d:Nat.ble fn.ntmps 8 with
   |true=>rw [d] at a b;cases a;exact NU c b
   | false=>
     rw [d] at a b;dsimp only at a b
     cases e:Nat.ble fn.ntmps 64 with
     |true=>rw [e] at a b;cases a;exact NV c b
     |false=>rw [e] at a b;cases a;exact NW c b
def V7: ∀e u,l.dH e u=true-> ∀a,1<=a->liesAt prog prog.depth e a 0 u 1=true:=λ_ _ b=>by cases b
end Go.aj
