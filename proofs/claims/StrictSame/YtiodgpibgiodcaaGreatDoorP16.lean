/- A part of the proof. -/
import Derived.KernelRfl
import Derived.Shelf.Lays
import Derived.Shelf.Slices.In.SortNone
import Derived.Shelf.Sort.Plain
import Derived.Test.YtiodgpibgiodcaaGreatDoorP00
import Derived.Test.YtiodgpibgiodcaaGreatDoorP02
import Derived.Test.YtiodgpibgiodcaaGreatDoorP03
import Derived.Test.YtiodgpibgiodcaaGreatDoorP07
import Derived.Test.YtiodgpibgiodcaaGreatDoorP09
import Derived.Test.YtiodgpibgiodcaaGreatDoorP10
import Derived.Test.YtiodgpibgiodcaaGreatDoorP12
import Derived.Test.YtiodgpibgiodcaaGreatDoorP14
import Derived.Test.YtiodgpibgiodcaaGreatDoorP15
import Derived.Test.YtiodgpibgiodcaaGreatDoorProg
set_option linter.all false
set_option maxHeartbeats 4000000
namespace Go.aj
open Go Go.Proofs.Tryz
set_option maxRecDepth 100000
def alC {α β:Type} {N:List aa->α} {f:List aa->β}: ∀ {A B:Y},A.map N=B.map N->(∀a∈A,∀b∈B,N a=N b->f a=f b)->A.map f=B.map f
 | [],[],_,_=>rfl
 | [],_::_,c,_=>by cases c
 |_::_,[],c,_=>by cases c
 |a::A,b::B,c,d=>by rw [fS,fS] at c|-;injection c with e g;rw [d a (dF ..) b (dF ..) e,alC g ah]
def an2 {α:Type} {f:α->Nat} {c:Nat}: ∀ {l:List α},(∀x∈l,f x<=c)->(l.map f).sum<=l.length*c
 | [],_=>by simp
 |b::l,a=>by have e:=a b (dF ..);have g:=an2 (l:=l) λx d=>a x (h8 _ d);rw [fS,kE,cl,iK];omega
def anS (f:List aa->Nat): ∀(A B:Y),A.map ah2=B.map ah2->(∀x∈B,∀a,aN a->ah2 a=ah2 x->e1 a (f x))->(∀a∈A,aN a)->(∀a∈A,e1 a (mT a))/\(A.map mT).sum=(B.map f).sum
 | [],[],_,_,_=>ai
 | [],_::_,b,_,_=>by cases b
 |_::_,[],b,_,_=>by cases b
 | a::A,d::B,c,b,i=>by
   rw [fS,fS] at c;injection c with e g;have h:=b d (dF ..) a (i a (dF ..)) e;obtain ⟨j,k⟩:=anS f A B g ah ah;have l:=Kh h
   grind
def arL {b:List aa} {n:Nat} (c:e1 b n): ∀a,aN a->ah2 a=ah2 b->e1 a n:=by
 induction c with
 | mk g c o p q r=>
   intro a m f;obtain ⟨G,H,w,y,x,z,K,L,u,v,j,h,i⟩:=m.ea;rw [ah9 j h i,ah9 c (λe d=>(o e d).wt) (λe d=>(p e d).wt)] at f;injection f with A B C D E F k l;obtain ⟨s,I⟩:=anS g u _ k q h;obtain ⟨t,J⟩:=anS g v _ l r i;have:=e1.mk mT j s t
   grind
def bL.iU {A B:Y} {N:Nat} (b:bL B N) (g: ∀a∈A,aN a) (e:A.map ah2=B.map ah2):bL A N:=by
 obtain ⟨c,d⟩:=anS mT A B e (λj h a f i=>arL (b.g_ h).1 a f i) g;exact bL.mk c (by rw [d];exact b.sum)
def aof {a b:List aa} (e:alp a=alp b):(eo a).map ah2=(eo b).map ah2/\e7 a=e7 b/\(ali a).length=(ali b).length:=by
 have h:ah2 (als a)=ah2 (als b):=congrArg (·.1) e;have i:ah2 (alu a)=ah2 (alu b):=congrArg (·.2.1) e;have g:(ali a).map ah2=(ali b).map ah2:=congrArg (·.2.2.1) e;have d:=alr g;have j: ∀c:List aa,(eo c).map ah2= [ah2 (als c),ah2 (alu c)]++(ali c).map ah2:=λc=>by show ([c.take 6,(c.drop 6).take 6]++f (M c 12)).map ah2=_;rw [vR];rfl
 exact ⟨ah,by unfold e7;exact congrArg (2+ ·) d,d⟩
def apU {a b:List aa} (e:alc a=alc b):alE a=alE b/\iO a=iO b:=by
 have c:M a 1=M b 1:=congrArg (·.2.1) e;have d:(cu a).map ah2=(cu b).map ah2:=congrArg (·.2.2.2.1) e;exact ⟨by unfold alE;rw [amu c,c],congrArg (1+ ·) (alr d)⟩
def am1 {a b:List aa} (e:ald a=ald b):(pf a).map ah2=(pf b).map ah2/\kJ a=kJ b/\ju a=ju b/\alz a=alz b/\(amb b->amb a)/\alj a=alj b:=by
 have m:M a 0=M b 0:=congrArg (·.1) e;have d:(f (M a 1)).map alc=(f (M b 1)).map alc:=congrArg (·.2.1) e;have n:(f (M a 2)).map ah2=(f (M b 2)).map ah2:=congrArg (·.2.2.1) e;have j:(f (M a 3)).map (λg=>(cC g).map ah2)=(f (M b 3)).map (λg=>(cC g).map ah2):=congrArg (·.2.2.2.1) e;have r:f (M a 4)=f (M b 4):=congrArg (·.2.2.2.2.1) e;obtain ⟨p,q⟩:=apZ e;have t:=alr d;have s:=alr n;have u:=alr j;have w:(f (M a 1)).map iO=(f (M b 1)).map iO:=alC d λk _ l _ c=>(apU c).2;have x:(f (M a 3)).map lp=(f (M b 3)).map lp:=alC j λk _ l _ c=>alr c;have v:(f (M a 1)).map alE=(f (M b 1)).map alE:=alC d λk _ l _ c=>(apU c).1;refine ⟨?_,?_,?_,?_,?_,?_⟩
 . have o: ∀h i:Y,(h++i).map ah2=h.map ah2++i.map ah2:=ai;unfold pf
   grind
 . unfold kJ
   grind
 . unfold ju
   grind
 . unfold alz
   grind
 . unfold amb
   grind
 . unfold alj;rw [m]
def anu {a b:List aa} (e:ak8 a=ak8 b):sQ a=sQ b/\ah2 (dQ a)=ah2 (dQ b):=⟨by
 have c:M a 0=M b 0:=congrArg (·.1) e;unfold sQ;rw [c],congrArg (·.2.2.1) e⟩
def aqr {g ro rm h i p j k:Y} (l:g.map alp=i.map alp) (n:ro.map ak8=p.map ak8) (m:rm.map ak8=j.map ak8) (o:h.map ald=k.map ald):(eE g ro rm h).map ah2=(eE i p j k).map ah2:=by
 have q:(g.map λa=>(eo a).map ah2)=i.map λa=>(eo a).map ah2:=alC l λb _ c _ d=>(aof d).1;have r:((ro++rm).map λa=>ah2 (dQ a))=(p++j).map λa=>ah2 (dQ a):=by rw [vR,vR,alC n λb _ c _ d=>(anu d).2,alC m λb _ c _ d=>(anu d).2]
 have s:(h.map λa=>(pf a).map ah2)=k.map λa=>(pf a).map ah2:=alC o λb _ c _ d=>(am1 d).1;have t: ∀b c e f:Y,(eE b c e f).map ah2=(b.map λa=>(eo a).map ah2).flatten++((c++e).map λa=>ah2 (dQ a))++(f.map λa=>(pf a).map ah2).flatten:=λb c e f=>by unfold eE;rw [vR,vR,anG,anG,tB,tB,tB];rfl
 grind
def arX {r:List aa} (h:c6 r) (d:(f (M r 1)).length<1048560) (c:ak7 r= []):amE (il r) r:=by
 obtain ⟨o,q,g,p,s,y,a⟩:=h;have i:=a.nm.2.2.2.1;have j:=a.nm.2.2.2.2.1;rw [i] at d;rw [j] at c;subst c;have m:=a.hS;obtain ⟨v,w,x,t,ac,rfl,e,n,u,b,k,l⟩:=a.eq;refine ⟨o,q,p,s,t,ac,g,u,[],_,_,_,_,_,_,⟨rfl,rfl⟩,⟨?_,e,m,d⟩,⟨?_,b,l,k⟩,⟨.inl ⟨rfl,rfl⟩,n,ai,al⟩⟩
 . rw [bm e];exact fW _
 . rw [bm b];exact xH b
def arV {r:List aa} (i:c6 r) (e:(f (M r 1)).length<1048560) (d:(ak7 r).length<1048560):amE (ct r) r:=by
 obtain ⟨p,s,h,q,t,w,a⟩:=i;have j:=a.nm.2.2.2.1;have k:=a.nm.2.2.2.2.1;rw [j] at e;rw [k] at d;have n:=a.hS;have o:=a.rs;obtain ⟨x,y,z,u,ac,rfl,g,c,v,b,l,m⟩:=a.eq;refine ⟨p,s,q,t,u,ac,h,v,w,_,_,_,_,_,_,⟨rfl,rfl⟩,⟨?_,g,n,e⟩,⟨?_,b,m,l⟩,⟨?_,c,o,d⟩⟩
 . rw [bm g];exact fW _
 . rw [bm b];exact xH b
 . rw [bm c];exact xH c
def arW {l m ls ms j:Nat} {args:Y} (b:b8 args) (d:args.length<1048560):amE (ko l m args ls ms j) (ko l m args ls ms j):=
 ⟨_,_,_,_,_,_,args.eraseIdx j,[],[],_,_,_,_,_,_,⟨rfl,rfl⟩,⟨.inr ⟨_,rfl⟩,.inr ⟨_,rfl⟩,λc a=>b c (tC a),ah⟩,⟨.inl ⟨rfl,rfl⟩,.inl ⟨rfl,rfl⟩,ai,al⟩,⟨.inl ⟨rfl,rfl⟩,.inl ⟨rfl,rfl⟩,ai,al⟩⟩
def ao3 {b s:List aa} {kN k rop g m o p u l:Y} (c:fz b s kN k rop g m o p u l) (D:amd kN k rop g m) (q: ∀r∈rop,ak7 r= []) (aT:kN.length+k.length+rop.length+g.length+m.length<1048560) {a:List aa} (ak:al5 b kN k rop g m o p u l a):anp a b o p u l:=by
 have hF:oN rop= []:=anE.2 λr d=>by unfold rj;rw [show f (M r 6)=ak7 r from rfl,q r d];rfl
 have ag:kO p true true rop= []:=anE.2 λr d=>by unfold qF;rw [show f (M r 6)=ak7 r from rfl,q r d];rfl
 obtain ⟨O,v,J,B,Q,aL,aE,aC,aM,aG,aJ,aI,aH,rfl,⟨aq,ar,t,au,av⟩,⟨aw,x,ad⟩,⟨ay,z,af⟩,⟨ax,y,ae⟩,E,A,aj⟩:=ak;have aW:=c.n1;have aU:=c.iN;have az:o.length<1048560:=ab;have aA:l.length<1048560:=by have:=nV l;omega
 unfold eZ at t;rw [hF,fw] at t;rw [ag,fw] at E;obtain ⟨aZ,U,aF,aX,aD,aK,a7,a8,h,⟨H,I,rfl,-⟩,al,an,⟨F,G,rfl,-⟩,e,d,⟨L,N,rfl,-⟩,⟨S,T,rfl,-⟩⟩:=c.eq;obtain ⟨P,w,K,C,R,rfl,aO,aP,aQ,aR,aS⟩:=c.bT.eq;have V:M b 0= .str H I:=by rw [h];rfl
 have Z:M b 8= .str F G:=by rw [h];rfl
 have W:M b 11= .str L N:=by rw [h];rfl
 have X:M b 12= .str S T:=by rw [h];rfl
 rw [V,Z,W,X];have aY:=λr (d:r∈rop)=>(D.2.2.2.2.1 r d).1.2.1;have aB:=λr (d:r∈g)=>D.2.2.2.2.2 r d;refine ⟨H,I,F,G,L,N,S,T,O,v,J,B,Q,P,w,K,C,R,aL,aE,aC,aM,U,aF,aD,aK,aG,aJ,aI,aH,⟨rfl,h⟩,
  ⟨kN,k,rop.map il,rop,g.map ct,g,m,O,v,J,B,Q,P,w,K,C,R,ai,⟨aq,aO,c.bT.so,ab⟩,⟨ar,aP,c.bT.be,ab⟩,⟨t,aQ,ai,ah,λao aN n i j=> ?_⟩,⟨au,aR,ai,ah,λao aN n i j=> ?_⟩,⟨av,aS,c.bT.bJ,ab⟩⟩,
  ⟨aw,al,x,ad,c.kx,by rw [alr x];exact az⟩,⟨ay,an,z,af,c.b9,by rw [alr z];omega⟩,⟨ax,e,y,ae,c.hm,by rw [alr y];omega⟩,⟨E,d,A,aj,c.bh,by rw [alr A];exact aA⟩⟩
 . rw [hO,j] at i;cases i;have e:=aV j;exact arX (c.bT.op n e) ah (q n e)
 . rw [hO,j] at i;cases i;have e:=aV j;obtain ⟨⟨-,a1,-⟩,-,-,-,a6⟩:=aB n e;exact arV (c.bT.cP n e) ab ab
section
variable {kN aw rop ao aJ p ahI:Y}
theorem aqa (b: ∀r∈rop,c6 r) (e:amd kN aw rop ao aJ) (c:lD p rop ahI ao) {q:List aa} (a:q∈eZ rop):ak7 q= []:=by
 rcases cr.1 a with a|a
 . obtain ⟨r,d,rfl⟩:=cd.1 a;exact (amA (b r d)).2.2.1
 . obtain ⟨r,j,l,f,k,m,n,i,h,g,rfl⟩:=al8 b e c a;rfl
theorem arR (a: ∀r∈rop,ak7 r= []):oN rop= []:=anE.2 λr b=>by unfold rj;rw [show f (M r 6)=ak7 r from rfl,a r b];rfl
theorem arT (b c:Bool) (a: ∀r∈rop,ak7 r= []):kO p b c rop= []:=anE.2 λr d=>by unfold qF;rw [show f (M r 6)=ak7 r from rfl,a r d];rfl
theorem arS (a: ∀r∈rop,ak7 r= []) (g:ahI.length<=300) (h:rop.length+ao.length<=200):lD p rop ahI ao:=by
 have d:=arR a;have e:=arT (p:=p) true true a;refine ⟨ah,ah,?_,ah,ah,ah⟩;rw [CP];intro r b;have c:f (M r 6)= []:=a r b;unfold vH
 grind
end
structure aqd (kN aw rop ao aJ ah0 p zI ahI:Y) (w s:List aa) (K6 ro rm K7:Y):Prop where
  anv:fz w s kN aw (eZ rop) (ao.map ct) aJ K6 ro rm (K7++kO p true true rop)
  an0:alM w kN aw (eZ rop) (ao.map ct) aJ K6 ro rm (K7++kO p true true rop)
  ap5:bL (eE K6 ro rm (K7++kO p true true rop)) 30000
  Ii:kN.length+aw.length+(eZ rop).length+(ao.map ct).length+aJ.length<800000
  arz:K7.length=ahI.length
theorem asy {d s:List aa} {kN aw rop ao aJ K p F ahI:Y} (G:fz d s kN aw rop ao aJ K p F ahI) (aX:oA kN aw rop ao aJ K p F ahI) (L:alM d kN aw rop ao aJ K p F ahI) (O:lD p rop ahI ao) {w:List aa}
  (aO:al5 d kN aw rop ao aJ K p F ahI w): ∃s' J ro rm k,aqd kN aw rop ao aJ K p F ahI w s' J ro rm k:=by
 obtain ⟨az,an,ay,ar,aA,aB,ax,B,aC,J,ro,rm,k,rfl,⟨cE,cF,cG,cH,cI⟩,⟨bO,aj,bn⟩,⟨bQ,ae,aI⟩,⟨bP,ad,aS⟩,bR,R,bp⟩:=aO;obtain ⟨⟨⟨⟨b4,b5,b6,b7⟩,b8⟩,aR,ca,bg⟩,Q,bo,⟨ck,bm⟩,⟨br,bs,bt,cp,cq⟩,bq⟩:=L;have H:=G.bT.op;have W:=G.bT.cP;have aY:=G.bT.so;have cK:=alr aj;have cL:=alr ae;have bU:=alr ad;have bV:=alr R;have aT:=λh B=>aqn ae ad aI G.b9 aS G.hm h B;have bz:rp p=rp ro:=by
  have:=alC (f:=eV 1 107) ae λi U D bu c=>aoc (aI i U) (G.b9 D bu) c 1 107;unfold rp;have I: ∀h:Y,h.any (eV 1 107)=(h.map (eV 1 107)).any id:=λh=>by simp
  grind
 have bw: ∀b∈rop,ak7 b≠ []->(ak5 ro rm 1 107).2.2=true/\(ak5 ro rm 1 107).1=(4,1953720652):=ah;have N:=λy E=>ar7 (ro:=ro) (rm:=rm) H W aY Q O bw bz (x:=y) E;have bK:=asB H W Q O;have aZ:=λI u=>aqa H Q O (q:=I) u;have aH:=λh B e=>arN H Q O (l:=h) (m:=B) e W;have cy:=O.l1;have cz:=O.l2;have bH:=ar8 H Q O;have bI:=O.ag6;obtain ⟨a1,c,cQ,aP,cM,cT,ai,a8,au,bD,-,-,bA,-,-,bM,bN⟩:=G.eq;obtain ⟨cY,b0,cR,cb,cZ,rfl,-⟩:=G.bT.eq;have cc:M d 0=a1:=by rw [au];rfl
 have ch:M d 8=aP:=by rw [au];rfl
 have cf:M d 11=ai:=by rw [au];rfl
 have cg:M d 12=a8:=by rw [au];rfl
 have bG: ∀I∈eZ rop,c6 I:=λI u=>by
  rcases cr.1 u with u|u
  . obtain ⟨b,a,rfl⟩:=cd.1 u;obtain ⟨-,h,B,Z,af,ag,ai,i,ak,s',X,A,z,c,U,Q,aQ,aL,aM,aN⟩:=Kw (H b a);have aG:il b= [.str h B,i,.str af ag,ak,.int .i64 X,.int .i64 A,.V]:=by unfold il;rw [c];rfl
    exact ⟨h,B,Z,af,ag,[],⟨⟨i,ak,.V,X,A,aG,U,.inl ⟨rfl,rfl⟩,aQ,aL,aM,aN⟩,z.c5,z.pw,z.s1,z.s2,z.hS,z.zk,λ_ e=>(by cases e),al⟩⟩
  . obtain ⟨b,h,B,Z,af,ag,ai,aP,A,L,rfl⟩:=al8 H Q O u;have cx:=C0 Z A;have:=L.lo;have:=L.FX;have:=L.j;exact ⟨fe h,gD h B A,Z.eraseIdx A,af,ag,[],⟨⟨_,_,_,_,_,rfl,.inr ⟨_,rfl⟩,.inl ⟨rfl,rfl⟩,[],.inl ⟨rfl,rfl⟩,al,λ_ e=>by cases e⟩,BR L.o.c5 ab,L.o.pw,by unfold fe;omega,L.o.s2,λb a=>L.o.hS b (tC a),ab,λ_ e=>(by cases e),al⟩⟩
 have bF: ∀I∈ao.map ct,c6 I:=λI u=>by obtain ⟨b,a,rfl⟩:=cd.1 u;obtain ⟨-,h,B,Z,af,ag,ai,i,ak,s',X,A,z,c,U,Q,aQ,aL,aM,aN⟩:=Kw (W b a);exact ⟨h,B,Z,af,ag,ai,⟨⟨i,ak,s',X,A,c,U,Q,aQ,aL,aM,aN⟩,z.c5,z.pw,z.s1,z.s2,z.hS,z.zk,z.rs,z.rS⟩⟩
 have cC:(eZ rop).length=rop.length+(oN rop).length:=by unfold eZ;simp
 have cA:(ao.map ct).length=ao.length:=di ..
 have cj:=aX.Ii;have hT:=aX.t;have cU:J.map e7=K.map e7:=alC aj λi _ D _ e=>(aof e).2.1;have cX:k.map kJ=ahI.map kJ:=alC R λi _ D _ e=>(am1 e).2.1;have cW:k.map ju=ahI.map ju:=alC R λi _ D _ e=>(am1 e).2.2.1;have cV:k.map alz=ahI.map alz:=alC R λi _ D _ e=>(am1 e).2.2.2.1;have a7:k.map alj=ahI.map alj:=alC R λi _ D _ e=>(am1 e).2.2.2.2.2;have b1:(ro++rm).map sQ=(p++F).map sQ:=by rw [vR,vR,alC ae λi _ D _ e=>(anu e).1,alC ad λi _ D _ e=>(anu e).1]
 have cn:=hT.len;have cm:(eE K p F ahI).length=(K.map e7).sum+(p.length+F.length)+(ahI.map kJ).sum:=by rw [<-(Yn K p F ahI).length_eq,K8]
 have cu:((kO p true true rop).map kJ).sum<=(kO p true true rop).length*64:=an2 λy E=>(N y E).n.1;have cv:((kO p true true rop).map ju).sum<=(kO p true true rop).length*2:=an2 λy E=>(N y E).n.2;have cw:(ahI.map ju).sum<=ahI.length*41:=an2 λb a=>by have:=aR b a;unfold amb at this;unfold ju;omega
 have aU:=aqr aj ae ad R;have aW:fz [M d 0,az,an,ay,ar,aA,aB,ax,M d 8,B,aC,M d 11,M d 12] [az,an,ay,ar,aA] kN aw (eZ rop) (ao.map ct) aJ J ro rm (k++kO p true true rop):=by
  refine ⟨⟨a1,aB,ax,aP,B,aC,ai,a8,ah,bD,bO,bQ,bA,bP,bR,bM,bN⟩,⟨ah,aY,G.bT.be,bG,bF,G.bT.bJ,ab⟩,bn,aI,aS,λb a=> ?_,?_,?_⟩
  . rcases cr.1 a with a|a
    . grind
    . exact (N b a).ag6
  all_goals grind
 refine ⟨_,J,ro,rm,k,aW,?_,?_,ab,bV⟩
 . refine ⟨⟨⟨ah,λy E=> ?_⟩,λb a=> ?_,?_,λT C=> ?_⟩,bK,λb a=> ?_,⟨ah,λb a=> ?_⟩,⟨?_,?_,?_,λb a e=>absurd (aZ b a) e,λb a e=>absurd (aZ b a) e⟩,λA b a=> ?_⟩
   . obtain ⟨g,r,c⟩:=amk aj E;rw [(aof c).2.2]
     grind
   . rcases cr.1 a with a|a
     . obtain ⟨g,r,c⟩:=amk R a;exact (am1 c).2.2.2.2.1 (aR g r)
     . exact (N b a).s
   . have bf:alW [M d 0,az,an,ay,ar,aA,aB,ax,M d 8,B,aC,M d 11,M d 12] ro rm (k++kO p true true rop)=alW d p F ahI++(kO p true true rop).flatMap alz:=by
      have bj: ∀i D aF y g bX:Y,alW [M d 0,az,an,ay,ar,aA,aB,ax,M d 8,B,aC,M d 11,M d 12] i D aF= [[M d 0],[M d 11],[M d 12]]++(if kt d 8=(0,0) then [] else [[M d 8]])++(i++D).map sQ++aF.flatMap alz:=λi D aF y g bX=>rfl;rw [bj ro rm _ [] [] []];unfold alW
      grind
     rw [bf];intro I u;rcases cr.1 u with u|u
     . grind
     . obtain ⟨y,E,u⟩:=fC.1 u;exact (N y E).nm I u
   . have C:=(Yn ..).mem_iff.1 C;have bS: ∀T∈eE K p F ahI,aln (ah2 T)=true:=λT C=>bg T ((Yn ..).mem_iff.2 C);have aq:eE J ro rm (k++kO p true true rop)=eE J ro rm k++((kO p true true rop).map pf).flatten:=by unfold eE;simp
     rw [aq] at C;rcases cr.1 C with C|C
     . exact am9 aU (P:=λT=>aln T=true) bS T C
     . obtain ⟨h,bB,C⟩:=kD.1 C;obtain ⟨y,E,rfl⟩:=cd.1 bB;exact (N y E).v T C
   . obtain ⟨g,r,c⟩:=amk aj a;have bc:ah2 (als b)=ah2 (als g):=congrArg (·.1) c;have aG:ah2 (alu b)=ah2 (alu g):=congrArg (·.2.1) c;have bd:(ali b).map ah2=(ali g).map ah2:=congrArg (·.2.2.1) c;rw [bc,aG,bd];exact aqy H W aH (bo g r)
   . have: ∃g∈p++F,ak8 b=ak8 g:=by
      rcases cr.1 a with a|a
      . obtain ⟨g,r,c⟩:=amk ae a;exact ⟨g,hP _ r,c⟩
      . obtain ⟨g,r,c⟩:=amk ad a;exact ⟨g,h7 _ r,c⟩
     obtain ⟨g,r,c⟩:=this;exact aqp H W aH c (bm g r)
   . exact br
   . rw [aT];exact bs
   . have c:rm= []↔F= []:=by rw [<-amV,bU,amV]
     rw [c];exact bt
   . by_cases bx:A<k.length
     . rw [yN bx] at a;obtain ⟨g,r,c⟩:=alD R a;have C:((k++kO p true true rop).take A).map alj=(ahI.take A).map alj:=by rw [vT ab,List.map_take,a7,List.map_take]
       rw [C];exact asb H W aH aT ad (G.bh g (aV r)) (bp b (aV a)) c (bq A g r)
     . rw [vP ab] at a;have aK:=aV a;refine (N b aK).p _ _ λS=> ?_;have S:alj b∈((k++kO p true true rop).take A).map alj:=S;rw [List.take_append,fT ab,vR,a7] at S;rcases cr.1 S with S|S
       . obtain ⟨g,r,c⟩:=cd.1 S;have bE:=CP.1 (bI b aK) g r;obtain ⟨cN,ak,X,w,b2,i,D,rfl,⟨aD,aE,rfl,-⟩,-⟩:=G.bh g r;obtain ⟨cO,cS,cD,c0,b3,bY,bZ,rfl,⟨ba,bb,rfl,-⟩,-⟩:=(N b aK).ag6;have c: [aa.str aD aE]= [.str ba bb]:=c;cases c;exact bE (by show (aD==aD&&aE==aE)=true;simp)
       . obtain ⟨g,r,c⟩:=cd.1 S;obtain ⟨X,av⟩:=jo r;rw [CX] at av;split at av
         rotate_left
         . cases av
         rename_i cB;have bC:((kO p true true rop).map alj).Nodup:=bH;have a6:((kO p true true rop).map alj)[A-k.length]? =some (alj b):=by rw [hO,a];rfl
         have bW:((kO p true true rop).map alj)[X]? =some (alj b):=by rw [hO,av,<-c];rfl
         have:=(List.getElem?_inj (e6.1 a6).1 bC).1 (a6.trans bW.symm);omega
 . have aq:eE J ro rm (k++kO p true true rop)=eE J ro rm k++((kO p true true rop).map pf).flatten:=by unfold eE;rw [vR (l₁:=k),aop];exact (fu ..).symm
   rw [aq];have bk:bL (eE J ro rm k) 2500:=hT.iU (λi U=>by have aO:=YT aW i ((Yn ..).mem_iff.2 (by rw [aq];exact hP _ U));exact aO) aU;have bl: ∀h:Y,(∀y∈h,bL (pf y) 70)->bL (h.map pf).flatten (h.length*70):=λh=>by
    induction h with
    |nil=>intro _;exact bL.nil _
    | cons i h cJ=>
      intro e;rw [fS,iJ,cl,iK,Nat.one_mul,Nat.add_comm];exact (e i (dF ..)).app ah
   refine (bk.app (bl _ λy E=>(N y E).t)).mono ?_;omega
set_option maxHeartbeats 1000000
def anN {w:List aa} (n:w.length=13): ∃c0 a f g h i j k l m b c e,w= [c0,a,f,g,h,i,j,k,l,m,b,c,e]:=by
 match w,n with
 | [c0,a,f,g,h,i,j,k,l,m,b,c,e],_=>exact ⟨_,_,_,_,_,_,_,_,_,_,_,_,_,rfl⟩
def an9 (d:List aa) (kN aw rop ao aJ ahJ p aU ahI:Y) (v:aa):Prop:= ∃b a,v= .av [.agg b,.int .i64 a]/\b.length=13/\(∀c∈b,J c=true/\D 18 c=true)/\
 (a=0/\(alM d kN aw rop ao aJ ahJ p aU ahI/\lD p rop ahI ao)/\al5 d kN aw rop ao aJ ahJ p aU ahI b\/(a=2\/a=3\/a=14)/\ ¬(alM d kN aw rop ao aJ ahJ p aU ahI/\lD p rop ahI ao))
section
variable {d s:List aa} {kN aw rop ao aJ ahJ p aU ahI:Y} (aX:fz d s kN aw rop ao aJ ahJ p aU ahI)
include aX
theorem aox {N:Nat} (hT:bL (eE ahJ p aU ahI) N) (hN:N<50000) (au:kN.length+aw.length+rop.length+ao.length+aJ.length<800000) (aA: ∀r∈ao,nk r):dt 9 [.agg d] (an9 d kN aw rop ao aJ ahJ p aU ahI) bQ:=by
 obtain ⟨aG,h⟩:=(apz aX hT hN).val;obtain ⟨aH,q⟩:bo λj k=>alM d kN aw rop ao aJ ahJ p aU ahI-> ∀b,Z b-> ∃g,xe d kN aw rop ao aJ ahJ p aU ahI g/\ ∀S,az G (X G R j k) 26 [.agg d] b S= .ok g S b:=by
  by_cases E:alM d kN aw rop ao aJ ahJ p aU ahI
  . obtain ⟨aF,aB⟩:=(UT aX (ano aX.bT.op E.2.1) au aA hT hN).val;exact ⟨aF,λj k T v _ b i=>aB j k T v b i⟩
  . exact ⟨0,λ_ _ _ _ f=>absurd f E⟩
 obtain ⟨u,x⟩: ∃u,u=an9 d kN aw rop ao aJ ahJ p aU ahI:=⟨_,rfl⟩;obtain ⟨l,y⟩: ∃l,l=alM d kN aw rop ao aJ ahJ p aU ahI:=⟨_,rfl⟩;have C: ∀g,u g↔ ∃n e,g= .av [.agg n,.int .i64 e]/\n.length=13/\(∀a∈n,J a=true/\D 18 a=true)/\(e=0/\(l/\lD p rop ahI ao)/\al5 d kN aw rop ao aJ ahJ p aU ahI n\/(e=2\/e=3\/e=14)/\ ¬(l/\lD p rop ahI ao)):=λg=>by rw [x,y];rfl
 rw [<-x];rw [<-y] at h q;clear x y;have ay:=aX.eq;obtain ⟨aZ,aM,a1,aR,aY,a8,bc,bf,t,⟨bn,bs,rfl,bh,aT⟩,H,L,⟨bm,br,rfl,bg,aS⟩,K,O,⟨bp,bt,rfl,bj,aV⟩,⟨bq,bu,rfl,bk,aW⟩⟩:=ay;obtain ⟨bb,aI,a7,aN,bd,rfl,P,F,M,I,Q⟩:=aX.bT.eq;simp only [bl,a6] at t;have aO:=t;refine aL.run (m:=11) rfl rfl rfl rfl rfl rfl rfl rfl (aG+aH) λj k aP aQ b i=> ?_;obtain ⟨_,⟨v,rfl,z⟩,o⟩:=h j k ab ab b i;have aE: ∀a∈([.str 0 0,.V,.V,.V,.V,.V,.V,.V,.str 0 0,.V,.V,.str 0 0,.str 0 0]:List aa),J a=true/\D 18 a=true:=λa c=>by simp only [b2,dG,or_false] at c;rcases c with rfl|rfl|rfl|rfl|rfl|rfl|rfl|rfl|rfl|rfl|rfl|rfl|rfl<;>exact ⟨rfl,rfl⟩
 cases v with
 | false=>
   have aC: ¬l:=λf=>by have:=z.2 f;cases this
   rw [t] at o|-;simp only [go_sem,P.J,F.J,M.J,I.J,Q.J,H.J,L.J,K.J,O.J,o];exact ak.mk ((C _).2 ⟨_,2,rfl,rfl,aE,.inr ⟨.inl rfl,λf=>aC f.1⟩⟩) rfl i (U.refl _)
 | true=>
   obtain ⟨g,⟨n,e,rfl,aD,A,ax⟩,B⟩:=q j k ab ab (z.1 rfl) b i;obtain ⟨W,Y,ag,ah,ai,aj,al,an,aq,ar,ad,ae,af,rfl⟩:=anN aD;have ok:=λa c=>(A a c).1;have aK:=λa c=>rU (ok a c);rw [t] at o B|-;simp only [go_sem,P.J,F.J,M.J,I.J,Q.J,H.J,L.J,K.J,O.J,o,B,ok,b2,true_or,or_true];refine ak.mk ((C _).2 ⟨_,e,rfl,rfl,A,?_⟩) ?_ i (U.refl _)
   . rcases ax with ⟨w,h,q⟩|⟨w,h⟩
     . exact .inl ⟨w,⟨z.1 rfl,h⟩,q⟩
     . exact .inr ⟨.inr w,λf=>h f.2⟩
   . show ([W,Y,ag,ah,ai,aj,al,an,aq,ar,ad,ae,af].all (D 18)&&_)=true;rw [ba.2 λa c=>(A a c).2];rfl
theorem aqX {N:Nat} (hT:bL (eE ahJ p aU ahI) N) (hN:N<50000) (q:kN.length+aw.length+rop.length+ao.length+aJ.length<800000) (z: ∀r∈ao,nk r) (h:alM d kN aw rop ao aJ ahJ p aU ahI) (t:lD p rop ahI ao):
  dt 16 [.agg d] (λv=> ∃x,v= .av [x,.int .i64 0]/\F x (oN rop)) bQ:=by
 obtain ⟨Q,n⟩:=(aox aX hT hN q z).val;obtain ⟨R,o⟩:=Vo aX (ano aX.bT.op h.2.1);have y:=aX.eq;obtain ⟨aB,aj,aC,ar,aA,aF,aH,aN,i,⟨aV,a1,rfl,aQ,ax⟩,E,I,⟨aT,aZ,rfl,aP,au⟩,H,L,⟨aW,a7,rfl,aR,ay⟩,⟨aY,a8,rfl,aS,az⟩⟩:=y;obtain ⟨aG,S,aE,al,aK,rfl,M,D,K,G,P⟩:=aX.bT.eq;simp only [bl,a6] at i;refine aL.run (m:=15) rfl rfl rfl rfl rfl rfl rfl rfl (Q+R) λj k an aq e c=> ?_;obtain ⟨v,⟨aM,l,rfl,B,A,u⟩,f⟩:=n j k ab ab e c;obtain ⟨v,a,g⟩:=o j k ab ab e c;obtain ⟨T,V,Z,aa,ad,ae,af,ag,ah,ai,W,X,Y,rfl⟩:=anN B;have ok:=λx C=>(A x C).1;have w:l=0:=by
  rcases u with b|b
  . exact b.1
  . exact absurd ⟨h,t⟩ b.2
 subst w;rw [i] at f g|-;simp only [go_sem,M.J,D.J,K.J,G.J,P.J,E.J,I.J,H.J,L.J,f,g,ok,b2,true_or,or_true,bne_self_eq_false,a.O];rw [Y4 _ _ _ a.aD rfl];refine ak.mk ⟨_,rfl,a⟩ ?_ c (U.refl _);show ([v,.int .i64 0].all _)=true;simp only [aO,a.aI];rfl
end
def asf (rows:Y) (j: ∀b∈rows,aN b): ∃K,∀ad n,K<=ad->K<=n->an7 rows ad n:=by
 obtain ⟨K,g⟩:=dE (l:=rows) (Q:=λb ad n=> ∀c,aN c->ah2 c=ah2 b-> ∀a f,Z a->az G (X G R ad n) 12 [.agg c,.agg b] a f= .ok (.bool true) f a) λb e=>ajK (j b e);exact ⟨K,λad n h i b e=>g ad n h i b e⟩
def apo {b s:List aa} {kN aw rop ao aJ ahJ p aU ahI:Y} (g:fz b s kN aw rop ao aJ ahJ p aU ahI):bo λad n=> ∀a,anp a b ahJ p aU ahI-> ∀H tm,Z H->az G (X G R ad n) 18 [.agg a,.agg b] H tm= .ok (.bool true) tm H:=by
 obtain ⟨c,e⟩:=asf (eE ahJ p aU ahI) λk i=>YT g k ((Yn ..).mem_iff.2 i);exact ⟨c+1048576,λad n l m a f H tm j=>aqY (K:=c) (λn h=>e ad n ab h) ab f ab j tm⟩
theorem U_:K 8 [] (.bool true):=C.cL (p:=KK) rfl rfl rfl rfl λ_=>rfl
def ase {r:List aa} (b:c6 r) (n:nk r):nk (ct r):=λs w d u y o c=>by
 obtain ⟨t,x,e,v,z,p,a⟩:=id b;obtain ⟨h,q,i,-⟩:=ann b;have j:=c.nm.2.2.2.1;have l:=c.nm.2.2.2.2.1;have k:=a.nm.2.2.2.1;have m:=a.nm.2.2.2.2.1;have f:d=e:=by rw [<-j,<-k,h]
 have g:o=p:=by rw [<-l,<-m,i]
 rw [f,g];exact n _ _ _ _ _ _ a
def an8 (d:List aa) (rop:Y) (ad n:Nat) (w:List aa):Prop:=(∀a b,Z a->az G (X G R ad n) 17 [.agg w] a b= .ok (.bool true) b a)/\
 (∀a,Z a-> ∃c,(c.length=13/\ ∀g∈c,J g=true)/\(∀b,az G (X G R ad n) 9 [.agg w] a b= .ok (.av [.agg c,.int .i64 0]) b a)/\ ∀e b,Z e->az G (X G R ad n) 18 [.agg c,.agg w] e b= .ok (.bool true) b e)/\
 ((∀f∈rop,ak7 f= [])-> ∀a b,Z a->az G (X G R ad n) 18 [.agg w,.agg d] a b= .ok (.bool true) b a)
def aq1 {d s:List aa} {kN f rop c i g p h e:Y} (k:fz d s kN f rop c i g p h e) (z:oA kN f rop c i g p h e) (v:alM d kN f rop c i g p h e) (x:lD p rop e c):
    bo λad n=> ∀w,al5 d kN f rop c i g p h e w->an8 d rop ad n w:=by
 obtain ⟨G,M⟩:=pk.made d kN f rop c i g p h e;have an:=z.Ii;have B:=λC y=>aqa k.bT.op v.2.1 x (q:=C) y;obtain ⟨W,r⟩:=dE (l:=G) (Q:=λw ad n=>al5 d kN f rop c i g p h e w->an8 d rop ad n w) λw _=>by
  by_cases b:al5 d kN f rop c i g p h e w
  rotate_left
  . exact ⟨0,λ_ _ _ _ r=>absurd r b⟩
  obtain ⟨av,ar,ah,au,ag,a⟩:=asy k z v x b;have K:=a.Ii;have N:lD ah (eZ rop) (ag++kO p true true rop) (c.map ct):=arS B (by have:=x.l1;rw [bD,a.arz];exact this) a.an0.2.1.1.2.2.1;obtain ⟨X,t⟩:=(apz a.anv a.ap5 al).val;obtain ⟨Z,u⟩:=(aox a.anv a.ap5 al K λC y=>by obtain ⟨D,A,rfl⟩:=cd.1 y;exact ase (k.bT.cP D A) (z.cP D (h7 _ A))).val;obtain ⟨ae,I⟩:=apo a.anv;obtain ⟨af,J⟩:=apo k;refine ⟨X+Z+ae+af,λad n ao aq _=>⟨λj m b=> ?_,λj b=> ?_,λH j m hT=>J ad n ab ab w (ao3 k v.2.1 H ab b) j m hT⟩⟩
  . obtain ⟨_,⟨aj,rfl,O⟩,o⟩:=t ad n ab ab j b;rw [o,O.2 a.an0]
  . obtain ⟨_,⟨E,ak,rfl,U,S,P⟩,o⟩:=u ad n ab ab j b;rcases P with ⟨rfl,-,L⟩|⟨-,R⟩
    . refine ⟨E,⟨U,λai V=>(S ai V).1⟩,o,λF m T=>I ad n ab ab E (ao3 a.anv a.an0.2.1 B ab L) F m T⟩
    . exact absurd ⟨a.an0,N⟩ R
 exact ⟨W,λad n t u w b=>r ad n t u w (M w b) b⟩
theorem aph {rop:Y}:(oN rop).length=(rop.map λr=>(ak7 r).length).sum:=by unfold oN;rw [anF];congr 1;refine vS λr _=> ?_;unfold rj;rw [di,nS];rfl
def aqI {rop:Y} (a:(oN rop).length=0): ∀r∈rop,ak7 r= []:=λr b=>by
 rw [aph] at a;have:=o3 (f:=λr=>(ak7 r).length) b;exact amV.1 ab
def ar9 {p rop:Y} (h: ∀r∈rop,c6 r):(kO p true true rop).length=2*(oN rop).length:=by
 unfold kO oN;rw [anF,anF];have k: ∀r∈rop,(qF p true true r).length=2*(rj r).length:=λr i=>by
  unfold qF rj;rw [anF,di,nS];have e: ∀b,(j4 p true true r b).length=2:=λb=>by obtain ⟨m,o,l,n,q,x,g⟩:=h r i;obtain ⟨c,u,w,v,ac,rfl,-⟩:=g.eq;rfl
  simp only [e];generalize (f (M r 6)).length=t;rw [List.map_const',List.sum_replicate_nat,nS,rK]
 rw [vS k];generalize rop=a
 induction a with
 |nil=>rfl
 | cons c a j=>
   simp only [fS,kE,j];omega
section
variable {d s:List aa} {kN aw rop ao aJ ahJ p aU ahI:Y} (aX:am8 d s kN aw rop ao aJ ahJ p aU ahI)
include aX
theorem aq0 (cw: ∀r∈rop++ao,pA r):dt 5 [.agg d] (λv=>v= .bool true) bQ:=by
 obtain ⟨cS,ax⟩:=U_;obtain ⟨cT,cd⟩:=Vh aX cw;obtain ⟨cU,cf⟩:bo λh e=>fz d s kN aw rop ao aJ ahJ p aU ahI->oA kN aw rop ao aJ ahJ p aU ahI->(∀b,Z b-> ∃v,an9 d kN aw rop ao aJ ahJ p aU ahI v/\ ∀a,az G (X G R h e) 9 [.agg d] b a= .ok v a b)/\
   (alM d kN aw rop ao aJ ahJ p aU ahI/\lD p rop ahI ao->(∀b,Z b-> ∃v,(∃B,v= .av [B,.int .i64 0]/\F B (oN rop))/\ ∀a,az G (X G R h e) 16 [.agg d] b a= .ok v a b)/\ ∀aR,al5 d kN aw rop ao aJ ahJ p aU ahI aR->an8 d rop h e aR):=by
  by_cases u:fz d s kN aw rop ao aJ ahJ p aU ahI/\oA kN aw rop ao aJ ahJ p aU ahI
  rotate_left
  . exact ⟨0,λ_ _ _ _ aT bw=>absurd ⟨aT,bw⟩ u⟩
  obtain ⟨aX,u⟩:=u;have cj:=u.Ii;have bg:=λr cE=>u.cP r (h7 _ cE);obtain ⟨bs,P⟩:=(aox aX u.t al ab bg).val;by_cases E:alM d kN aw rop ao aJ ahJ p aU ahI/\lD p rop ahI ao
  . obtain ⟨cV,cg⟩:=(aqX aX u.t al ab bg E.1 E.2).val;obtain ⟨cW,ch⟩:=aq1 aX u E.1 E.2;exact ⟨bs+cV+cW,λh e aD aE _ _=>⟨P h e ab ab,λ_=>⟨cg h e ab ab,ch h e ab ab⟩⟩⟩
  . exact ⟨bs,λh e aD aE _ _=>⟨P h e aD aE,λcc=>absurd cc E⟩⟩
 have Q:=aX.bT.op;have cy:=aX.eq;have dk:=aX.n1;have dj:=aX.iN;have dv:ahI.length<1048600:=by have:=nV ahI;omega
 obtain ⟨dy,ah,cZ,dr,cX,c4,dF,dH,C,⟨c8,dc,rfl,dJ,du⟩,cL,cO,⟨c7,db,rfl,dI,ds⟩,cN,aH,⟨c9,dd,rfl,dK,dw⟩,⟨da,de,rfl,dL,dx⟩⟩:=cy;obtain ⟨c5,bO,c0,ca,c6,rfl,cQ,cK,q,cM,cR⟩:=aX.bT.eq;simp only [bl,a6] at C;refine aL.run (m:=151) rfl rfl rfl rfl rfl rfl rfl rfl (cS+cT+cU+1048600) λh e aD aE b i=> ?_;obtain ⟨e,rfl⟩: ∃cY,e=cY+2:=⟨e-2,ab⟩;have aj:=λa=>ax h (e+2) ab ab b a i;obtain ⟨af,cx,aq⟩:=cd h (e+2) ab ab b i;have aa:ak (λv=>v= .bool true) bQ b (.ret (.bool true) b):=ak.mk rfl rfl i (U.refl _);rw [C] at aq;have cz:=cf h (e+2) ab ab;rw [C];refine ak.bM (λa c=>b=c/\aM 152 [(1,.W 0 [.str c8 dc,c5,bO,c0,ca,c6,ah,cZ,.str c7 db,cX,c4,.str c9 dd,.str da de])] a) ?_ ?_
 . simp only [go_sem,cQ.J,cK.J,q.J,cM.J,cR.J,cL.J,cO.J,cN.J,aH.J];exact an.mk ⟨rfl,dC⟩
 rintro a _ ⟨rfl,hF⟩
 cases af with
 | false=>
   simp only [go_sem,hF,aq,aj];exact aa
 |true=>
 obtain ⟨bf,bm⟩:=cx rfl;obtain ⟨cr,cF⟩:=cz bf bm;obtain ⟨v,⟨aR,bP,rfl,cI,cB,aB⟩,bb⟩:=cr b i;obtain ⟨bR,bS,bW,aY,bY,bZ,b0,b1,b3,b4,aW,bU,bV,rfl⟩:=anN cI;have ok:=λB cJ=>(cB B cJ).1;rw [C] at bb;refine ak.bF hF (λf a c=>b=c/\f a) ?_ ?_
 . simp only [go_sem,hF,aq];exact an.mk ⟨rfl,ay⟩
 clear hF;rintro a _ ⟨rfl,hF⟩;refine ak.np [1] (λf a c=>b=c/\ ∃bu,M a 3= .W bu [bR,bS,bW,aY,bY,bZ,b0,b1,b3,b4,aW,bU,bV]/\M a 4= .int .i64 bP/\f a) ?_ ?_
 . simp only [go_sem,hF,bb,ok,b2,true_or,or_true];exact an.mk ⟨rfl,_,by simp only [go_sem,hF];trivial⟩
 clear hF;rintro a _ ⟨rfl,bu,hF⟩;rcases aB with ⟨rfl,aA,bc⟩|⟨aB,-⟩
 rotate_left
 . have aj:=λa=>ax h (e+2) ab ab b a i;rcases aB with rfl|rfl|rfl
   all_goals
    have aI:((2:Int) !=0)=true:=rfl;have aK:((2:Int)==2)=true:=rfl;have aN:((3:Int) !=0)=true:=rfl;have aO:((3:Int)==2)=false:=rfl;have aP:((3:Int)==3)=true:=rfl;have aQ:((14:Int) !=0)=true:=rfl;have c1:((14:Int)==2)=false:=rfl;have c2:((14:Int)==3)=false:=rfl;have c3:((14:Int)==14)=true:=rfl;simp only [go_sem,hF,aI,aK,aN,aO,aP,aQ,c1,c2,c3,aj];exact aa
 obtain ⟨cl,ct⟩:=cF aA;obtain ⟨cq,ck,cn⟩:=ct _ bc;obtain ⟨_,⟨cb,rfl,x⟩,ba⟩:=cl b i;obtain ⟨dG,⟨cH,cC⟩,b6,ar⟩:=ck b i;obtain ⟨bx,af,bE,bG,bH,bI,bJ,bK,bL,bN,bz,bB,bC,rfl⟩:=anN cH;have b5:=λa=>cq b a i;have ar:=λa=>ar b a i;rw [C] at ba;refine ak.np [1,3] (λf a c=>b=c/\f a) ?_ ?_
 . simp only [go_sem,hF,bne_self_eq_false];exact an.mk ⟨rfl,ay⟩
 clear hF;rintro a _ ⟨rfl,hF⟩;refine ak.np [1,3] (λf a c=>b=c/\M a 5=cb/\M a 6= .int .i64 0/\f a) ?_ ?_
 . simp only [go_sem,hF,ba,x.O];exact an.mk ⟨rfl,ay⟩
 clear hF;rintro a _ ⟨rfl,hF⟩;have bk:=aA.1.2.1;have bp:=ano Q bk;have df:=HQ bf bp;have cj:=bm.Ii;have dm:=ar9 (p:=p) Q;obtain ⟨T,z,bq,dg⟩:F aY (eZ rop)/\ ∃z,F aW (z++kO p true true rop)/\z.length=ahI.length:=by obtain ⟨_,_,_,_,_,_,_,_,_,_,_,_,z,ah,⟨-,-,P,-,-⟩,-,-,-,cp,b7,-⟩:=bc;cases ah;exact ⟨P,z,cp,alr b7⟩
 have dh:(eZ rop).length=rop.length+(oN rop).length:=by unfold eZ;rw [bD,di]
 have cA:=aph (rop:=rop);obtain ⟨g,bj⟩: ∃g,g=(oN rop).length:=⟨_,rfl⟩;refine ak.np [1,3,5,6] (λf a c=>b=c/\M a 7= .int .i64 ((0:Nat):Int)/\f a) ?_ ?_
 . simp only [go_sem];exact an.mk ⟨rfl,by simp only [go_sem,hF];trivial⟩
 clear hF;rintro a _ ⟨rfl,hF⟩;refine ak.np [1,3,5,6] (λf a c=>b=c/\M a 7= .int .i64 (g:Nat)/\f a) ?_ ?_
 . simp only [go_sem,hF,q.O,q.len];generalize cm:a1 _ _ _ _ _ _ _ _ _ _=ae;revert ae;refine cv (σ:=Nat) [1,3,5,6,45] (λs=> [(7,.int .i64 (s:Nat))]) (λ_=>b) (λy s=>s=((rop.take y).map λr=>(ak7 r).length).sum/\s<=8*y) rop.length 0 ⟨ai,ab⟩ ?_ ?_
   . clear hF;rintro y s a aC ⟨S,cG⟩ hF;obtain ⟨B,w⟩:=bA aC;have bh:=aV w;have bn:=uu (λr=>(ak7 r).length) w;obtain ⟨D,K,N,I,L,Y,aF⟩:=Q B bh;have dn:=(bp.st bh aF).2.2;have b8:=aF.nm.2.2.2.2.1;obtain ⟨aT,dz,dE,dB,ac,rfl,cu,aG,dD,cD,-⟩:=aF.eq;rw [b8] at bn;have aS:IntKind.i64.wrap ((s:Int)+(Y.length:Int))=((s+Y.length:Nat):Int):=by rw [wrap64 _ ab ab];omega
     simp only [go_sem,hF,q.O,q.a_ (k:=7) w rfl,cu.J,aG.J,cD.J,aG.O,aG.len,aS];exact au.next (s+Y.length) rfl ⟨by rw [bn,S],ab⟩ ay
   . clear hF;rintro s a ⟨S,cG⟩ hF;rw [bX,<-cA,<-bj] at S;subst S;simp only [go_sem];exact an.mk ⟨rfl,ay⟩
 clear hF;rintro a _ ⟨rfl,hF⟩;refine ak.np [1,3,5,6,7] (λf a c=>b=c/\ ∃bt,M a 10= .W bt [bx,af,bE,bG,bH,bI,bJ,bK,bL,bN,bz,bB,bC]/\M a 11= .int .i64 0/\f a) ?_ ?_
 . simp only [go_sem,hF,cC,b2,true_or,or_true,b6];exact an.mk ⟨rfl,_,by simp only [go_sem,hF];trivial⟩
 clear hF;rintro a _ ⟨rfl,bt,hF⟩;refine ak.np [1,3,5,7] (λf a c=>b=c/\f a) ?_ ?_
 . have aI:IntKind.i64.wrap (2*(g:Int))=2*(g:Int):=wrap64 _ ab ab;have aK:IntKind.i64.wrap ((ahI.length:Int)+2*(g:Int))=(ahI.length:Int)+2*(g:Int):=wrap64 _ ab ab;have aN:IntKind.i64.wrap ((rop.length:Int)+(g:Int))=(rop.length:Int)+(g:Int):=wrap64 _ ab ab;have aO:((((z++kO p true true rop).length:Nat):Int) !=(ahI.length:Int)+2*(g:Int))=false:=by have:(((z++kO p true true rop).length:Nat):Int)=(ahI.length:Int)+2*(g:Int):=uF;rw [this];simp
   have aP:((((eZ rop).length:Nat):Int) !=(rop.length:Int)+(g:Int))=false:=by have:(((eZ rop).length:Nat):Int)=(rop.length:Int)+(g:Int):=ab;rw [this];simp
   have aQ:((((oN rop).length:Nat):Int) !=(g:Int))=false:=by rw [bj];simp
   simp only [go_sem,hF,b5,ar,bne_self_eq_false,x.O,x.len,T.O,T.len,bq.O,bq.len,aH.O,aH.len,q.O,q.len,aI,aK,aN,aO,aP,aQ,alI];exact an.mk ⟨rfl,ay⟩
 clear hF;rintro a _ ⟨rfl,hF⟩;refine ak.np [1,3,7] (λf a c=>b=c/\f a) ?_ ?_
 . simp only [go_sem,hF,x.O,x.len];generalize cm:a1 _ _ _ _ _ _ _ _ _ _=ae;revert ae;refine dA [1,3,7,110] (λ_=>True) (oN rop).length trivial ?_ ?_
   . clear hF;rintro y s a aC-hF;obtain ⟨B,w⟩:=bA aC;obtain ⟨r,D,K,N,I,L,Y,dq,H,bd,rfl⟩:=al8 Q bk aA.2 (aV w);have br:(eZ rop)[rop.length+y]? =some (ko D K N I L H):=by unfold eZ;rw [vP (by rw [di];omega),di,C9];exact w
     have a8:=apq (arW (l:=D) (m:=K) (ls:=I) (ms:=L) (j:=H) bd.o.hS (by have:=bd.FX;omega)) (ad:=h) (n:=e) ab i;have b9:ko D K N I L H= [.str (fe D) (gD D K H),.A (N.eraseIdx H) false,.str I L,.V,.int .i64 0,.int .i64 0,.V]:=rfl;rw [b9] at w br a8;have aS:IntKind.i64.wrap ((rop.length:Int)+(y:Int))=((rop.length+y:Nat):Int):=by rw [wrap64 _ ab ab];omega
     simp only [go_sem,hF,x.O,x.a_ (k:=7) w rfl,T.O,q.O,q.len,aS,T.a_ (k:=7) br rfl,a8,alI];exact au.next () rfl trivial ay
   . clear hF;rintro s a-hF;simp only [go_sem];exact an.mk ⟨rfl,ay⟩
 clear hF;rintro a _ ⟨rfl,hF⟩;have aZ:=λa=>ax h (e+2) ab ab b a i;by_cases dp:g=0
 . have a7:=λa=>cn (aqI ab) b a i;rw [C] at a7;have ag:decide ((g:Int)>0)=false:=decide_eq_false ab;simp only [go_sem,hF,ag,a7,aZ];exact aa
 . have ag:decide ((g:Int)>0)=true:=decide_eq_true ab;simp only [go_sem,hF,ag,aZ];exact aa
end
end Go.aj
namespace Go.Proofs
open Go.Shelf
def Tryz.VY:Go.Shelf.Ren:=⟨λ|190=>194|125=>255|258=>254|128=>323|129=>324|302=>314|303=>315|304=>316|305=>317|306=>318|307=>319|308=>320|309=>321|310=>322|333=>357|329=>358|330=>359|334=>360|335=>361|336=>298|344=>377|n=>n,λ|31=>22|9=>9|3=>3|46=>260|0=>0|51=>295|53=>309|4=>4|183=>321|182=>320|131=>207|5=>5|218=>346|222=>288|228=>365|229=>241|n=>n,λ|n=>n⟩
def Tryz.JR:Go.Proofs.Lays.n190 Tryz.prog Tryz.VY:= {
 mixed:=by kernel_rfl,
 f125:=Tryz.func255.trans (congrArg some (by kernel_rfl)),
 f128:=Tryz.func323.trans (congrArg some (by kernel_rfl)),
 f129:=Tryz.func324.trans (congrArg some (by kernel_rfl)),
 f190:=Tryz.func194.trans (congrArg some (by kernel_rfl)),
 f258:=Tryz.func254.trans (congrArg some (by kernel_rfl)),
 f302:=Tryz.func314.trans (congrArg some (by kernel_rfl)),
 f303:=Tryz.func315.trans (congrArg some (by kernel_rfl)),
 f304:=Tryz.func316.trans (congrArg some (by kernel_rfl)),
 f305:=Tryz.func317.trans (congrArg some (by kernel_rfl)),
 f306:=Tryz.func318.trans (congrArg some (by kernel_rfl)),
 f307:=Tryz.func319.trans (congrArg some (by kernel_rfl)),
 f308:=Tryz.func320.trans (congrArg some (by kernel_rfl)),
 f309:=Tryz.func321.trans (congrArg some (by kernel_rfl)),
 f310:=Tryz.func322.trans (congrArg some (by kernel_rfl)),
 f329:=Tryz.func358.trans (congrArg some (by kernel_rfl)),
 f330:=Tryz.func359.trans (congrArg some (by kernel_rfl)),
 f333:=Tryz.func357.trans (congrArg some (by kernel_rfl)),
 f334:=Tryz.func360.trans (congrArg some (by kernel_rfl)),
 f335:=Tryz.func361.trans (congrArg some (by kernel_rfl)),
 f336:=Tryz.func298.trans (congrArg some (by kernel_rfl)),
 f344:=Tryz.func377.trans (congrArg some (by kernel_rfl)),
 t0:=Tryz.underlying0,
 a0:=Tryz.isAgg0,
 z0:=Tryz.sizeOf0,
 v0:=Tryz.zeroValue0,
 t3:=Tryz.underlying3,
 a3:=Tryz.isAgg3,
 z3:=Tryz.sizeOf3,
 v3:=Tryz.zeroValue3,
 t4:=Tryz.underlying4,
 a4:=Tryz.isAgg4,
 z4:=Tryz.sizeOf4,
 v4:=Tryz.zeroValue4,
 t5:=Tryz.underlying5,
 a5:=Tryz.isAgg5,
 z5:=Tryz.sizeOf5,
 v5:=Tryz.zeroValue5,
 t9:=Tryz.underlying9,
 a9:=Tryz.isAgg9,
 z9:=Tryz.sizeOf9,
 v9:=Tryz.zeroValue9,
 t31:=Tryz.underlying22,
 a31:=Tryz.isAgg22,
 z31:=Tryz.sizeOf22,
 v31:=Tryz.zeroValue22,
 t46:=Tryz.underlying260,
 a46:=Tryz.isAgg260,
 z46:=Tryz.sizeOf260,
 v46:=Tryz.zeroValue260,
 t51:=Tryz.underlying295,
 a51:=Tryz.isAgg295,
 z51:=Tryz.sizeOf295,
 v51:=Tryz.zeroValue295,
 t53:=Tryz.underlying309,
 a53:=Tryz.isAgg309,
 z53:=Tryz.sizeOf309,
 v53:=Tryz.zeroValue309,
 t131:=Tryz.underlying207,
 a131:=Tryz.isAgg207,
 z131:=Tryz.sizeOf207,
 v131:=Tryz.zeroValue207,
 t182:=Tryz.underlying320,
 a182:=Tryz.isAgg320,
 z182:=Tryz.sizeOf320,
 v182:=Tryz.zeroValue320,
 t183:=Tryz.underlying321,
 a183:=Tryz.isAgg321,
 z183:=Tryz.sizeOf321,
 v183:=Tryz.zeroValue321,
 t218:=Tryz.underlying346,
 a218:=Tryz.isAgg346,
 z218:=Tryz.sizeOf346,
 v218:=Tryz.zeroValue346,
 t222:=Tryz.underlying288,
 a222:=Tryz.isAgg288,
 z222:=Tryz.sizeOf288,
 v222:=Tryz.zeroValue288,
 t228:=Tryz.underlying365,
 a228:=Tryz.isAgg365,
 z228:=Tryz.sizeOf365,
 v228:=Tryz.zeroValue365,
 t229:=Tryz.underlying241,
 a229:=Tryz.isAgg241,
 z229:=Tryz.sizeOf241,
 v229:=Tryz.zeroValue241}
end Go.Proofs
namespace Go.aj
open Go.Sort Go.Proofs
set_option maxRecDepth 100000
def Mq {cs a:List aa} {off n:Nat} (b:sub cs off n=some a):a.length=n/\off+n<=cs.length/\ ∀j,j<n->cs[off+j]? =a[j]? :=by
 unfold sub at b;split at b
 . next d=>
   cases b;refine ⟨by rw [h6,oW];omega,d,λj c=> ?_⟩;rw [CX,if_pos c,List.getElem?_drop]
 . cases b
def Zq {ae:aF} {H:af} {w:World} (l:Q ae H w) {id c off d ro b o cap len:Nat} {cs a:List aa} (k:aC ae (.ref id c off 1 len false) (.slice (some ⟨b,o,none⟩) len cap)) (q:H.get id=some (.cells c d ro cs)) (t:d<=c)
    (m:sub cs off len=some a):b<w.heap.size/\ ∀j,j<len-> ∃(v:aa) (x:Value),a[j]? =some v/\w.cell? ⟨b,o+j,none⟩=some x/\aC ae v x/\w.frozen? ⟨b,o+j,none⟩=false:=by
 obtain ⟨D,U,u⟩:=Mq m;unfold aC at k
 cases k with
 | ref _ _ _ _ _ _ E h C I g K L M O P R=>
   obtain ⟨F,B,e⟩:=l.obj _ _ q;have f:=e.at_;rw [g] at f;simp only [N,bz] at f;obtain ⟨rfl,rfl,rfl⟩:=f;refine ⟨l.e3 _ _ _ _ _ g,λj y=> ?_⟩;have r:=(e.cont c b h cs.length t g).2;have i:j<a.length:=ab;obtain ⟨x,z,A⟩:=r (off+j) a[j] ab ab (by rw [u j y,lj i]);refine ⟨a[j],x,lj i,?_,A,?_⟩
   . rw [sP,<-z];congr 1;omega
   . obtain ⟨G,J,W,T,n,S,p⟩:=e.free;have V:=e.room;unfold World.frozen?;simp only [n];have:=p (off-h.s+j) ab;simpa using this
def F9 {ae:aF} {v:aa} {xs:Array Value} (c: [v].length=xs.size) (b: ∀(i:Nat) (a:aa) (x:Value),[v][i]? =some a->xs[i]? =some x->aC ae a x): ∃x,xs= #[x]/\aC ae v x:=by
 obtain ⟨d⟩:=xs
 match d,c with
 | [x],_=>exact ⟨x,rfl,b 0 _ _ rfl rfl⟩
def Hd (args:Array Value) (w:World):(callFunc 194 args).run Tryz.prog w= .ok (.enter 194 args) w:=enters_of Tryz.func194 aq rfl args w
def aan (a off cap:Nat) (b:List (List UInt8)) (w:World) (c:Holds encStr w a off b.toArray) (d:a<w.heap.size) (f:b.length<4611686018427387904):
    Calls Tryz.prog 194 #[.slice (some ⟨a,off,none⟩) b.length cap] w λe w'=>
     e= .returned (.tuple #[])/\ ∃n g,w'=grow (putRow encStr (Sort.ahead w n) a off (b.mergeSort λx y=>decide (x<=y)).toArray) g:=
 Any.slices_Sort_string Tryz.JR a off cap b w c d f
def aao (p:Option Addr) (cap:Nat) (w:World):Calls Tryz.prog 194 #[.slice p 0 cap] w λe w'=>e= .returned (.tuple #[])/\w'=w:=
 Any.slices_Sort_string_none Tryz.JR p cap w
def o8 (b:List UInt8):Nat×Nat:=(b.length,cV b)
def V1 (a b:List UInt8):decide (a<=b)=JT (o8 a) (o8 b):=by
 show _= !js b.length (cV b) a.length (cV a);rw [Gq,bytesLess_eq];by_cases c:b<a
 . have: ¬a<=b:=λd=>d c;simp [c,this]
 . have:a<=b:=c;simp [c,this]
def aak (a:List (List UInt8)):(a.mergeSort λx y=>decide (x<=y)).map o8=eW (a.map o8):=List.map_mergeSort λb _ c _=>V1 b c
def Mp: ∀ {a:List aa} {l:List (Nat×Nat)},sg a=some l->a=l.map λp=>aa.str p.1 p.2
 | [],l,b=>by cases b;rfl
 | d ::a,l,b=>by
   cases d with
   | str f g=>
     simp only [sg] at b
     cases c:sg a with
     |none=>rw [c] at b;cases b
     |some e=>rw [c] at b;cases b;rw [Mp c];rfl
   |_=>cases b
def H8 {P:Nat->List UInt8->Prop}: ∀(l:List (Nat×Nat)) (o:Nat),(∀j p,l[j]? =some p-> ∃b:List UInt8,o8 b=p/\P (o+j) b)-> ∃c:List (List UInt8),c.map o8=l/\ ∀j b,c[j]? =some b->P (o+j) b
 | [],o,_=>⟨[],rfl,λj b a=>by simp at a⟩
 | p ::l,o,a=>by
   obtain ⟨b,h,i⟩:=a 0 p rfl;obtain ⟨c,k,m⟩:=H8 (P:=P) l (o+1) λj q n=>by obtain ⟨b,f,g⟩:=a (j+1) q (by simpa using n);exact ⟨b,f,by rw [show o+1+j=o+(j+1) by omega];exact g⟩
   refine ⟨b::c,by rw [fS,h,k],λj e d=> ?_⟩
   cases j with
   |zero=>simp at d;subst d;exact i
   | succ j=>
     have:=m j e (by simpa using d);rw [show o+(j+1)=o+1+j by omega];exact this
def Yc (E:Env) (args:List aa) (H:af):e9 E Tryz.prog 194 args H (qC args H):=by
 intro a M o aG v aA I C;unfold qC at a|-;split at a
 case h_3=>exact absurd rfl a
 case h_1=>
  obtain ⟨g,rfl,b⟩:=F9 I C;unfold aC at b;cases b;refine .inl ⟨194,_,Hd _ _,(aao none 0 o).mono ?_⟩;rintro t ao ⟨rfl,rfl⟩;exact ⟨_,_,M,rfl,v,Fr.refl λ_ j=>j,.av [] #[] rfl λe z g j=>by cases j⟩
 rename_i id az aE x;obtain ⟨g,rfl,b⟩:=F9 I C;split at a
 case h_2=>exact absurd rfl a
 rename_i ay ax aF aw F;split at a
 case h_2=>exact absurd rfl a
 rename_i Y;obtain ⟨rfl,ag,X,ad⟩:=of_decide_eq_true Y;split at a
 case h_2=>exact absurd rfl a
 rename_i ar K;split at a
 case h_2=>exact absurd rfl a
 rename_i w Z;split at a
 case h_2=>exact absurd rfl a
 rename_i au ak;have D:=Mp Z;obtain ⟨N,aD,-⟩:=Mq K;have L:=b;unfold aC at L;obtain ⟨i,n,s,rfl⟩: ∃i n s,g= .slice (some ⟨i,n,none⟩) x s:=by cases L;exact ⟨_,_,_,rfl⟩
 obtain ⟨W,ah⟩:=Zq v b F X K;have ae:w.length=x:=by rw [<-N,D,di]
 obtain ⟨c,J,T⟩:=H8 (P:=λd f=>o.cell? ⟨i,d,none⟩=some (encStr f)/\o.frozen? ⟨i,d,none⟩=false) w n λd y q=>by
  have aB:=(e6.1 q).1;obtain ⟨z,A,p,u,B,R⟩:=ah d ab;rw [D,hO,q] at p;cases p;unfold aC at B
  cases B with
  | str f _ _ O Q=>
    refine ⟨f.data.toList,?_,?_,R⟩
    . unfold o8;rw [show f.data.toList.length=f.size from vM,O,show cV f.data.toList=et f from rfl,Q]
    . rw [u]
 have aj:c.length=x:=by rw [<-ae,<-J,di]
 have S:Holds encStr o i n c.toArray:=λd q=>by
  have G:d<c.length:=by simpa using q
  have:=T d c[d] (lj G);refine ⟨?_,this.2⟩;rw [this.1];simp [G]
 subst aj;refine .inl ⟨194,_,Hd _ _,(aan i n s c o S W ad).mono ?_⟩;rintro t ao ⟨rfl,al,an,rfl⟩;simp only [bu,c8];have r:=aak c;rw [J] at r;generalize U:(c.mergeSort λg A=>decide (g<=A))=h at r;have V:h.length=c.length:=by rw [<-U];exact List.length_mergeSort c
 obtain ⟨p,u⟩:=aam Tryz.prog v b F ag (vs:=(eW w).map λy=>aa.str y.1 y.2) encStr h.toArray (by simpa using V)
  ⟨by rw [<-r];simp,λe z g k b=>by
   rw [<-r,hO,hO] at k;rw [yF] at b;have t:h.toArray[e]? =h[e]? :=ai;rw [t] at b
   cases m:h[e]? with
   |none=>rw [m] at k;cases k
   |some aq=>rw [m] at k b;cases k;cases b;exact .str _ _ _ (by simp [ByteArray.size,o8]) (by simp [et,o8])⟩
  (λe A l=>by
   rw [yF] at l
   cases m:h.toArray[e]? with
   |none=>rw [m] at l;cases l
   |some aq=>rw [m] at l;cases l;rfl) ak al an
 exact ⟨_,_,M,rfl,p,u,.av [] #[] rfl λe z g j=>by cases j⟩
open Go Go.Proofs.Tryz
noncomputable abbrev FU (f n:Nat) (fn:Func):iW:=y8 l R f 1 n (la 1) (sf 1) fn
abbrev NX (f n:Nat) (fn:Func):Prop:=pU l prog R f (FU f n fn)
def NU {f n:Nat} {fn:Func} (b:l.fns f=some fn) (a:oX l f 1 n (la 1) fn=true):NX f n fn:=Dp l R f 1 n (la 1) (sf 1) (B9 1) (E1 1) fn rfl b a
noncomputable abbrev FV (f n:Nat) (fn:Func):iW:=y8 l R f 2 n (la 2) (sf 2) fn
abbrev NY (f n:Nat) (fn:Func):Prop:=pU l prog R f (FV f n fn)
def NV {f n:Nat} {fn:Func} (b:l.fns f=some fn) (a:oX l f 2 n (la 2) fn=true):NY f n fn:=Dp l R f 2 n (la 2) (sf 2) (B9 2) (E1 2) fn rfl b a
noncomputable abbrev FW (f n:Nat) (fn:Func):iW:=y8 l R f 3 n (la 3) (sf 3) fn
abbrev NZ (f n:Nat) (fn:Func):Prop:=pU l prog R f (FW f n fn)
def NW {f n:Nat} {fn:Func} (b:l.fns f=some fn) (a:oX l f 3 n (la 3) fn=true):NZ f n fn:=Dp l R f 3 n (la 3) (sf 3) (B9 3) (E1 3) fn rfl b a
noncomputable def EC (f:Nat):Option iW:=match l.fns f with
 |none=>none
 | some fn=>some (match Nat.ble fn.ntmps 8 with
   |true=>FU f fn.ntmps fn
   | false=>match Nat.ble fn.ntmps 64 with
     |true=>FV f fn.ntmps fn
     |false=>FW f fn.ntmps fn)
noncomputable def JC (f:Nat):Bool:=match l.fns f with
 |none=>true
 | some fn=>match Nat.ble fn.ntmps 8 with
   |true=>oX l f 1 fn.ntmps (la 1) fn
   | false=>match Nat.ble fn.ntmps 64 with
     |true=>oX l f 2 fn.ntmps (la 2) fn
     |false=>oX l f 3 fn.ntmps (la 3) fn
def T1:(List.range 410).all JC=true:=by decide+kernel
def YU (f:Nat) (x:iW) (a:EC f=some x):pU l prog R f x:=by
 unfold EC at a
 cases c:l.fns f with
 |none=>rw [c] at a;cases a
 | some fn=>
   have b:=ba.1 T1 f (h9.2 (Fh c));unfold JC at b;rw [c] at a b;dsimp only at a b
   cases d:Nat.ble fn.ntmps 8 with
   |true=>rw [d] at a b;cases a;exact NU c b
   | false=>
     rw [d] at a b;dsimp only at a b
     cases e:Nat.ble fn.ntmps 64 with
     |true=>rw [e] at a b;cases a;exact NV c b
     |false=>rw [e] at a b;cases a;exact NW c b
def V7: ∀e b,l.dH e b=true-> ∀a,1<=a->liesAt prog prog.depth e a 0 b 1=true:=λ_ _ c=>by cases c
end Go.aj
