/- A part of the proof. -/
import Derived.KernelRfl
import Derived.Test.YtiodgpibgiodcaaGreatDoorP00
import Derived.Test.YtiodgpibgiodcaaGreatDoorP01
import Derived.Test.YtiodgpibgiodcaaGreatDoorP07
import Derived.Test.YtiodgpibgiodcaaGreatDoorP10
import Derived.Test.YtiodgpibgiodcaaGreatDoorP11
set_option linter.all false
set_option maxHeartbeats 4000000
namespace Go.aj
open Go Go.Proofs.Tryz
set_option maxRecDepth 100000
def aN.same {r} (a:aN r):eu r r=true:=by
 induction a with
 | mk a _ _ f g=>
   obtain ⟨rfl,d,e⟩:=a.c;refine m5 _ λh b=> ?_;simp only [b2,dG,or_false] at b;rcases b with rfl|rfl|rfl|rfl|rfl|rfl
   . exact wJ _ _
   . exact wJ _ _
   . exact r8 _ _
   . exact r8 _ _
   . exact d.same f
   . exact e.same g
def lG.row {r} (e:lG r):r.length=11/\ ∀v∈r,J v=true/\D 20 v=true:=by
 obtain ⟨n,o,g,l,c,d,rfl,⟨h,j,rfl,-⟩,⟨i,k,rfl,-⟩,f,⟨m,b,-⟩,⟨c,rfl⟩,⟨d,rfl⟩⟩:=e;have:=f.row;refine ⟨by simp [this.1],λv a=> ?_⟩;simp only [bl,a6,b2,cr,dG,or_false] at a;rcases a with rfl|rfl|a|rfl|rfl|rfl
 . exact ⟨rfl,rfl⟩
 . exact ⟨rfl,rfl⟩
 . exact this.2 v a
 . exact ⟨b.J,b.aI 19⟩
 . exact ⟨rfl,rfl⟩
 . exact ⟨rfl,rfl⟩
def dd (r:List aa):List aa:=(r.drop 2).take 6
def cu (r:List aa):Y:=f (M r 8)
abbrev Ye (H:af):aa:= .fn (.func 196) [] [.ptr H.n (q 85) 0 11]
def Es (x y:List aa):Bool:=match x,y with
 | .str a e:: .str c d::_,.str b f:: .str Gr Qw::_=>(a==b&&e==f)&&(c==Gr&&d==Qw)
 |_,_=>false
def Yf (x y:List aa) (k:lG x) (l:lG y) (ad n:Nat) (H:af) (j:Tidy H) (a:H.get (H.n-1)=some (.cells (q 85) (q 85) 0 x)) (tm:List aa):
    az G (X G R ad (n+1)) 196 [.agg y,.ptr (H.n-1) (q 85) 0 11] H tm= .ok (.bool (Es y x)) tm H:=by
 obtain ⟨aj,au,r,K,c,d,rfl,⟨u,A,rfl,-⟩,⟨v,B,rfl,-⟩,g,⟨P,E,-⟩,⟨c,rfl⟩,⟨d,rfl⟩⟩:=k;obtain ⟨al,av,s,W,e,f,rfl,⟨w,C,rfl,-⟩,⟨z,D,rfl,-⟩,h,⟨ab,i,-⟩,⟨e,rfl⟩,⟨f,rfl⟩⟩:=l;obtain ⟨ah,an,L,M,N,O,aw,aq,ae,Y,rfl,I,F⟩:=g.t;obtain ⟨ai,ao,Q,S,T,V,ax,ar,ag,Z,rfl,p,o⟩:=h.t;refine fa (aL.at (m:=14) (rs:= [.tmp 3]) rfl rfl rfl rfl rfl rfl rfl rfl ?_) tm;simp only [bl,a6] at a|-;simp only [go_sem,a,p.J,o.J,i.J];refine ak.aE ?_ ?_<;>intro b<;>simp only [go_sem,b,a]
 all_goals exact ak.mk (by simp [Es,b]) rfl j (U.refl _)
def VE {ax:aa} {s:List aa} {kN jv rop j3 bA:Y} (Z:dO ax s kN jv rop j3 bA) {d:List aa} {cJ p cK cL:Y} (cc:fz d s kN jv rop j3 bA cJ p cK cL)
    {x:List aa} (aX:lG x) {N:Nat} (hT:bL (dd x::cu x) N) (hN:N<100000):
    bo λad n=> ∀c V R H,Tidy H->dP H c d ax->F V R->(∀y∈R,lG y)->R.length<ad->R.length<1048560->fK 132 [c,.agg x,V] ad n H:=by
 obtain ⟨c9,dg,w,ag,I,L,rfl,⟨K,P,rfl,-⟩,⟨aC,aF,rfl,-⟩,ae,⟨r,D,bt,-⟩,⟨j,rfl⟩,⟨k,rfl⟩⟩:=id aX;have bJ:dd ([.str K P,.str aC aF]++w++ [ag,.int .i64 j,.int .i64 k])=w:=by unfold dd;rw [fu,qh ai];simp [ae.len]
 have bK:cu ([.str K P,.str aC aF]++w++ [ag,.int .i64 j,.int .i64 k])=r:=by obtain ⟨bg,bj,bb,bc,bd,bf,bn,bk,bz,cE,aw,-,-⟩:=ae.ea;obtain ⟨rfl,-⟩:=aw;exact bm D
 rw [bJ,bK] at hT;have cj:=hT.len;simp only [cl] at cj;obtain ⟨b2,cV⟩:=hT.g_ (dF ..);obtain ⟨cv,bT⟩:=Jl (ax:=ax) cc;obtain ⟨cx,bU⟩:=(Je Z b2 ab).bW;obtain ⟨cy,bV⟩:=wb Z r bt ab;obtain ⟨cz,bX⟩:=dE (l:=w::r) (Q:=λh ad n=> ∀c d (I L:Int) (f g cF cG:Nat) H,Tidy H->dP H c d ax->fK 128 [c,.agg [.int .i64 I,.int .i64 L],.str f g,.agg h,.str cF cG] ad n H) λh aq=>tM Z (hT.wt h aq);obtain ⟨cA,bY⟩:=gu 13 al;obtain ⟨cB,bZ⟩:=gu 15 al;obtain ⟨cC,b0⟩:=gu 14 al;obtain ⟨cD,b1⟩:=gu 16 al;obtain ⟨cN,di,dj,dk,dm,dn⟩:=Z.val;have c4:=Z.same;have b3:=wI (LW ae.same);refine ⟨cv+cx+cy+cz+cA+cB+cC+cD+r.length+5,λad n c2 c3 c V R H E S aP bs b7 cY=> ?_⟩;obtain ⟨n,rfl⟩: ∃cH,n=cH+4:=⟨n-4,ab⟩;have a7:=aX.row;generalize aZ: [.str K P,.str aC aF]++w++ [ag,.int .i64 j,.int .i64 k]=x at*;have o:Tidy (H.push (.cells (q 85) (q 85) 0 x)):=E.push (ba.2 λu T=>fR _ 20 20 u al (a7.2 u T).2);have z:U H (H.push (.cells (q 85) (q 85) 0 x)):=(U.refl H).push _;generalize aJ:H.push (.cells (q 85) (q 85) 0 x)=e at*;have bu:e.n=H.n+1:=by rw [<-aJ];rfl
 have i:e.get H.n=some (.cells (q 85) (q 85) 0 x):=by rw [<-aJ];exact dL _ _
 have aR:=S.up E.1 z;have aG:=λf g=>bT ad (n+3) ab ab c f g e o aR;obtain ⟨cQ,bp⟩:=bU ad (n+3) ab ab e o;have C:=λf g=>bV ad (n+3) ab ab ag c d j k f g e o aR D.cw;have bD:=λf g a=>bY ad (n+3) ab ab f g j k e a o;have bE:=λf g a=>bZ ad (n+3) ab ab f g j k e a o;have bG:=λf g a=>b0 ad (n+3) ab ab f g j k e a o;have bI:=λf g a=>b1 ad (n+3) ab ab f g j k e a o;have cb:=I8 V (Ye H) R (λy=>Es y x) aP (λy a8=>(bs y a8).row.1) ab rfl (λ_=>rfl) ad (n+1) b7 e o (λy a8 a=>by simp only [eg,a6,bl];have:=Yf x y aX (bs y a8) ad n e o (by rw [bu,tD];exact i) a;rw [bu,tD] at this;exact this);have b8:=S;obtain ⟨id,aH,cT,de,rfl,c0,cZ,cd⟩:=S;have b6:=dP.te (ax:=ax) cd;have b9:=aR;obtain ⟨c6,bq,cU,df,bO,cg,cf,-⟩:=b9;cases bO;have br:=jc ae e;obtain ⟨bg,bj,bb,bc,bd,bf,bn,bk,bz,cE,aw,-,-⟩:=ae.ea;have aj:=aw.eq;obtain ⟨-,-,-,-,-,bw,c5,-,-⟩:=aw;have az: ∀(c:Int) (S:c≠0) f g I L ah b,U H b->ak lL fA H (fin G [] (.aK (.iface 78 (.agg [.int .i64 c,.str f g,.int .i64 I,.int .i64 L])) ah b [])):=λc S f g I L ah b aU=>by simp only [go_sem];exact ak.aK (lO c S _ _ _ _) rfl E aU
 have cI: ∀u,fA u-> ∀ah b,U H b->ak lL fA H (fin G [] (.aK u ah b [])):=λu T ah b aU=>by simp only [go_sem];exact ak.aK T (T.aI 17) E aU
 refine o6 (aL.at (m:=92) rfl rfl rfl rfl rfl (by simp only [aO,aP.aD];rfl) rfl rfl ?_);have hF:=trivial;refine ak.kp [0,2,6] (λB a b=>e=b/\M a 4= .ptr H.n (q 85) 0 11/\B a) ?_ ?_
 . have b5:x.all J=true:=ba.2 λu T=>(a7.2 u T).1;have cr:=a7.1;simp only [go_sem,b5,cr,aJ];exact an.mk ⟨rfl,dC⟩
 rintro a _ ⟨rfl,hF⟩;rw [aj] at aZ;simp only [bl,a6] at aZ;rw [<-aZ] at i;rw [aj] at b3 bp br;refine ak.bM (λa b=>e=b/\aM 95 [(0,.ptr id aH 0 14),(4,.ptr H.n (q 85) 0 11),(2,V),(6,.W 0 [.int .i64 j,.int .i64 k])] a) ?_ ?_
 . simp only [go_sem,hF,i];exact an.mk ⟨rfl,ay⟩
 clear hF;rintro a _ ⟨rfl,hF⟩;refine ak.bF hF (λB a b=>e=b/\ ∃aA aB bh ok,aM 95 [(7,.str aA aB),(8,.bool bh),(9,.bool ok)] a/\B a) ?_ ?_
 . obtain ⟨u,⟨I,L,bh,ok,rfl⟩,aG⟩:=aG K P;simp only [go_sem,hF,i,aG];exact an.mk ⟨rfl,_,_,_,_,by simp only [go_sem,hF];trivial⟩
 clear hF;rintro a _ ⟨rfl,aA,aB,bh,ok,hF⟩;refine ak.bM (λa b=>e=b/\aM 95 [(0,.ptr id aH 0 14),(4,.ptr H.n (q 85) 0 11),(6,.W 0 [.int .i64 j,.int .i64 k]),(7,.str aA aB)] a) ?_ ?_
 . simp only [go_sem,hF];refine an.aE ?_ ?_<;>intro bq<;>simp only [go_sem,hF,bq,i,bD]
   all_goals try exact an.stop rfl (az 13 al _ _ _ _ _ _ z)
   refine an.aE ?_ ?_<;>intro bQ<;>simp only [go_sem,hF,bQ,i,bE]
   all_goals try exact an.stop rfl (az 15 al _ _ _ _ _ _ z)
   simp only [go_sem,hF,aP.O,cb];refine an.aE ?_ ?_<;>intro bR<;>simp only [go_sem,hF,bR,i,bG]
   all_goals try exact an.stop rfl (az 14 al _ _ _ _ _ _ z)
   simp only [go_sem,hF,cg,cf,b6,cN,i,bp]
   iterate 3 all_goals try (refine an.aE ?_ ?_<;>intro bS<;>simp only [go_sem,hF,bS,i,D.O,D.len,bI])
   all_goals first
    |exact an.stop rfl (az 16 al _ _ _ _ _ _ z)
    |exact an.mk ⟨rfl,ay⟩
 clear hF;rintro a _ ⟨rfl,hF⟩;refine ak.bF hF (λB a b=>e=b/\B a) ?_ ?_
 . have C:=C K P;simp only [go_sem,hF,i,D.O];rcases C with C|⟨bP,ao,C⟩
   . simp only [go_sem,C];exact an.mk ⟨rfl,ay⟩
   . simp only [go_sem,C];exact an.stop rfl (cI _ ao _ _ z)
 clear hF;rintro a _ ⟨rfl,hF⟩;have av: ∀h∈ [w]++r,aN h:=hT.wt;rw [aj] at av;obtain ⟨cM,b,bN,cp,aS⟩:=pq (n0:=H.n) (c:=1) (H:=e) (rows:= [[.int .i64 bg,.int .i64 bj,.str bb bc,.str bd bf,bn,bk]]) (aQ:=r) (v:= .A [[.int .i64 bg,.int .i64 bj,.str bb bc,.str bd bf,bn,bk]] true) (x:=ag) (.inr (.inl rfl)) o z.n (λh af=>av h (hP _ af)) D.cw bt da ab;have aW:=aS.up H (aT _) z;have ar:=cp.cw (λh af=>(av h af).len);have ca:=b8.up E.1 aW;have ch:=aS.other _ _ i (by simp [cW]);refine ak.bF hF (λB a bB=>b=bB/\aM 95 [(81,cM),(82,.int .i64 ((r.length+1:Nat):Int)),(83,.int .i64 0)] a/\B a) ?_ ?_
 . simp only [go_sem,hF,i,br,bH,D.O,bN,ar.O,ar.len];exact an.mk ⟨rfl,ay⟩
 clear hF;rintro a _ ⟨rfl,hF⟩;simp only [go_sem];generalize cX:a1 _ _ _ _ _ _ _ _ _ _=bC;revert bC;refine dA [0,4,6,7,81] (λ_=>True) (r.length+1) trivial ?_ ?_
 . intro bx s a c1 b4 hF;obtain ⟨x,aY⟩: ∃h,([w]++r)[bx]? =some h:=⟨([w]++r)[bx]'da,ai⟩;have aq:=aV aY;have X:=bX ad (n+3) ab ab x aq (.ptr id aH 0 14) d j k K P aA aB b aS.tidy ca;have cq:=hT.wt x aq;rw [aj] at aY;obtain ⟨dc,ck,cm,cn,-⟩:=ar.at (λh af=>(av h af).len) aY;obtain ⟨c8,db,cO,cR,cP,cS,dh,dp,bz,c7,rfl,bw,ct⟩:=cq.t;simp only [go_sem,hF,ar.O,ck,cm,cn,bw.J,ct.J,ch];rcases X with X|⟨bP,ao,X⟩
   . simp only [go_sem,X];exact au.next () rfl trivial ay
   . simp only [go_sem,X];exact au.stop rfl (by simp only [go_sem];exact ak.aK ao (ao.aI 17) E aW)
 . intro s a b4 hF;simp only [go_sem];exact ak.un E aW
def KL (l m:Nat) (y:List aa):Bool:=match y with
 |_:: .str a b::_=>a==l&&b==m
 |_=>false
def Wr (y:List aa) (g:lG y) (l m ad n:Nat) (H:af) (f:Tidy H) (id:Nat) (d:H.get id=some (.cells (q 9) (q 9) 0 [.str l m])) (tm:List aa):
    az G (X G R ad (n+1)) 198 [.agg y,.ptr id (q 9) 0 1] H tm= .ok (.bool (KL l m y)) tm H:=by
 obtain ⟨D,I,j,x,a,b,rfl,⟨k,p,rfl,-⟩,⟨o,r,rfl,-⟩,c,⟨A,e,-⟩,⟨a,rfl⟩,⟨b,rfl⟩⟩:=g;obtain ⟨C,E,s,u,v,w,K,F,B,z,rfl,i,h⟩:=c.t;refine fa (aL.at (m:=6) (rs:= [.tmp 3]) rfl rfl rfl rfl rfl rfl rfl rfl ?_) tm;simp only [bl,a6];simp only [go_sem,d,i.J,h.J,e.J];exact ak.mk rfl rfl f (U.refl _)
def cC (r:List aa):Y:=f (M r 0)
def VC {ax:aa} {s:List aa} {kN jv rop j3 br:Y} (aJ:dO ax s kN jv rop j3 br) {d:List aa} {ck p ag cm:Y} (aQ:fz d s kN jv rop j3 br ck p ag cm)
    {r:List aa} (w:lI r):bo λad n=> ∀c (E F:Int) H,Tidy H->dP H c d ax->fK 135 [c,.agg [.int .i64 E,.int .i64 F],.agg r] ad n H:=by
 obtain ⟨c4,bp,b0,cp,bt,L,M,rfl,⟨aD,aF,rfl,-⟩,⟨cj,aU,bc,cF⟩,⟨cN,bP,-,-⟩,⟨D,C,aY,cI⟩,⟨aG,x,aw,cy⟩,⟨b8,rfl⟩,⟨ca,rfl⟩⟩:=w;have cD:=aQ.n1;have bf: ∀b∈(D.map cC).flatten,aN b:=λb y=>by obtain ⟨g,bR,y⟩:=kD.1 y;obtain ⟨r,w,rfl⟩:=cd.1 bR;obtain ⟨c,rfl,⟨cl,aO,aP,-⟩⟩:=aY r w;rw [show cC [c]=cl from bm aO] at y;exact aP b y
 obtain ⟨b1,aO⟩:=dE (l:=(D.map cC).flatten) (Q:=λb ad n=> ∀u c d (L M:Int) (g o:Nat) H,Tidy H->dP H c d ax->cG H 6 u [b]->fK 123 [c,.agg [.int .i64 L,.int .i64 M],.str g o,u] ad n H) λb y=>wb aJ [b] (λu bW=>by rw [bs.1 bW];exact bf b y) ai;obtain ⟨b2,aP⟩:=dE (l:=(D.map cC).flatten) (Q:=λr ad n=> ∀c d (L M:Int) (g o b7 bn:Nat) H,Tidy H->dP H c d ax->fK 128 [c,.agg [.int .i64 L,.int .i64 M],.str g o,.agg r,.str b7 bn] ad n H) λb y=>tM aJ (bf b y);obtain ⟨b3,bD⟩:=gu 15 al;obtain ⟨b4,bE⟩:=gu 13 al;obtain ⟨b5,bG⟩:=gu 14 al;obtain ⟨b6,bI⟩:=oZ 1048560 al;refine ⟨b1+b2+b3+b4+b5+b6+1048570,λad n cA cB c E F H P Z=> ?_⟩;obtain ⟨n,rfl⟩: ∃ch,n=ch+4:=⟨n-4,ab⟩;have a8:=Z;obtain ⟨id,aH,cr,db,rfl,ae,aR,cx⟩:=Z;obtain ⟨dd,cq,c8,cu,dg,rfl,-⟩:=aJ.bT.eq;obtain ⟨c5,ct,c7,cO,cZ,dc,de,dh,bO,-,cz,cE,⟨cP,cQ,rfl,-⟩,az,cH,-,-⟩:=aQ.eq;rw [bO] at ae;simp only [bl,a6] at ae;have aZ: ∀(c:Int) (Z:c≠0) g o L M ah e,U H e->ak lL fA H (fin G [] (.aK (.iface 78 (.agg [.int .i64 c,.str g o,.int .i64 L,.int .i64 M])) ah e [])):=λc Z g o L M ah e aX=>by simp only [go_sem];exact ak.aK (lO c Z _ _ _ _) rfl P aX
 have bq: ∀a7,fA a7-> ∀ah e,U H e->ak lL fA H (fin G [] (.aK a7 ah e [])):=λa7 bj ah e aX=>by simp only [go_sem];exact ak.aK bj (bj.aI 17) P aX
 refine o6 (aL.at (m:=116) rfl rfl rfl rfl rfl rfl rfl rfl ?_);refine ak.bM (λa e=>H=e/\aM 119 [(0,.ptr id aH 0 14),(4,.W 0 [.int .i64 E,.int .i64 F]),(5,.W 0 [.str aD aF,bp,b0,cp,bt,.int .i64 b8,.int .i64 ca])] a) ?_ ?_
 . simp only [go_sem,aU.J,bP.J,C.J,x.J];exact an.mk ⟨rfl,dC⟩
 rintro a _ ⟨rfl,hF⟩;refine ak.bF hF (λV a e=>(H=e/\ ∀r∈D,(cC r).length=ag.length)/\V a) ?_ ?_
 . simp only [go_sem,hF,C.O,C.len];generalize av:a1 _ _ _ _ _ _ _ _ _ _=z;revert z;refine dA [0,4,5,17] (λi=> ∀r∈D.take i,(cC r).length=ag.length) D.length ai ?_ ?_
   . intro i s a N B hF;obtain ⟨u,h⟩:=bA N;have bV:=λr (w:r∈D.take (i+1))=>tT h w;obtain ⟨aj,rfl,⟨R,v,ba,bN⟩⟩:=aY u (aV h);have ar:cC [aj]=R:=bm v;have bu:=λg o a=>bD ad (n+3) ab ab g o E F H a P;simp only [go_sem,hF,C.O,C.a_ (k:=1) h rfl,v.J,ae,aR]
     iterate 3 all_goals try (refine au.aE ?_ ?_<;>intro X<;>simp only [go_sem,hF,X,bu,v.O,v.len,ae,aR,az.O,az.len])
     all_goals first
      |exact au.stop rfl (by simp only [go_sem];exact an.stop rfl (aZ 15 al _ _ _ _ _ _ (U.refl _)))
      |exact au.next () rfl (λr w=>by
       rcases bV r w with w|rfl
       . exact B r w
       . rw [ar];simp at*;omega) ay
   . intro s a B hF;rw [bX] at B;simp only [go_sem];exact an.mk ⟨⟨rfl,B⟩,ay⟩
 clear hF;rintro a _ ⟨⟨rfl,bJ⟩,hF⟩;refine ak.bF hF (λV a e=>H=e/\V a) ?_ ?_
 . simp only [go_sem,hF,C.O,C.len];generalize av:a1 _ _ _ _ _ _ _ _ _ _=z;revert z;refine dA [0,4,5,47] (λi=>True) D.length trivial ?_ ?_
   . intro i s a N B hF;obtain ⟨u,h⟩:=bA N;have af:=aV h;have bS:=bJ u af;obtain ⟨aj,rfl,⟨R,v,ba,bN⟩⟩:=aY u af;have ar:cC [aj]=R:=bm v;rw [ar] at bS;have bb: ∀b∈R,b∈(D.map cC).flatten:=λb y=>kD.2 ⟨R,cd.2 ⟨[aj],af,ar⟩,y⟩;simp only [go_sem,hF,C.O,C.a_ (k:=1) h rfl,v.J,v.O,v.len];generalize av:a1 _ _ _ _ _ _ _ _ _ _=z;revert z;refine dA [0,4,5,47,48,49,54] (λi=>True) R.length trivial ?_ ?_
     . intro bk cn a bQ _ hF;obtain ⟨b,bd⟩:=bA bQ;obtain ⟨cc,aT⟩: ∃r,ag[bk]? =some r:=⟨ag[bk]'ab,ai⟩;have aW:=aV bd;have bg:=ba b aW;have bK:=jc bg H;have ao:=aO ad (n+3) ab ab b (bb b aW) (.A [b] true) (.ptr id aH 0 14) d E F aD aF H P a8 (.inl (.inr ⟨_,rfl⟩));obtain ⟨c0,bn,cU,cf,cg,rfl,⟨cV,cW,rfl,-⟩,⟨b9,cb,rfl,-⟩,bU,⟨cf,rfl⟩,⟨cg,rfl⟩⟩:=aQ.hm cc (aV aT);have aq:=aP ad (n+3) ab ab b (bb b aW) (.ptr id aH 0 14) d E F aD aF b9 cb H P a8;obtain ⟨mk,c1,di,dj,dk,dm,c3,c2,cY,cX,af,-,-⟩:=bU.ea;obtain ⟨rfl,-⟩:=af;simp only [bl,a6] at aT;obtain ⟨cT,c6,cJ,cK,cL,cM,df,c9,cS,cR,rfl,bZ,bY⟩:=bg.t;simp only [go_sem,hF,v.O,v.a_ (k:=6) bd rfl,bZ.J,bY.J,bK,bH];rcases ao with ao|⟨bC,aS,ao⟩<;>simp only [go_sem,hF,ao]
       rotate_left
       . exact au.stop rfl (by simp only [go_sem];exact au.stop rfl (by simp only [go_sem];exact an.stop rfl (bq _ aS _ _ (U.refl _))))
       simp only [go_sem,hF,ae,aR,az.O,az.a_ (k:=10) aT rfl];rcases aq with aq|⟨bC,aS,aq⟩<;>simp only [go_sem,aq]
       rotate_left
       . exact au.stop rfl (by simp only [go_sem];exact au.stop rfl (by simp only [go_sem];exact an.stop rfl (bq _ aS _ _ (U.refl _))))
       exact au.next () rfl trivial ay
     . intro cn a _ hF;simp only [go_sem];exact au.next () rfl trivial ay
   . intro s a B hF;simp only [go_sem];exact an.mk ⟨rfl,ay⟩
 clear hF;rintro a _ ⟨rfl,hF⟩;refine ak.bF hF.2 (λV a e=>(Tidy e/\U H e)/\V a) ?_ ?_
 . simp only [go_sem,hF,x.O,x.len];generalize av:a1 _ _ _ _ _ _ _ _ _ _=z;revert z;refine cv [4,5,86] (λ_=> []) (λf=>f) (λi f=>Tidy f/\U H f) aG.length H ⟨P,U.refl _⟩ ?_ ?_
   . rintro i f a N ⟨aB,aA⟩ hF;obtain ⟨u,h⟩:=bA N;obtain ⟨I,K,rfl,-⟩:=aw u (aV h);have aC:Tidy (f.push (.cells (q 9) (q 9) 0 [.str I K])):=aB.push rfl;have bh:U H (f.push (.cells (q 9) (q 9) 0 [.str I K])):=aA.push _;have bw:=λg o a=>bE ad (n+3) ab ab g o E F (f.push (.cells (q 9) (q 9) 0 [.str I K])) a aC;have bL:=I8 bp (.fn (.func 198) [] [.ptr f.n (q 9) 0 1]) cj (KL I K) aU (λT S=>(bc T S).row.1) ab rfl (λ_=>rfl) ad (n+1) ab (f.push (.cells (q 9) (q 9) 0 [.str I K])) aC (λT S a=>by simp only [eg,a6,bl];exact Wr T (bc T S) I K ad n _ aC f.n (dL _ _) a);simp only [go_sem,hF,x.O,x.a_ (k:=1) h rfl,aU.O,bL];refine au.aE ?_ ?_<;>intro X<;>simp only [go_sem,hF,X,bw]
     all_goals first
      |exact au.stop rfl (by simp only [go_sem];exact an.stop rfl (aZ 13 al _ _ _ _ _ _ bh))
      |exact au.next _ rfl ⟨aC,bh⟩ ay
   . rintro f a B hF;simp only [go_sem];exact an.mk ⟨B,ay⟩
 clear hF;rintro a f ⟨⟨aB,aA⟩,hF⟩;have bx:=λg o a=>bG ad (n+3) ab ab g o E F f a aB;simp only [go_sem,hF,x.O,x.len];generalize av:a1 _ _ _ _ _ _ _ _ _ _=z;revert z;refine dA [4,5,102] (λi=>True) aG.length trivial ?_ ?_
 . rintro i _ a N _ hF;obtain ⟨u,h⟩:=bA N;obtain ⟨I,K,rfl,-⟩:=aw u (aV h);obtain ⟨T,bB,S⟩:=x.fG (k:=1) (qK aw) (j:=i) ab;have bz:=bI ad (n+3) ab ab T (aG.take i) I K f (λr w=>aw r (hQ w)) da aB S.cw;simp only [go_sem,hF,x.O,x.a_ (k:=1) h rfl,bB,S.O,bz];refine au.aE ?_ ?_<;>intro X<;>simp only [go_sem,hF,X,bx]
   all_goals first
    |exact au.stop rfl (by simp only [go_sem];exact aZ 14 al _ _ _ _ _ _ aA)
    |exact au.next () rfl trivial ay
 . intro s a B hF;simp only [go_sem];exact ak.un P aA
@[go_sem] theorem ac0 (H):cT G 33 0 [] H=some (.A [] true,H):=aq
def OS (r rows c):b4 G .eql 33 (.A (r::rows) c) .V=some (.bool false):=aq
def OR (a b c d e f):b4 G .eql 33 (.ref a b c d e f) .V=some (.bool false):=aq
def OQ {H:af} {x:aa} {rows:Y} (b:cG H 6 x rows) (a:rows≠ []):b4 G .eql 33 x .V=some (.bool false):=by
 rcases b with (⟨rfl,rfl⟩|⟨c,rfl⟩)|⟨id,g,f,l,e,j,d,h,rfl,-⟩
 . exact absurd rfl a
 . cases rows with
   |nil=>exact absurd rfl a
   |cons k i=>exact OS _ _ _
 . exact OR _ _ _ _ _ _
def Uj {ad n:Nat} {x:aa} {rows:Y} {H:af} (g:Tidy H) (b:cG H 6 x rows) (a: ∀r∈rows,aN r) (o:rows.length<1048560) (k:rows≠ []):
    ∃v H',(bd H.n 35 6 rows.length H' rows v/\Tidy H'/\U H H')/\ ∀tm,az G (X G R ad (n+1)) 134 [x] H tm= .ok v tm H':=by
 obtain ⟨p,H',h,d,e⟩:=pq (n0:=H.n) (c:=0) (H:=H) (rows:= []) (aQ:=rows) (v:= .A [] true) (x:=x) (.inr (.inl rfl)) g (aT _) (λr a=>by cases a) b a da ab;rw [gH,a6] at d;have l:=e.up H (aT _) (U.refl _);refine bn.at (m:=7) rfl rfl rfl rfl rfl (by simp only [aO,b.aD];rfl) rfl rfl ?_;have i:=OQ b k;have f:=d.cw (λr j=>(a r j).len);simp only [go_sem,b.O,h,i,f.O,f.aD,dX,if_true];exact bn.mk (d.gc g e.tidy l)
def Ly (r:List aa):Y:=(f (M r 1)).map dd
def Lz (r:List aa):Y:=((f (M r 1)).map cu).flatten
def Lx (r:List aa):Y:=((f (M r 3)).map cC).flatten
def pf (r:List aa):Y:=Ly r++(Lz r++f (M r 2)++Lx r)
def bL.flat {ls:List Y} {l:Y} {N:Nat} (a:bL ls.flatten N) (b:l∈ls):bL l N:=by
 obtain ⟨c,d,rfl⟩:=List.append_of_mem b;rw [List.flatten_append,iJ] at a;exact a.right.left
def HH {α β:Type} (f:α->List β) {l:List α} {j:Nat} {x:α} (a:l[j]? =some x):((l.take (j+1)).map f).flatten=((l.take j).map f).flatten++f x:=by rw [fg,a];simp
def Wo {α β:Type} (f:α->β) {l:List α} {j:Nat} {x:α} (a:l[j]? =some x):(l.take (j+1)).map f=(l.take j).map f++ [f x]:=by rw [fg,a];simp
def u5 (rows:Y):List aa:= [.V,.A rows true,.A rows false]
def GB {v:aa} {rows:Y} (b:F v rows):v∈u5 rows:=by
 rcases b with ⟨rfl,-⟩|⟨a,rfl⟩
 . simp [u5]
 . cases a<;>simp [u5]
def Zn {x y z:aa} {b ky i:Y} (c:F x b) (d:F y ky) (e:F z i): ∀(j:Nat) r,([[x],[y],[z]]:Y)[j]? =some r-> ∃v rows,r= [v]/\F v rows/\ [b,ky,i][j]? =some rows
 |0,r,a=>by grind
 |1,r,a=>by grind
 |2,r,a=>by grind
 |j+3,r,a=>by grind
def O_ {n0 p l:Nat} {H:af} {x y z:aa} {h ky i:Y} (L:Tidy H) (d:bd n0 35 6 p H h x) (e:F y ky) (f:bd n0 35 6 l H i z) (C:cc x z) (D:Rows 6 h) (I:Rows 6 i):
    ∃a b H',cT G 235 3 [(0,x),(1,y),(2,z)] H=some (.A [[a],[y],[b]] true,H')/\F a h/\F b i/\Tidy H'/\(∀g,g.n<=n0->U g H->U g H')/\(∀id o,H.get id=some o->cW x≠some id->cW z≠some id->H'.get id=some o):=by
 obtain ⟨a,c,s,N,P,S,B⟩:=d.KX al D L;have M:bd n0 35 6 l c i z:=f.at λid o q w=>B id o w λr=>C id r q;obtain ⟨b,j,v,O,Q,T,R⟩:=M.KX al I P;have u:aZ bR y c=some (y,c):=fi c bR y (fr 20 bR y al (e.aI 19));refine ⟨a,b,j,?_,N,O,Q,ah,ah⟩;have K:cD (aZ bR) ([x,y,z].flatMap aa.cells) H=some ([a,y,b],j):=by
  have: [x,y,z].flatMap aa.cells= [x,y,z]:=by simp [d.cells.1,e.cells,f.cells.1]
  rw [this];exact lk s (lk u (lk v rfl))
 have:=A5 (E:=G) (t:=235) (el:=33) (k:=1) (H:=H) (z:= .V) aq aq aq al rfl [x,y,z] (λW m=>by
  simp only [b2,dG,or_false] at m;rcases m with rfl|rfl|rfl
  . rw [d.cells.1];exact ⟨rfl,by simp [d.cells.2]⟩
  . rw [e.cells];exact ⟨rfl,by simp [e.J]⟩
  . rw [f.cells.1];exact ⟨rfl,by simp [f.cells.2]⟩) ai K
 exact this
def VI {ax:aa} {s:List aa} {kN jv rop j3 c9:Y} (b1:dO ax s kN jv rop j3 c9) {d:List aa} {eA p eB eC:Y} (cP:fz d s kN jv rop j3 c9 eA p eB eC)
    {r:List aa} (C:lI r) {N:Nat} (hT:bL (pf r) N) (hN:N<50000):bo λad n=> ∀c aX T H,Tidy H->dP H c d ax->cG H 1 aX T->b8 T->T.length<=1048560->fK 68 [c,.agg r,aX] ad n H:=by
 obtain ⟨ep,dH⟩:=VC b1 cP C;obtain ⟨ey,ar,aq,aS,bb,aU,aW,rfl,⟨aG,aH,rfl,-⟩,⟨b,ae,ck,eW⟩,⟨I,aA,cS,eT⟩,⟨h,bj,dZ,eZ⟩,⟨eK,dN,eR,eQ⟩,⟨q,rfl⟩,⟨u,rfl⟩⟩:=C;have dm:pf [.str aG aH,ar,aq,aS,bb,.int .i64 q,.int .i64 u]=b.map dd++((b.map cu).flatten++I++(h.map cC).flatten):=by show (f ar).map dd++(((f ar).map cu).flatten++f aq++((f aS).map cC).flatten)=_;rw [bm ae,bm aA,bm bj]
 rw [dm] at hT;have dS:=hT.len;simp only [bD,di] at dS;have b2:=hT.left;have aJ:=hT.right;have cg:=aJ.left.left;have eL:=aJ.left.right;have cL:=aJ.right;have cR: [(b.map cu).flatten,I,(h.map cC).flatten].flatten=(b.map cu).flatten++I++(h.map cC).flatten:=ai;obtain ⟨ee,dw⟩:=dE (l:=b) (Q:=λz ad n=> ∀c aX T H,Tidy H->dP H c d ax->F aX T->(∀cA∈T,lG cA)->T.length<ad->T.length<1048560->fK 132 [c,.agg z,aX] ad n H) λz cp=>VE b1 cP (ck z cp) (N:=N+N) ((b2.one (cd.2 ⟨z,cp,rfl⟩)).app (cg.flat (cd.2 ⟨z,cp,rfl⟩))) ab;obtain ⟨eg,dy⟩:=dE (l:=(u5 (b.map cu).flatten).flatMap λz=>(u5 (h.map cC).flatten).map λeI=>(z,eI)) (Q:=λy ad n=>F y.1 (b.map cu).flatten->F y.2 (h.map cC).flatten-> ∀H,Tidy H->
   ∃bk,F bk ((b.map cu).flatten++I++(h.map cC).flatten)/\ ∀a,az G (X G R ad n) 133 [.A [[y.1],[aq],[y.2]] true] H a= .ok bk a H) λy _=>by
  by_cases cV:F y.1 (b.map cu).flatten/\F y.2 (h.map cC).flatten
  . have cU:=aJ.len;have eM:=(I7 (.A [[y.1],[aq],[y.2]] true) [[y.1],[aq],[y.2]] [(b.map cu).flatten,I,(h.map cC).flatten] (.inr ⟨_,rfl⟩) (Zn cV.1 aA cV.2) rfl ai (by rw [cR];exact aN.rows aJ.wt) (by rw [cR];unfold b7;omega) ah).val
    simp_all
  exact ⟨0,λ_ _ _ _ a b=>absurd ⟨a,b⟩ cV⟩
 obtain ⟨eh,dz⟩:=Jv (b.map dd++((b.map cu).flatten++I++(h.map cC).flatten)) N ab hT;obtain ⟨ei,dA⟩:=Jk (b.map dd) ((b.map cu).flatten++I++(h.map cC).flatten) N N ab ab b2 aJ;obtain ⟨ej,dB⟩:=dE (l:=I) (Q:=λav ad n=> ∀z c d (aU aW:Int) (K L:Nat) H,Tidy H->dP H c d ax->cG H 6 z [av]->fK 123 [c,.agg [.int .i64 aU,.int .i64 aW],.str K L,z] ad n H) λav cW=>wb b1 [av] ah ai;obtain ⟨ek,dD⟩:=dE (l:=I) (Q:=λr ad n=> ∀c d (aU aW:Int) (K L eu ev:Nat) H,Tidy H->dP H c d ax->fK 128 [c,.agg [.int .i64 aU,.int .i64 aW],.str K L,.agg r,.str eu ev] ad n H) λav cW=>tM b1 (cS av cW);obtain ⟨en,dF⟩:=gu 14 al;obtain ⟨eo,dG⟩:=gu 15 al;obtain ⟨ef,dx⟩:=oZ 1048560 al;refine ⟨ee+eg+eh+ei+ej+ek+en+eo+ep+ef+1048570,λad n eU eV c aX T H aj bz ch dK dJ=> ?_⟩;obtain ⟨n,rfl⟩: ∃ew,n=ew+4:=⟨n-4,ab⟩;have cN:=bz;obtain ⟨id,Z,eJ,e0,rfl,eS,eP,eO⟩:=bz;have c8: ∀(c:Int) (bz:c≠0) K L aU aW bV e,U H e->ak lL fA H (fin G [] (.aK (.iface 78 (.agg [.int .i64 c,.str K L,.int .i64 aU,.int .i64 aW])) bV e [])):=λc bz K L aU aW bV e cm=>by simp only [go_sem];exact ak.aK (lO c bz _ _ _ _) rfl aj cm
 have bU: ∀bk,fA bk-> ∀bV e,U H e->ak lL fA H (fin G [] (.aK bk bV e [])):=λbk c0 bV e cm=>by simp only [go_sem];exact ak.aK c0 (c0.aI 17) aj cm
 have dh:=λK L a=>dF ad (n+3) ab ab K L q u H a aj;have dj:=λK L a=>dG ad (n+3) ab ab K L q u H a aj;have dg:=λK L=>dx ad (n+3) ab ab aX T K L H dK dJ aj ch;refine o6 (aL.at (m:=114) rfl rfl rfl rfl rfl (by simp only [aO,ch.aD];rfl) rfl rfl ?_);have hF:=trivial;refine ak.kp [0,2,6] (λo a e=>H=e/\M a 4= .W 0 [.str aG aH,ar,aq,aS,bb,.int .i64 q,.int .i64 u]/\o a) ?_ ?_
 . simp only [go_sem,ae.J,aA.J,bj.J,dN.J];exact an.mk ⟨rfl,dC⟩
 rintro a _ ⟨rfl,hF⟩;refine ak.kp [0,4,2] (λo a e=>H=e/\M a 6= .W 0 [.int .i64 q,.int .i64 u]/\o a) ?_ ?_
 . simp only [go_sem,hF];exact an.mk ⟨rfl,ay⟩
 clear hF;rintro a _ ⟨rfl,hF⟩;refine ak.kp [0,4,6] (λo a e=>(H=e/\b≠ [])/\o a) ?_ ?_
 . simp only [go_sem,hF,ch.O,dg];refine an.aE ?_ ?_<;>intro du<;>simp only [go_sem,hF,du,dh]
   all_goals try exact an.stop rfl (c8 14 al _ _ _ _ _ _ (U.refl _))
   simp only [go_sem,hF,ae.O,ae.len];refine an.aE ?_ ?_<;>intro dv<;>simp only [go_sem,hF,dv,dj]
   all_goals first
    |exact an.stop rfl (c8 15 al _ _ _ _ _ _ (U.refl _))
    |exact an.mk ⟨ah,ay⟩
 clear hF;rintro a _ ⟨⟨rfl,eX⟩,hF⟩;refine ak.bF hF (λo a e=>H=e/\aM 117 [(7,.V),(8,.V),(9,.V)] a/\o a) ?_ ?_
 . simp only [go_sem];exact an.mk ⟨rfl,ay⟩
 clear hF;rintro a _ ⟨rfl,hF⟩;refine ak.kp [0,4,6] (λo a e=> ∃w D,(bd H.n 35 6 b.length e (b.map dd) w/\bd H.n 35 6 (b.map cu).flatten.length e (b.map cu).flatten D/\cc w D/\Tidy e/\U H e)/\M a 7=w/\M a 8=D/\M a 9= .V/\o a) ?_ ?_
 . simp only [go_sem,hF,ae.O,ae.len];generalize cK:a1 _ _ _ _ _ _ _ _ _ _=bp;revert bp;refine hz _ _ _ _ (σ:=aa×aa×af) (λs=> [(0,.ptr id Z 0 14),(4,.W 0 [.str aG aH,ar,aq,aS,bb,.int .i64 q,.int .i64 u]),(6,.W 0 [.int .i64 q,.int .i64 u]),(7,s.1),(8,s.2.1),(9,.V),(40,ar)]) (λs=>s.2.2) (λg s=>bd H.n 35 6 g s.2.2 ((b.take g).map dd) s.1/\bd H.n 35 6 ((b.take g).map cu).flatten.length s.2.2 ((b.take g).map cu).flatten s.2.1/\cc s.1 s.2.1/\Tidy s.2.2/\U H s.2.2) 117 b.length (.V,.V,H) rfl rfl (λ_=>rfl) rfl
    ⟨bd.nil,bd.nil,cc.nil,aj,U.refl _⟩ ay ab ab ?_ ?_
   . rintro g ⟨w,D,aF⟩ a bG ⟨i,B,bE,bc,aP⟩ hF;simp only at i B bE bc aP hF|-;obtain ⟨z,ao⟩:=bA bG;have bI:=aV ao;have ec:=ck z bI;have ct:=Wo dd ao;have cx:=HH cu ao;have bh: ∀r∈(b.take g).map dd,aN r:=λr C=>b2.wt r ah;have cn: ∀r∈((b.take g).map cu).flatten,aN r:=λr C=>cg.wt r (by grind);have cT:((b.take g).map cu).flatten.length+(cu z).length<=(b.map cu).flatten.length:=by rw [<-bD,<-cx];simp only [List.length_flatten,tB];exact si _ _ _
     obtain ⟨eH,dt,c3⟩:=ae.fG (k:=11) (λcA ed=>(ck cA ed).row.1) (j:=g) ab;have aY:=dw ad (n+3) ab ab z bI (.ptr id Z 0 14) eH (b.take g) aF bc (cN.up aj.1 aP) c3 ah ah ah;obtain ⟨ey,e1,cE,cb,b9,ca,rfl,⟨cy,cB,rfl,-⟩,⟨cz,cD,rfl,-⟩,bx,⟨c6,b6,eb,-⟩,⟨b9,rfl⟩,⟨ca,rfl⟩⟩:=ec;have cI:dd ([.str cy cB,.str cz cD]++cE++ [cb,.int .i64 b9,.int .i64 ca])=cE:=by unfold dd;rw [fu,qh ai];simp [bx.len]
     have cM:=jc bx aF;obtain ⟨bR,bT,bN,bO,bP,bQ,bW,y,et,er,c2,-,-⟩:=bx.ea;have cJ:=c2.eq;obtain ⟨-,-,-,-,-,cr,cq,-,-⟩:=c2;rw [cJ] at ao bI ct cx cT aY cI cM bx;clear cJ;have dk:cu ([.str cy cB,.str cz cD]++ [.int .i64 bR,.int .i64 bT,.str bN bO,.str bP bQ,bW,y]++ [cb,.int .i64 b9,.int .i64 ca])=c6:=bm b6;rw [cI] at ct;rw [dk] at cx cT;simp only [bl,a6] at ao aY;obtain ⟨eE,bn,dn,bJ,b4⟩:=pq (n0:=H.n) (c:=g) (H:=aF) (rows:=(b.take g).map dd) (aQ:= [[.int .i64 bR,.int .i64 bT,.str bN bO,.str bP bQ,bW,y]]) (v:=w) (x:= .A [[.int .i64 bR,.int .i64 bT,.str bN bO,.str bP bQ,bW,y]] true) i bc aP.n bh (.inl (.inr ⟨_,rfl⟩)) (λr C=>by rw [bs.1 C];exact bx) da da;have dV:=B.bS b4 bE;have cQ:=bE.grow B b4;have aB:=b4.up H (aT _) aP;obtain ⟨eF,aw,dp,dW,b5⟩:=pq (n0:=H.n) (c:=((b.take g).map cu).flatten.length) (H:=bn) (rows:=((b.take g).map cu).flatten) (aQ:=c6) (v:=D) (x:=cb) dV b4.tidy aB.n cn b6.cw eb ab ab;have eY:=bJ.bS b5 cQ.symm;have dM:=(cQ.symm.grow bJ b5).symm;have aC:=b5.up H (aT _) aB;refine au.bM (λa e=>aF=e/\ ∃db,aM 117 [(42,.int .i64 (g:Nat)),(41,.int .i64 (b.length:Nat)),(0,.ptr id Z 0 14),(4,.W 0 [.str aG aH,ar,aq,aS,bb,.int .i64 q,.int .i64 u]),(6,.W 0 [.int .i64 q,.int .i64 u]),(7,w),(8,D),(9,.V),(40,ar),(10,.int .i64 (g:Nat)),(11,.W db [.str cy cB,.str cz cD,.int .i64 bR,.int .i64 bT,.str bN bO,.str bP bQ,bW,y,cb,.int .i64 b9,.int .i64 ca])] a) ?_ ?_
     . simp only [go_sem,hF,ae.O,ae.a_ (k:=11) ao rfl,cr.J,cq.J,b6.J];exact an.mk ⟨rfl,_,by simp only [go_sem,hF];trivial⟩
     clear hF;rintro a _ ⟨rfl,db,hF⟩;refine au.bF hF (λo a e=>aF=e/\o a) ?_ ?_
     . simp only [go_sem,hF,ae.O,dt,c3.O];rcases aY with aY|⟨bw,E,aY⟩
       . simp only [go_sem,aY];exact an.mk ⟨rfl,ay⟩
       . simp only [go_sem,aY];exact an.stop rfl (an.stop rfl (bU _ E _ _ aP))
     clear hF;rintro a _ ⟨rfl,hF⟩;simp only [go_sem,hF,i.O,B.O,b6.O,cM,bH,dn,dp,bJ.O,dW.O];refine au.next (eE,eF,aw) rfl ⟨?_,?_,dM,b5.tidy,aC⟩ ay
     . rw [ct];omega
     grind
   . rintro ⟨w,D,aF⟩ a aZ hF;simp only at aZ hF;rw [bX] at aZ;simp only [go_sem];exact an.mk ah
 clear hF;rintro a aF ⟨w,D,⟨i,B,bE,bc,aP⟩,hF⟩;have bh:=b2.wt;have cn:=cg.wt;refine ak.kp [0,4,6,7,8] (λo a e=> ∃aR,(bd H.n 35 6 b.length e (b.map dd) w/\bd H.n 35 6 (b.map cu).flatten.length e (b.map cu).flatten D/\bd H.n 35 6 (h.map cC).flatten.length e (h.map cC).flatten aR/\cc aR w/\cc aR D/\Tidy e/\U H e)/\M a 9=aR/\o a) ?_ ?_
 . simp only [go_sem,hF,bj.O,bj.len];generalize cK:a1 _ _ _ _ _ _ _ _ _ _=bp;revert bp;refine hz _ _ _ _ (σ:=aa×af) (λs=> [(0,.ptr id Z 0 14),(4,.W 0 [.str aG aH,ar,aq,aS,bb,.int .i64 q,.int .i64 u]),(6,.W 0 [.int .i64 q,.int .i64 u]),(7,w),(8,D),(9,s.1),(65,aS)]) (λs=>s.2) (λg s=>bd H.n 35 6 b.length s.2 (b.map dd) w/\bd H.n 35 6 (b.map cu).flatten.length s.2 (b.map cu).flatten D/\bd H.n 35 6 ((h.take g).map cC).flatten.length s.2 ((h.take g).map cC).flatten s.1/\cc s.1 w/\cc s.1 D/\Tidy s.2/\U H s.2) 117 h.length (.V,aF) rfl rfl (λ_=>rfl) rfl
    ⟨i,B,bd.nil,cc.nil.symm,cc.nil.symm,bc,aP⟩ ay ab ab ?_ ?_
   . rintro g ⟨aR,bn⟩ a bG ⟨i,B,a7,bB,bC,bK,aB⟩ hF;simp only at i B a7 bB bC bK aB hF|-;obtain ⟨z,ao⟩:=bA bG;have bI:=aV ao;have c7:=HH cC ao;have dY: ∀r∈((h.take g).map cC).flatten,aN r:=λr C=>cL.wt r (by grind);have dR:((h.take g).map cC).flatten.length+(cC z).length<=(h.map cC).flatten.length:=by rw [<-bD,<-c7];simp only [List.length_flatten,tB];exact si _ _ _
     obtain ⟨bY,rfl,⟨cF,b3,dL,eN⟩⟩:=dZ z bI;have ds:cC [bY]=cF:=bm b3;rw [ds] at c7 dR;obtain ⟨eG,aw,cf,dX,P⟩:=pq (n0:=H.n) (c:=((h.take g).map cC).flatten.length) (H:=bn) (rows:=((h.take g).map cC).flatten) (aQ:=cF) (v:=aR) (x:=bY) a7 bK aB.n dY b3.cw dL ab ab;simp only [go_sem,hF,bj.O,bj.a_ (k:=1) ao rfl,b3.J,b3.O,a7.O,cf,dX.O];exact au.next (eG,aw) rfl ⟨i.bS P bB,B.bS P bC,ah,bB.grow i P,bC.grow B P,P.tidy,P.up H (aT _) aB⟩ ay
   . rintro ⟨aR,bn⟩ a aZ hF;simp only at aZ hF;rw [bX] at aZ;simp only [go_sem];exact an.mk ah
 clear hF i B bc aP;rintro a bn ⟨aR,⟨i,B,a7,bB,bC,bK,aB⟩,hF⟩;have cU:=aJ.len;simp only [bD] at cU;refine ak.bM (λa e=> ∃ba,(F ba ((b.map cu).flatten++I++(h.map cC).flatten)/\bd H.n 35 6 b.length e (b.map dd) w/\Tidy e/\U H e)/\aM 117 [(0,.ptr id Z 0 14),(4,.W 0 [.str aG aH,ar,aq,aS,bb,.int .i64 q,.int .i64 u]),(6,.W 0 [.int .i64 q,.int .i64 u]),(7,w),(8,ba)] a) ?_ ?_
 . obtain ⟨dc,de,aw,dq,c4,c5,bf,aC,dQ⟩:=O_ bK B aA a7 bC.symm (aN.rows cn) (aN.rows cL.wt);have aC:=aC H (aT _) aB;obtain ⟨ba,a8,bq⟩:=dy ad (n+3) ab ab (dc,de) (fC.2 ⟨dc,GB c4,cd.2 ⟨de,GB c5,rfl⟩⟩) c4 c5 aw bf;have bJ:bd H.n 35 6 b.length aw (b.map dd) w:=i.at λid ez cH Z=>dQ id ez Z (λbq=>bE id cH bq) (λbq=>bB id bq cH);simp only [go_sem,hF,B.O,a7.O,aA.O,dq,bH,bq,a8.O];exact an.mk ⟨ba,⟨a8,bJ,bf,aC⟩,ay⟩
 clear hF i B a7 bK aB;rintro a aw ⟨ba,⟨a8,i,bf,aC⟩,hF⟩;refine ak.bF hF (λo a e=>(cG e 6 w (b.map dd)/\Tidy e/\U H e)/\o a) ?_ ?_
 . obtain ⟨bY,S,⟨cO,bg,ag⟩,dr⟩:=Uj (ad:=ad) (n:=n+2) bf (i.cw λr C=>(bh r C).len) bh ah ah;obtain ⟨eD,df,cf,c1,P⟩:=pq (n0:=aw.n) (c:=(b.map dd).length) (H:=S) (rows:=b.map dd) (aQ:=(b.map cu).flatten++I++(h.map cC).flatten) (v:=bY) (x:=ba) cO bg ag.n bh a8.cw aJ.wt ah ah;have dU:=P.up aw (aT _) ag;have cZ:=P.up H aC.n (aC.trans ag);have dT:=(i.cw λr C=>(bh r C).len).up bf.1 dU;have br:=dz ad (n+3) ab ab q u eD df P.tidy (c1.cw λr C=>(hT.wt r C).len);simp only [go_sem,hF,i.O,dr,cO.O,a8.O,cf,c1.O];rcases br with br|⟨bw,E,br⟩
   . simp only [go_sem,br];exact an.mk ⟨⟨dT,P.tidy,cZ⟩,ay⟩
   . simp only [go_sem,br];exact an.stop rfl (bU _ E _ _ cZ)
 clear hF i bf aC;rintro a S ⟨⟨i,bg,ag⟩,hF⟩;have cj:=cN.up aj.1 ag;refine ak.kp [0,4,6] (λo a e=>S=e/\o a) ?_ ?_
 . have bt:=dA ad (n+3) ab ab q u w ba S bg i a8.cw;simp only [go_sem,hF,i.O,a8.O];rcases bt with bt|⟨bw,E,bt⟩
   . simp only [go_sem,bt];exact an.mk ⟨rfl,ay⟩
   . simp only [go_sem,bt];exact an.stop rfl (bU _ E _ _ ag)
 clear hF;rintro a _ ⟨rfl,hF⟩;refine ak.bF hF (λo a e=>S=e/\o a) ?_ ?_
 . simp only [go_sem,hF,aA.O,aA.len];generalize cK:a1 _ _ _ _ _ _ _ _ _ _=bp;revert bp;refine cv [0,4,6,93] (λ_=> []) (λs=>S) (λg s=>True) I.length () trivial ?_ ?_
   . intro g s a bG aZ hF;obtain ⟨av,cX⟩:=bA bG;have cl:=aV cX;have cY:=cS av cl;have dI:=jc cY S;have bZ:=dB ad (n+3) ab ab av cl (.A [av] true) (.ptr id Z 0 14) d q u aG aH S bg cj (.inl (.inr ⟨_,rfl⟩));have b0:=dD ad (n+3) ab ab av cl (.ptr id Z 0 14) d q u aG aH 4 1819242306 S bg cj;obtain ⟨bR,bT,bN,bO,bP,bQ,bW,y,et,er,rfl,cr,cq⟩:=cY.t;simp only [go_sem,hF,aA.O,aA.a_ (k:=6) cX rfl,cr.J,cq.J,dI,bH];rcases bZ with bZ|⟨bw,E,bZ⟩<;>simp only [go_sem,hF,bZ]
     rotate_left
     . exact au.stop rfl (by simp only [go_sem];exact an.stop rfl (bU _ E _ _ ag))
     rcases b0 with b0|⟨bw,E,b0⟩<;>simp only [go_sem,b0]
     rotate_left
     . exact au.stop rfl (by simp only [go_sem];exact an.stop rfl (bU _ E _ _ ag))
     exact au.next () rfl trivial ay
   . intro s a aZ hF;simp only [go_sem];exact an.mk ah
 clear hF;rintro a _ ⟨rfl,hF⟩;have bu:=dH ad (n+3) ab ab (.ptr id Z 0 14) q u S bg cj;simp only [go_sem,hF];rcases bu with bu|⟨bw,E,bu⟩
 . simp only [go_sem,bu];exact ak.un aj ag
 . simp only [go_sem,bu];exact ak.aK E (E.aI 17) aj ag
def eN (A:List aa->Prop) (b H:af) (v:aa) (B:Nat):Prop:= ∃a,bd b.n 35 6 a.length H a v/\(∀c∈a,aN c/\A c)/\a.length<=B/\Tidy H/\U b H
def eN.O {A:List aa->Prop} {b H v B} (a:eN A b H v B) (t):O t v=v:=by obtain ⟨c,a,-⟩:=a;exact a.O t
def eN.app {A:List aa->Prop} {b H v B} (g:eN A b H v B) {x:aa} {aQ:Y} (j:cG H 6 x aQ) (o: ∀r∈aQ,aN r/\A r) (l:B+aQ.length<1048560):
    ∃a H',cI G 33 33 v x H=some (a,H')/\eN A b H' a (B+aQ.length):=by
 obtain ⟨k,i,t,m,h,e⟩:=g;obtain ⟨a,H',f,q,c⟩:=pq i h e.n ah j ah ab ab;exact ⟨a,H',f,k++aQ,ah,ah,ah,c.tidy,c.up b ab e⟩
def eN.mono {A:List aa->Prop} {a H v B C} (b:eN A a H v B) (i:B<=C):eN A a H v C:=by
 obtain ⟨h,f,g,j,c,e⟩:=b;exact ⟨h,f,g,ab,c,e⟩
def gw (b H:af) (v:aa) (B:Nat):Prop:= ∃a,bd b.n 9 1 a.length H a v/\b8 a/\a.length<=B/\Tidy H/\U b H
def gw.O {b H v B} (a:gw b H v B) (t):O t v=v:=by obtain ⟨c,a,-⟩:=a;exact a.O t
def gw.app {c H v B} (e:gw c H v B) {x:aa} {aQ:Y} (q:cG H 1 x aQ) (f:b8 aQ) (t:B+aQ.length<1048560):
    ∃a H',cI G 22 22 v x H=some (a,H')/\gw c H' a (B+aQ.length):=by
 obtain ⟨r,o,i,u,m,h⟩:=e;obtain ⟨a,H',l,w,g⟩:=o.app (x:=x) (b:=16) (k:=1) oe nI rfl rfl al al m h.n i.rows (q.elems (qK f)) f.rows (by unfold b7;omega) ab;exact ⟨a,H',l,r++aQ,ah,λj e=>(cr.1 e).elim (i j) (f j),ah,g.tidy,g.up c ab h⟩
def gw.mono {a H v B C} (b:gw a H v B) (i:B<=C):gw a H v C:=by
 obtain ⟨h,f,g,j,c,e⟩:=b;exact ⟨h,f,g,ab,c,e⟩
def eN.new (A:List aa->Prop) (H:af) (a:Tidy H):eN A H H .V 0:=⟨[],bd.nil,ai,ai,a,U.refl _⟩
def oB (A:List aa->Prop) (v:aa):Prop:= ∃a,F v a/\(∀b∈a,aN b/\A b)/\a.length<1048560
def ak.B_ {A:List aa->Prop} {a H v B} (g:Tidy a) (b:eN A a H v B) (i:B<1048560):ak (oB A) bQ a (.ret v H):=by
 obtain ⟨h,f,c,j,k,e⟩:=b;exact ak.W al g (aN.rows ah) f ab e λl b=>⟨h,b,c,ab⟩
def ak.Sv {a H v B} (g:Tidy a) (b:gw a H v B) (i:B<1048560):ak AO bQ a (.ret v H):=by
 obtain ⟨h,f,c,j,k,e⟩:=b;exact ak.W al g c.rows f ab e λl b=>⟨h,b,c,ab⟩
def eN.nl {A:List aa->Prop} {b H v B} (a:eN A b H v B):aD v=true:=by obtain ⟨c,a,-⟩:=a;exact a.aD
def gw.nl {b H v B} (a:gw b H v B):aD v=true:=by obtain ⟨c,a,-⟩:=a;exact a.aD
def wR {α:Type} (f:α->Nat) (l:List α) (j:Nat):((l.take j).map f).sum<=(l.map f).sum:=si f l j
theorem BF {L R:List aa} {i a b:aa} (k:L.length=6) (l:R.length=6):M (L++R++ [i,a,b]) 12=i:=by
 obtain ⟨c,e,f,g,h,j,rfl⟩: ∃c e f g h j,L= [c,e,f,g,h,j]:=by
  match L,k with
  | [c,e,f,g,h,j],_=>simp
 match R,l with
 | [m,n,o,q,r,t],_=>rfl
def nV (l:Y):l.length<=(l.map ju).sum:=qq λa _=>by unfold ju;omega
def eo (r:List aa):Y:= [r.take 6,(r.drop 6).take 6]++f (M r 12)
def eE (ahJ p aU ahI:Y):Y:=(ahJ.map eo).flatten++(p++aU).map dQ++(ahI.map pf).flatten
def xO {L R:List aa} {i a b:aa} (c:L.length=6) (e:R.length=6):eo (L++R++ [i,a,b])= [L,R]++f i:=by
 unfold eo;rw [BF c e,fu,C7 c,List.drop_left' c,C7 e]
def LA {n p i w h a b:aa} {c e g:Y} (k:F p c) (j:F i e) (l:F w g):pf [n,p,i,w,h,a,b]=c.map dd++((c.map cu).flatten++e++(g.map cC).flatten):=by
 show (f p).map dd++(((f p).map cu).flatten++f i++((f w).map cC).flatten)=_;rw [bm k,bm j,bm l]
def zy {n s i a b:aa} {L:List aa} (c:L.length=6):dd ([n,s]++L++ [i,a,b])=L:=by
 unfold dd
 grind
theorem zz {n s i a b:aa} {L:List aa} (c:L.length=6):cu ([n,s]++L++ [i,a,b])=f i:=by
 match L,c with
 | [e,g,h,j,k,l],_=>rfl
section
variable {d:List aa} {s:List aa} {kN jv rop j3 aJ ahJ p aU ahI:Y} (aX:fz d s kN jv rop j3 aJ ahJ p aU ahI)
include aX
theorem VD:dt 105 [.agg d] AO bQ:=by
 have cB:=aX.n1;have cA:=aX.iN;have aw: ∀h∈p++aU,iz h:=λh g=>(cr.1 g).elim (aX.b9 h) (aX.hm h);obtain ⟨cJ,a8,ad,cH,Z,bY,cL,cM,bo,⟨aG,aH,rfl,aA⟩,bq,K,⟨X,Y,rfl,bz⟩,I,g,⟨aK,aN,rfl,bA⟩,⟨aP,aR,rfl,bB⟩⟩:=aX.eq;obtain ⟨bZ,aY,bV,bd,b1,rfl,b5,b6,ca,cb,cc⟩:=aX.bT.eq;have Q: [p,aU].flatten=p++aU:=ai;obtain ⟨bL,aq⟩:=(Ds (.A [[ad],[Z]] true) [[ad],[Z]] [p,aU] (.inr ⟨_,rfl⟩) (wG K I) rfl ai (by rw [Q];exact λh g=>(aw h g).row) (by rw [Q];unfold b7;grind) ah).val;rw [Q] at aq;refine aL.run (m:=74) rfl rfl rfl rfl rfl rfl rfl rfl (bL+1048570) λbR bS cx cz n az=> ?_;rw [bo];simp only [bl,a6];have L: ∀ {D F},T D F/\D<4611686018427387904->b8 [[.str D F]]:=λbf h g=>by rw [bs.1 g];exact ⟨_,_,rfl,bf⟩
 refine ak.bM (λb i=>n=i/\aM 75 [(1,.W 0 [.str aG aH,bZ,aY,bV,bd,b1,a8,ad,.str X Y,Z,bY,.str aK aN,.str aP aR])] b) ?_ ?_
 . simp only [go_sem,b5.J,b6.J,ca.J,cb.J,cc.J,bq.J,K.J,I.J,g.J];exact an.mk ⟨rfl,dC⟩
 rintro b _ ⟨rfl,hF⟩;refine ak.bF hF (λo b i=> ∃c,gw n i c 3/\aM 75 [(3,c)] b/\o b) ?_ ?_
 . simp only [go_sem,hF];exact an.mk ⟨_,⟨[[.str aG aH],[.str aK aN],[.str aP aR]],.inr (.inl rfl),λh g=>by
    simp only [b2,dG,or_false] at g;rcases g with rfl|rfl|rfl
    . exact ⟨_,_,rfl,aA⟩
    . exact ⟨_,_,rfl,bA⟩
    . exact ⟨_,_,rfl,bB⟩,ai,az,U.refl _⟩,ay⟩
 clear hF;rintro b e ⟨c,a,hF⟩;refine ak.kp [1] (λo b i=> ∃c,gw n i c 4/\M b 3=c/\o b) ?_ ?_
 . obtain ⟨z,B,u,j⟩:=a.app (x:= .A [[.str X Y]] true) (aQ:= [[.str X Y]]) (.inl (.inr ⟨_,rfl⟩)) (L bz) ai;simp only [go_sem,hF];refine an.aE ?_ ?_<;>intro P<;>simp only [go_sem,hF,P,a.O,u,j.O]
   all_goals first
    |exact an.mk ⟨z,j,ay⟩
    |exact an.mk ⟨c,a.mono al,ay⟩
 clear hF a;rintro b e ⟨c,a,hF⟩;refine ak.kp [1] (λo b i=> ∃c,gw n i c (4+(p.length+aU.length))/\M b 3=c/\o b) ?_ ?_
 . have bk:Tidy e/\U n e:=by obtain ⟨cK,-,-,-,D,F⟩:=a;grind
   obtain ⟨aj,w,ba⟩:=aq bR bS ab ab e bk.1;have bn:=A3 K I e;simp only [go_sem,hF,K.O,I.O,bn,bH,ba,w.O,w.len];generalize ar:a1 _ _ _ _ _ _ _ _ _ _=C;revert C;refine cv (σ:=aa×af) [1,30] (λs=> [(3,s.1)]) (λs=>s.2) (λl s=>gw n s.2 s.1 (4+l)) (p++aU).length (c,e) a (hlf:=ah) (hN:=ah) ?_ ?_
   . rintro l ⟨c,e⟩ b ax a hF;simp only at a hF|-;obtain ⟨E,y⟩: ∃h,(p++aU)[l]? =some h:=de;rw [bD] at ax;obtain ⟨cl,cm,cd,aZ,a7,rfl,⟨q,r,rfl,bx⟩,⟨cg,ch,rfl,-⟩,bg,⟨aZ,rfl⟩,⟨a7,rfl⟩⟩:=aw E (aV y);obtain ⟨z,B,u,j⟩:=a.app (x:= .A [[.str q r]] true) (aQ:= [[.str q r]]) (.inl (.inr ⟨_,rfl⟩)) (L bx) ah;obtain ⟨bP,bU,bG,bI,bJ,bK,b0,bW,bO,bN,rfl,V,S⟩:=bg.t;simp only [bl,a6] at y;simp only [go_sem,hF,w.O,w.a_ (k:=10) y rfl,V.J,S.J,a.O,u,j.O];exact au.next (z,B) rfl j ay
   . rintro ⟨c,e⟩ b a hF;simp only at a hF;rw [bD] at a;simp only [go_sem];exact an.mk ah
 clear hF a;rintro b e ⟨c,a,hF⟩;refine ak.bM (λb i=> ∃c,gw n i c (4+(p.length+aU.length)+(ahI.map ju).sum)/\aM 75 [(3,c)] b) ?_ ?_
 . simp only [go_sem,hF,g.O,g.len];generalize ar:a1 _ _ _ _ _ _ _ _ _ _=C;revert C;refine cv (σ:=aa×af) [43] (λs=> [(3,s.1)]) (λs=>s.2) (λl s=>gw n s.2 s.1 (4+(p.length+aU.length)+((ahI.take l).map ju).sum)) ahI.length (c,e) a (hlf:=(by have:=nV ahI;omega)) (hN:=(by have:=nV ahI;omega)) ?_ ?_
   . rintro l ⟨c,e⟩ b ax a hF;simp only at a hF|-;obtain ⟨E,y⟩: ∃h,ahI[l]? =some h:=de;have bu:=uu ju y;have cy:=wR ju ahI (l+1);obtain ⟨cI,ae,aB,aj,G,D,F,rfl,⟨q,r,rfl,bw⟩,⟨ag,v,bt,cC⟩,⟨cG,br,ct,cq⟩,⟨cN,w,cD,aA⟩,⟨N,H,bp,cp⟩,⟨aD,rfl⟩,⟨aF,rfl⟩⟩:=aX.bh E ah;have bb:ju [.str q r,ae,aB,aj,G,.int .i64 aD,.int .i64 aF]=1+N.length+ag.length:=by show 1+(f G).length+(f ae).length=_;rw [bm v,bm H]
     rw [bb] at bu;generalize cn:4+(p.length+aU.length)+((ahI.take l).map ju).sum=aW at*;refine au.kp [45,44,43] (λo b i=>e=i/\ ∃aI,M b 3=c/\M b 7= .W aI [.str q r,ae,aB,aj,G,.int .i64 aD,.int .i64 aF]/\o b) ?_ ?_
     . simp only [go_sem,hF,g.O,g.a_ (k:=7) y rfl,v.J,br.J,w.J,H.J];exact an.mk ⟨rfl,_,by simp only [go_sem,hF];trivial⟩
     clear hF;rintro b _ ⟨rfl,aI,hF⟩;obtain ⟨z,B,u,j⟩:=a.app (x:= .A [[.str q r]] true) (aQ:= [[.str q r]]) (.inl (.inr ⟨_,rfl⟩)) (L bw) ah;obtain ⟨aO,ao,bc,av⟩:=j.app (x:=G) (aQ:=N) H.cw bp ah;refine au.kp [45,44,43,7] (λo b i=>ao=i/\M b 3=aO/\o b) ?_ ?_
     . simp only [go_sem,hF,H.O,a.O,u,j.O,bc,av.O];exact an.mk ⟨rfl,ay⟩
     clear hF;rintro b _ ⟨rfl,hF⟩;simp only [go_sem,hF,v.O,v.len];generalize ar:a1 _ _ _ _ _ _ _ _ _ _=C;revert C;refine cv [45,44,43,58] (λs=> [(3,s.1)]) (λs=>s.2) (λl s=>gw n s.2 s.1 (aW+1+N.length+l)) ag.length (aO,ao) av ?_ ?_
     . rintro aC ⟨c,e⟩ b cu a hF;simp only at a hF|-;obtain ⟨E,R⟩: ∃h,ag[aC]? =some h:=ah;obtain ⟨cj,ck,cf,cP,b3,b4,rfl,⟨cO,cQ,rfl,-⟩,⟨aS,aT,rfl,bC⟩,bj,⟨cF,bE,cE,-⟩,⟨b3,rfl⟩,⟨b4,rfl⟩⟩:=bt E (aV R);obtain ⟨bP,bU,bG,bI,bJ,bK,b0,bW,bO,bN,rfl,V,S⟩:=bj.t;obtain ⟨z,B,u,j⟩:=a.app (x:= .A [[.str aS aT]] true) (aQ:= [[.str aS aT]]) (.inl (.inr ⟨_,rfl⟩)) (L bC) ah;simp only [bl,a6] at R;simp only [go_sem,hF,v.O,v.a_ (k:=11) R rfl,V.J,S.J,bE.J];refine au.aE ?_ ?_<;>intro P<;>simp only [go_sem,hF,P,a.O,u,j.O]
       all_goals first
        |exact au.next (z,B) rfl j ay
        |exact au.next (c,e) rfl (by show gw n e c (_+(aC+1));exact a.mono ab) ay
     . rintro ⟨c,e⟩ b a hF;simp only at a hF;simp only [go_sem];exact au.next (c,e) rfl ah ay
   . rintro ⟨c,e⟩ b a hF;simp only at a hF;rw [bX] at a;simp only [go_sem];exact an.mk ah
 clear hF a;rintro b e ⟨c,a,hF⟩;simp only [go_sem,hF,a.O,a.nl,dX,if_true];exact ak.Sv az a ab
end
abbrev gz (t:TypeId) (vs:List aa):Prop:= ∀a,ew prog a t vs
def lz (P:Program) (t:TypeId):Option (List TypeId):=match P.underlying t with
 |some (.struct a)=>if sk P t then some (a.toList.map (·.type)) else none
 |_=>none
def Lb: ∀(a:List TypeId) (vs:List aa),(∀n,lH prog (ew prog n) a vs)->lH prog gz a vs
 | [],vs,b=>b 0
 | h::a,vs,b=>by
   obtain ⟨d,c,e,g,-,-⟩:=b 0;have o: ∀n,ew prog n h d/\lH prog (ew prog n) a c:=λn=>by
    obtain ⟨i,j,f,m,k,l⟩:=b n;rw [e] at f;obtain ⟨rfl,rfl⟩:=List.append_inj f ab
    grind
   exact ⟨d,c,e,g,ah,Lb a c ah⟩
def mi {t:TypeId} {b vs} (a:lz prog t=some b) (c:gz t vs):lH prog gz b vs:=by
 unfold lz at a;split at a
 . next e g=>
   split at a
   . next f=>
     cases a;refine Lb _ _ λd=> ?_;have:=c (d+1);unfold ew at this
     grind
   grind
 grind
def kZ {t:TypeId} {vs} (c:prog.underlying t=some (.int .i64)) (b:gz t vs): ∃a,vs= [.int .i64 a]:=by
 have:=b 1;unfold ew at this
 grind
def abB:prog.underlying 9=some .string:=ai
def i_ {vs} (a:gz 9 vs): ∃l m,vs= [.str l m]/\T l m/\l<4611686018427387904:=by
 have:=a 1;unfold ew at this;rw [abB] at this;obtain ⟨l,m,rfl,b,c⟩:=this;exact ⟨l,m,rfl,c,by unfold reachBytes at b;omega⟩
def jH {t e:TypeId} {k:Nat} {vs} (i:prog.underlying t=some (.slice e)) (g:prog.cellsOf e=k) (h:0<k) (f:gz t vs): ∃x rows,vs= [x]/\F x rows/\iS x=1+hY rows/\ ∀r∈rows,r.length=k/\gz e r:=by
 have a:=f 1;unfold ew at a;rw [i] at a;obtain ⟨x,rows,rfl,c,-,n⟩:=a (by rw [g];exact h);refine ⟨x,rows,rfl,c,?_,λr o=>⟨ah,λl=> ?_⟩⟩
 . rcases c with ⟨rfl,rfl⟩|⟨m,rfl⟩<;>simp [iS,hY]
 . have b:=f (l+1);unfold ew at b;rw [i] at b;obtain ⟨s,q,d,j,-,p⟩:=b (by rw [g];exact h);simp only [jn,and_true] at d;subst d;obtain rfl:=qe c j
   grind
def qM (c:Nat) (f:List aa->Nat): ∀(rows:Y),(∀r∈rows,c*f r<=E r)->c*(rows.map f).sum<=hY rows
 | [],_=>by simp
 |r::rows,a=>by have b:=a r (dF ..);have d:=qM c f rows ah;simp only [fS,kE,hY,Nat.mul_add];omega
def Mr: ∀(rows:Y),(rows.map λ_=>1).sum=rows.length
 | []=>rfl
 |_::l=>by rw [fS,kE,Mr l,cl];omega
def kP (c:Nat) (rows:Y) (a: ∀r∈rows,c<=E r):c*rows.length<=hY rows:=by
 have:=qM c (λ_=>1) rows ah;rw [Mr] at this;omega
def l5 {r:List aa}: ∀ {rows:Y},r∈rows->E r<=hY rows
 | b::rows,a=>by
   rcases b2.1 a with rfl|a
   . simp only [hY];omega
   . have:=l5 a;simp only [hY];omega
def Fa:prog.underlying 33=some (.slice 35):=ai
def A8:prog.cellsOf 35=6:=aq
def ZL:lz prog 35=some [32,3,9,9,33,33]:=aq
def abf:prog.underlying 32=some (.int .i64):=ai
def na:prog.underlying 3=some (.int .i64):=ai
def nu (t:TypeId) (b:prog.cellsOf t=1) {a:List aa} (c:a.length=prog.cellsOf t): ∃x,a= [x]:=List.length_eq_one_iff.1 (c.trans b)
def oD {r:List aa} (c:gz 35 r): ∃k n l1 m1 a b y z ky i,r= [.int .i64 k,.int .i64 n,.str l1 m1,.str a b,y,z]/\T l1 m1/\T a b/\l1<4611686018427387904/\a<4611686018427387904/\
    F y ky/\F z i/\E r=6+hY ky+hY i/\(∀x∈ky,gz 35 x)/\ ∀x∈i,gz 35 x:=by
 obtain ⟨v,G,rfl,-,d,w,H,rfl,-,e,A,I,rfl,-,f,B,J,rfl,-,g,C,K,rfl,-,h,D,L,rfl,-,j,rfl⟩:=mi ZL c;obtain ⟨k,rfl⟩:=kZ abf d;obtain ⟨n,rfl⟩:=kZ na e;obtain ⟨l1,m1,rfl,q,o⟩:=i_ f;obtain ⟨a,b,rfl,s,p⟩:=i_ g;obtain ⟨y,ky,rfl,l,t,M⟩:=jH Fa A8 al h;obtain ⟨z,i,rfl,m,u,N⟩:=jH Fa A8 al j;refine ⟨k,n,l1,m1,a,b,y,z,ky,i,rfl,q,s,o,p,l,m,?_,ah,ah⟩;simp only [bl,a6,E,t,u,iS];omega
def qS: ∀(N:Nat) (r:List aa),E r<=N->N<4611686018427387904->gz 35 r->aN r
 |0,r,o,_,c=>by obtain ⟨p,v,q,t,s,u,w,x,g,h,rfl,m,n,k,l,e,f,d,i,j⟩:=oD c;omega
 | N+1,r,o,z,c=>by
   obtain ⟨p,v,q,t,s,u,w,x,g,h,rfl,m,n,k,l,e,f,d,i,j⟩:=oD c;have y: ∀a,gz 35 a->1<=E a:=λa b=>by obtain ⟨_,_,_,_,_,_,_,_,_,_,-,-,-,-,-,-,-,d,-⟩:=oD b;omega
   have A:=kP 1 g ah;have B:=kP 1 h ah;exact .mk ⟨rfl,m,n,k,l,e,f,ab,ab⟩ (λa b=>qS N a (by have:=l5 b;omega) ab (i a b)) (λa b=>qS N a (by have:=l5 b;omega) ab (j a b))
def k7 {r:List aa} {k:Nat} (a:r.length=k/\ ∀v∈r,J v=true/\D 20 v=true):D bR (.agg r)=true:=by
 show r.all (D 49)=true;exact ba.2 λv b=>fr 20 49 v al (a.2 v b).2
def cG.bS {H H':af} {k:Nat} {x:aa} {rows:Y} (a:cG H k x rows) (i: ∀id o,H.get id=some o->cW x=some id->H'.get id=some o):cG H' k x rows:=by
 rcases a with a|⟨id,e,d,l,c,j,b,f,rfl,g,h⟩
 . exact .inl a
 . exact .inr ⟨id,e,d,l,c,j,b,f,rfl,i id _ g rfl,h⟩
def kR {α β:Type} (f:α->List β) {l:List α} {j:Nat} {x:α} (a:l[j]? =some x):(l.take (j+1)).flatMap f=(l.take j).flatMap f++f x:=by rw [fg,a];simp
theorem od {α:Type} {l:List α} {j:Nat} {x:α} (a:l[j]? =some x):l.take (j+1)=l.take j++ [x]:=by rw [fg,a];rfl
def D9 (l:Y):l.length<=(l.map ju).sum:=by
 induction l with
 |nil=>simp
 | cons a l b=>
   have:1<=ju a:=by unfold ju;omega
   simp only [fS,kE,cl];omega
def Ah:aW G 33=some (.slice 35):=aq
def hB (r:List aa):Y:=(f (M r 1)).flatMap (λa=>dd a::cu a)++f (M r 2)++(f (M r 3)).flatMap cC
def m1 (ahJ p aU ahI:Y):Y:=ahJ.flatMap eo++(p++aU).map dQ++ahI.flatMap hB
def KT: ∀(l:Y),(l.flatMap λp=>dd p::cu p).Perm (l.map dd++l.flatMap cu)
 | []=> .nil
 |a::l=>by simp only [yL,fS,bl];refine List.Perm.cons _ ?_;refine (List.Perm.append_left (cu a) (KT l)).trans ?_;rw [<-fu,<-fu];exact CO _ List.perm_append_comm
def Yo (r:List aa):(hB r).Perm (pf r):=by
 unfold hB pf Ly Lz Lx;rw [<-vO,<-vO];refine (CO _ (CO _ (KT _))).trans ?_;rw [fu,fu,fu]
def KS {α β:Type} {f g:α->List β} (b: ∀a,(f a).Perm (g a)): ∀(l:List α),(l.flatMap f).Perm (l.flatMap g)
 | []=> .nil
 |a::l=>by simp only [yL];exact (b a).append (KS b l)
def Yn (ahJ p aU ahI:Y):(m1 ahJ p aU ahI).Perm (eE ahJ p aU ahI):=by
 unfold m1 eE;rw [<-vO,<-vO];exact List.Perm.append_left _ (KS Yo ahI)
def bL.perm {a b:Y} {N:Nat} (f:bL a N) (e:a.Perm b):bL b N:=by
 obtain ⟨c,g,h⟩:=f;exact ⟨c,λj i=>g j (e.mem_iff.2 i),by rw [<-(e.map c).sum_nat];exact h⟩
def qL {α β:Type} (f:α->List β) (g:α->Nat) (b: ∀a,(f a).length=g a): ∀(l:List α),(l.flatMap f).length=(l.map g).sum
 | []=>rfl
 |a::l=>by simp only [yL,bD,fS,kE,b,qL f g b l]
def K8 (ahJ p aU ahI:Y):(m1 ahJ p aU ahI).length=(ahJ.map e7).sum+(p.length+aU.length)+(ahI.map kJ).sum:=by
 unfold m1;rw [bD,bD,di,bD,qL eo e7 (λb=>by unfold eo e7;simp;omega),qL hB kJ (λb=>by unfold hB kJ;rw [bD,bD,qL (λa=>dd a::cu a) iO (λa=>by unfold iO cu;simp;omega),qL cC lp (λ_=>rfl)])]
def z_ {α β:Type} (f:α->List β) (l:List α) (j:Nat):((l.take j).flatMap f).length<=(l.flatMap f).length:=by
 have:l.flatMap f=(l.take j).flatMap f++(l.drop j).flatMap f:=by rw [<-List.flatMap_append,yT]
 rw [this,bD];omega
def MW:aW G 28=some (.slice 83):=aq
@[go_sem] theorem acU (H):cT G 28 0 [] H=some (.A [] true,H):=aq
def aks {t el k:Nat} {ti:TypeInfo} (B:aW G t=some (.slice el)) (hT:G.T el=some ti) (u:ti.size=k) (w:0<k) (J:ti.bytes+1<=300) {H:af} (M:Tidy H) {o m:aa} {p aU:Y} (L:F o p) (K:F m aU) (g:Rows k (p++aU)) (N:p.length+aU.length<1048560):
    ∃b e i a,cI G t t (.A [] true) o H=some (b,e)/\(∀t,O t b=b)/\cI G t t b m e=some (i,a)/\bd H.n el k (p.length+aU.length) a (p++aU) i/\Tidy a/\U H a:=by
 have l:Rows k p:=λh f=>g h (hP _ f);have z:Rows k aU:=λh f=>g h (h7 _ f);have y: ∀n,n<=1048560->n*(ti.bytes+1)<=b7:=λn f=>eT (kF f J) (by unfold b7;omega);obtain ⟨b,e,D,j,q⟩:=bd.app (c:=0) (n0:=H.n) (H:=H) (rows:= []) (aQ:=p) (v:= .A [] true) (x:=o) (k:=k) B hT u rfl w ab (.inr (.inl rfl)) M (aT _) (λh g=>by cases g) (dR (H:=H) L l.len) l (y _ (by simp only [h5];omega)) ab;rw [gH,a6] at j;have C:=q.up H (aT _) (U.refl _);obtain ⟨i,a,E,I,r⟩:=bd.app (aQ:=aU) (x:=m) (k:=k) B hT u rfl w ab j q.tidy C.n l (dR (H:=e) K z.len) z (y _ ab) ab;exact ⟨b,e,i,a,D,j.O,E,I,r.tidy,r.up H (aT _) C⟩
inductive ahM:Nat->Type
  |mk {n}:ahM n
def ahM.s {n} (_:ahM n) (k:Nat):Nat:=k+n
@[go_sem] theorem ahM.eq {n} (u:ahM n) (k):u.s k=k+n:=rfl
section
variable {d:List aa} {s:List aa} {kN jv rop j3 aJ ahJ p aU ahI:Y} (aX:fz d s kN jv rop j3 aJ ahJ p aU ahI)
include aX
theorem YT: ∀t∈m1 ahJ p aU ahI,aN t:=by
 intro t a;rcases cr.1 a with a|a
 . rcases cr.1 a with a|a
   . obtain ⟨c,e,a⟩:=fC.1 a;obtain ⟨w,O,m,h,i,rfl,b,r,⟨R,j,k,-⟩,-⟩:=aX.kx c e;rw [xO b.len r.len,bm j] at a;simp only [bl,a6,b2] at a;rcases a with rfl|rfl|a
     . exact b
     . exact r
     . exact k _ a
   . obtain ⟨c,e,rfl⟩:=cd.1 a;obtain ⟨K,s,o,h,i,rfl,-,-,q,-⟩:=(cr.1 e).elim (aX.b9 c) (aX.hm c);have A:dQ ([K,s]++o++ [h,i])=o:=by unfold dQ;rw [fu,qh ai];simp [q.len]
     rw [A];exact q
 . obtain ⟨c,e,a⟩:=fC.1 a;obtain ⟨L,g,m,v,z,h,i,rfl,-,⟨M,D,E,-⟩,⟨J,j,k,-⟩,⟨N,F,G,-⟩,-⟩:=aX.bh c e;have B:hB [L,g,m,v,z,h,i]=M.flatMap (λg=>dd g::cu g)++J++N.flatMap cC:=by show (f g).flatMap _++f m++(f v).flatMap cC=_;rw [bm D,bm j,bm F]
   rw [B] at a;rcases cr.1 a with a|a
   . rcases cr.1 a with a|a
     . obtain ⟨n,l,a⟩:=fC.1 a;obtain ⟨P,Q,w,V,T,U,rfl,-,-,b,⟨S,H,I,-⟩,-⟩:=E n l;rw [zy b.len,zz b.len,bm H] at a;rcases b2.1 a with rfl|a
       . exact b
       . exact I _ a
     . exact k _ a
   . obtain ⟨n,l,a⟩:=fC.1 a;obtain ⟨x,rfl,⟨y,C,u,-⟩⟩:=G n l;have:f x=y:=bm C;rw [<-this] at u;exact u _ a
theorem akv {f z:Nat} (o:ahM z) (c4:f=107/\z=0\/f=34/\z=1):dt f [.agg d] (λv=>F v (m1 ahJ p aU ahI)) bQ:=by
 have eK:=aX.n1;have eN:=K8 ahJ p aU ahI;have cc: ∀L∈p++aU,iz L:=λL u=>(cr.1 u).elim (aX.b9 L) (aX.hm L);obtain ⟨e1,Z,aZ,eS,bV,dH,e2,e4,cX,⟨dy,dz,rfl,-⟩,aR,aB,⟨dg,dh,rfl,-⟩,aA,u,⟨dI,dJ,rfl,-⟩,⟨dS,dT,rfl,-⟩⟩:=aX.eq;obtain ⟨dK,cE,dA,cR,dP,rfl,ed,ee,ef,eg,eh⟩:=aX.bT.eq;have eY:ahJ.length<1048559:=by have:=aX.iN;omega
 have eZ:ahI.length<1048559:=by have aO:=aX.iN;have:=D9 ahI;omega
 have bB: [p,aU].flatten=p++aU:=ai;have bj:Rows 10 (p++aU):=λL u=>(cc L u).row;obtain ⟨dc,aO⟩:=(Ds (.A [[aZ],[bV]] true) [[aZ],[bV]] [p,aU] (.inr ⟨_,rfl⟩) (wG aB aA) rfl ai (by rw [bB];exact bj) (by rw [bB];unfold b7;grind) ah).val;rw [bB] at aO;obtain ⟨ao,b8⟩: ∃ao,ao=p.length+aU.length:=⟨_,rfl⟩;have bx:(p++aU).length=ao:=by rw [b8,bD]
 have cb:((p++aU).map dQ).length=ao:=by rw [di,bx]
 have av: ∀ {a8 h:af} {v w:aa} {a7 I:Y},P 35 6 a8 h v a7->F w I->(∀L∈I,aN L)->a7.length+I.length<1048560-> ∃bZ K,cI G 33 33 v w h=some (bZ,K)/\P 35 6 a8 K bZ (a7++I)/\iX a8.n v bZ h K:=λ{a8 h v w a7 I} bC c6 bu cg=>
  bC.app (k:=6) (E:=G) (t:=33) (b:=96) (i:=t35) Ah aq rfl rfl al al (x:=w) (aQ:=I) (dR c6 λL u=>(bu L u).len) (λL u=>(bu L u).row) cg
 obtain ⟨rfl,rfl⟩|⟨rfl,rfl⟩:=c4
 all_goals
  refine aL.run (m:=o.s 89) rfl rfl rfl rfl rfl rfl rfl rfl (dc+1048570) λdp ds cg eJ C cm=> ?_;rw [cX];simp only [bl,a6];refine ak.bM (λe r=>C=r/\aM (o.s 90) [(1,.W 0 [.str dy dz,dK,cE,dA,cR,dP,Z,aZ,.str dg dh,bV,dH,.str dI dJ,.str dS dT])] e) ?_ ?_
  . simp only [go_sem,ed.J,ee.J,ef.J,eg.J,eh.J,aR.J,aB.J,aA.J,u.J];exact an.mk ⟨rfl,dC⟩
  rintro e _ ⟨rfl,hF⟩;refine ak.kp [1] (λy e r=>C=r/\M e 3= .V/\y e) ?_ ?_
  . simp only [go_sem];exact an.mk ⟨rfl,ay⟩
  clear hF;rintro e _ ⟨rfl,hF⟩;refine ak.kp [1] (λy e r=> ∃v,P 35 6 C r v (ahJ.flatMap eo)/\M e 3=v/\y e) ?_ ?_
  . simp only [go_sem,hF,aR.O,aR.len];generalize bf:a1 _ _ _ _ _ _ _ _ _ _=X;revert X;refine cv [1,15] (λs=> [(3,s.1)]) (λs=>s.2) (λq s=>P 35 6 C s.2 s.1 ((ahJ.take q).flatMap eo)) ahJ.length (.V,C) (P.new _ _ cm) ?_ ?_
    . clear hF;rintro q ⟨v,h⟩ e bn a hF;simp only at a hF|-;obtain ⟨w,Q⟩:=bA bn;have aS:=aV Q;have U:=z_ eo ahJ (q+1);have eO:(ahJ.flatMap eo).length<1048560:=by rw [qL eo e7 (λbb=>by unfold eo e7;simp;omega)];omega
      rw [kR _ Q,bD] at U;have ad:=kR eo Q;obtain ⟨aG,b3,aW,bb,cD,rfl,T,bg,⟨eQ,ag,bE,-⟩,⟨dw,rfl⟩,⟨dx,rfl⟩⟩:=aX.kx w aS;rw [xO T.len bg.len,bm ag] at U ad;have aP:=A4 T bg h;have cS:=k7 T.row;have ey:=k7 bg.row;simp only [bD,cl,h5] at U;obtain ⟨ar,K,ae,N,-⟩:=av a (w:= .A [aG,b3] true) (I:= [aG,b3]) (.inr ⟨_,rfl⟩) (λL u=>by simp only [b2,dG,or_false] at u;rcases u with rfl|rfl<;>assumption) og;obtain ⟨b0,aF,bt,az,-⟩:=av N ag bE (by simp only [bD,cl,h5];omega);rw [fu] at az;obtain ⟨de,du,dm,dq,dn,dr,eb,ei,eU,eW,cT,-,-⟩:=T.ea;obtain ⟨df,dv,dB,dE,dD,dF,ec,ej,eV,eX,cU,-,-⟩:=bg.ea;obtain ⟨rfl,c8,da⟩:=cT.c;obtain ⟨rfl,c9,db⟩:=cU.c;simp only [bl,a6] at Q;refine au.kp [17,16,1,15] (λy e r=>h=r/\ ∃cx,M e 3=v/\M e 5= .W cx [.int .i64 de,.int .i64 du,.str dm dq,.str dn dr,eb,ei,.int .i64 df,.int .i64 dv,.str dB dE,.str dD dF,ec,ej,aW,.int .i64 dw,.int .i64 dx]/\y e) ?_ ?_
      . simp only [go_sem,hF,aR.O,aR.a_ (k:=15) Q rfl,c8.J,da.J,c9.J,db.J,ag.J];exact an.mk ⟨rfl,_,by simp only [go_sem,hF];trivial⟩
      clear hF;rintro e _ ⟨rfl,cx,hF⟩;simp only [go_sem,hF,ag.O,aP,bH,a.O,ae,N.O,bt,az.O];exact au.next (b0,aF) rfl (by show P _ 6 C _ _ ((ahJ.take (q+1)).flatMap eo);rw [ad];exact az) ay
    . rintro ⟨v,h⟩ e a hF;simp only at a hF;rw [bX] at a;simp only [go_sem];exact an.mk ⟨v,a,ay⟩
  clear hF;rintro e h ⟨v,a,hF⟩;have ez:ao<1048559:=by have:=aX.iN;omega
  refine ak.kp [1] (λy e r=> ∃v,P 35 6 C r v (ahJ.flatMap eo++(p++aU).map dQ)/\M e 3=v/\y e) ?_ ?_
  . first
     | have en:ahM 0:=o
       obtain ⟨H,D,cJ⟩:=aO dp ds ab ab h a.tidy;have bJ:iL H=some (.int .i64 ao):=by rw [D.len,bx]
       have ca:=a;have cj:cG h 10 H _:=D.cw;have bo:=D.O;have ck:cW H=none:=by rcases D with ⟨rfl,-⟩|⟨ep,rfl⟩<;>rfl
       have cn: ∀id,cW H=some id->id<h.n:=by simp [ck]
       have cd: ∀id,cW v=some id->cW H≠some id:=by simp [ck]
       simp only [go_sem,hF,aB.O,aA.O,A3 aB aA h,bH,cJ,bo,bJ];obtain ⟨K,rfl⟩: ∃w,w=h:=⟨_,rfl⟩
     | obtain ⟨e3,ek,H,K,cM,cQ,cN,D,dL,dO⟩:=aks (ti:=t83) MW aq rfl al al a.tidy aB aA bj ab
       have bJ:iL H=some (.int .i64 ao):=by rw [D.len,bx]
       have ca:=a.at dL dO;have cj:=D.cw bj.len;have bo:=D.O;have cn: ∀id,cW H=some id->id<K.n:=λ_ Z=>D.lt Z;have cd: ∀id,cW v=some id->cW H≠some id:=λid Z ax=>by have:=a.W.lt Z;have:=D.ge ax;omega
       simp only [go_sem,hF,aB.O,aA.O,cM,cQ,cN,bH,bo,bJ]
    generalize bf:a1 _ _ _ _ _ _ _ _ _ _=X;revert X;refine cv [1,o.s 37] (λs=> [(3,s.1)]) (λs=>s.2) (λq s=>P 35 6 C s.2 s.1 (ahJ.flatMap eo++((p++aU).map dQ).take q)/\cG s.2 10 H (p++aU)/\(∀id,cW s.1=some id->cW H≠some id)/\K.n<=s.2.n) ao (v,K) ⟨by simpa using ca,cj,cd,aT _⟩ ?_ ?_
    . clear hF;rintro q ⟨v,h⟩ e bn ⟨a,bI,bz,cf⟩ hF;simp only at a bI bz cf hF|-;obtain ⟨w,Q⟩:=bA (l:=p++aU) (j:=q) ab;have aS:=aV Q;have R:((p++aU).map dQ)[q]? =some (dQ w):=by rw [hO,Q];rfl
      have U:(ahJ.flatMap eo++((p++aU).map dQ).take (q+1)).length<1048560:=by have aO:(ahJ.flatMap eo).length=(ahJ.map e7).sum:=qL eo e7 (λbb=>by unfold eo e7;simp;omega) ahJ;rw [bD,h6,cb];omega
      have ad:ahJ.flatMap eo++((p++aU).map dQ).take (q+1)=(ahJ.flatMap eo++((p++aU).map dQ).take q)++ [dQ w]:=by rw [od R,fu]
      rw [ad,bD] at U;obtain ⟨eu,ev,ba,bq,br,rfl,⟨aH,aI,rfl,-⟩,⟨b4,b5,rfl,-⟩,bd,⟨bq,rfl⟩,⟨br,rfl⟩⟩:=cc w aS;have cO:dQ ([.str aH aI,.str b4 b5]++ba++ [.int .i64 bq,.int .i64 br])=ba:=by unfold dQ;rw [fu,qh ai];simp [bd.len]
      rw [cO] at ad;have aP:=jc bd h;obtain ⟨ar,aF,ae,N,bw⟩:=av a (w:= .A [ba] true) (I:= [ba]) (.inr ⟨_,rfl⟩) (λL u=>by rw [bs.1 u];exact bd) U;have c3:=bI.bS λid aZ bC Z=>bw.other id aZ bC λax=>bz id ax Z;obtain ⟨g,c0,c1,ch,-⟩:=bI.at bj.len Q;obtain ⟨bU,bW,bN,bO,bP,bR,dN,bY,dk,dj,rfl,bL,bK⟩:=bd.t;simp only [bl,a6] at ch;refine au.kp [o.s 39,o.s 38,1,o.s 37] (λy e r=>h=r/\ ∃cy,M e 3=v/\M e 7= .W cy [.str aH aI,.str b4 b5,.int .i64 bU,.int .i64 bW,.str bN bO,.str bP bR,dN,bY,.int .i64 bq,.int .i64 br]/\y e) ?_ ?_
      . simp only [go_sem,hF,bo,c0,c1,ch,bL.J,bK.J];exact an.mk ⟨rfl,_,by simp only [go_sem,hF];trivial⟩
      clear hF;rintro e _ ⟨rfl,cy,hF⟩;simp only [go_sem,hF,aP,bH,a.O,ae,N.O];exact au.next (ar,aF) rfl ⟨by show P _ 6 C _ _ (_++((p++aU).map dQ).take (q+1));rw [ad];exact N,c3,λid Z ax=>by
       rcases bw.new id Z with bc|bc
       . exact bz id bc ax
       . have:=cn id ax;omega,eT cf bw.n⟩ ay
    . rintro ⟨v,h⟩ e ⟨a,-⟩ hF;simp only at a hF;rw [fT ab] at a;simp only [go_sem];exact an.mk ⟨v,a,ay⟩
  clear hF a;rintro e h ⟨v,a,hF⟩;have eB:(ahJ.flatMap eo++(p++aU).map dQ).length=(ahJ.map e7).sum+(p.length+aU.length):=by rw [bD,cb,b8,qL eo e7 (λbb=>by unfold eo e7;simp;omega)]
  have eM:(ahI.flatMap hB).length=(ahI.map kJ).sum:=by
   have aO:(m1 ahJ p aU ahI).length=(ahJ.flatMap eo++(p++aU).map dQ).length+(ahI.flatMap hB).length:=by unfold m1;rw [bD]
   omega
  have cZ:m1 ahJ p aU ahI=(ahJ.flatMap eo++(p++aU).map dQ)++ahI.flatMap hB:=rfl;rw [cZ];generalize eA:ahJ.flatMap eo++(p++aU).map dQ=aj at*;refine ak.bM (λe r=> ∃v,P 35 6 C r v (aj++ahI.flatMap hB)/\aM (o.s 90) [(3,v)] e) ?_ ?_
  . simp only [go_sem,hF,u.O,u.len];generalize bf:a1 _ _ _ _ _ _ _ _ _ _=X;revert X;refine cv [o.s 50] (λs=> [(3,s.1)]) (λs=>s.2) (λq s=>P 35 6 C s.2 s.1 (aj++(ahI.take q).flatMap hB)) ahI.length (v,h) (by simpa using a) ?_ ?_
    . clear hF;rintro q ⟨v,h⟩ e bn a hF;simp only at a hF|-;obtain ⟨w,Q⟩:=bA bn;have aS:=aV Q;have U:=z_ hB ahI (q+1);rw [kR _ Q,bD] at U;have ad:=kR hB Q;obtain ⟨e0,g,aW,H,b6,bb,cD,rfl,⟨aH,aI,rfl,-⟩,⟨S,aC,c2,eL⟩,⟨aY,ag,bE,eG⟩,⟨aE,D,c5,eP⟩,⟨ew,cY,eF,eE⟩,⟨cp,rfl⟩,⟨cq,rfl⟩⟩:=aX.bh w aS;have cK:hB [.str aH aI,g,aW,H,b6,.int .i64 cp,.int .i64 cq]=S.flatMap (λg=>dd g::cu g)++aY++aE.flatMap cC:=by show (f g).flatMap _++f aW++(f H).flatMap cC=_;rw [bm aC,bm ag,bm D]
      rw [cK] at U ad;simp only [bD] at U;have eC:(aj++(ahI.take q).flatMap hB).length=aj.length+((ahI.take q).flatMap hB).length:=bD;have cL:aj++(ahI.take (q+1)).flatMap hB=(aj++(ahI.take q).flatMap hB)++S.flatMap (λg=>dd g::cu g)++aY++aE.flatMap cC:=by rw [ad];simp only [fu]
      generalize bu:aj++(ahI.take q).flatMap hB=I at*;refine au.kp [o.s 52,o.s 51,o.s 50] (λy e r=>h=r/\ ∃cz,M e 3=v/\M e 9= .W cz [.str aH aI,g,aW,H,b6,.int .i64 cp,.int .i64 cq]/\y e) ?_ ?_
      . simp only [go_sem,hF,u.O,u.a_ (k:=7) Q rfl,aC.J,ag.J,D.J,cY.J];exact an.mk ⟨rfl,_,by simp only [go_sem,hF];trivial⟩
      clear hF;rintro e _ ⟨rfl,cz,hF⟩;refine au.kp [o.s 52,o.s 51,o.s 50,9] (λy e r=> ∃v,P 35 6 C r v (I++S.flatMap λg=>dd g::cu g)/\M e 3=v/\y e) ?_ ?_
      . simp only [go_sem,hF,aC.O,aC.len];generalize bf:a1 _ _ _ _ _ _ _ _ _ _=X;revert X;refine cv [o.s 52,o.s 51,o.s 50,9,o.s 57] (λs=> [(3,s.1)]) (λs=>s.2) (λq s=>P 35 6 C s.2 s.1 (I++(S.take q).flatMap λg=>dd g::cu g)) S.length (v,h) (by simpa using a) ?_ ?_
        . clear hF;rintro aw ⟨v,h⟩ e bF a hF;simp only at a hF|-;obtain ⟨w,R⟩:=bA bF;have bG:=aV R;have aD:=z_ (λg=>dd g::cu g) S (aw+1);rw [kR _ R,bD] at aD;have aK:=kR (λg=>dd g::cu g) R;obtain ⟨er,et,aG,dW,cA,cB,rfl,⟨dU,dY,rfl,-⟩,⟨dV,dZ,rfl,-⟩,T,⟨eR,bp,c7,-⟩,⟨cA,rfl⟩,⟨cB,rfl⟩⟩:=c2 w bG;rw [zy T.len,zz T.len,bm bp] at aD aK;simp only [cl] at aD;have aP:=jc T h;have cS:=k7 T.row;have eH:(I++(S.take aw).flatMap λg=>dd g::cu g).length=I.length+((S.take aw).flatMap λg=>dd g::cu g).length:=bD;obtain ⟨ar,K,ae,N,-⟩:=av a (w:= .A [aG] true) (I:= [aG]) (.inr ⟨_,rfl⟩) (λL u=>by rw [bs.1 u];exact T) og;obtain ⟨b0,aF,bt,az,-⟩:=av N bp c7 (by simp only [bD,cl,h5];omega);obtain ⟨bU,bW,bN,bO,bP,bR,dM,bY,dk,dj,rfl,bL,bK⟩:=T.t;simp only [bl,a6] at R;refine au.kp [o.s 59,o.s 58,o.s 52,o.s 51,o.s 50,9,o.s 57] (λy e r=>h=r/\ ∃ct,M e 3=v/\M e 11= .W ct [.str dU dY,.str dV dZ,.int .i64 bU,.int .i64 bW,.str bN bO,.str bP bR,dM,bY,dW,.int .i64 cA,.int .i64 cB]/\y e) ?_ ?_
          . simp only [go_sem,hF,aC.O,aC.a_ (k:=11) R rfl,bL.J,bK.J,bp.J];exact an.mk ⟨rfl,_,by simp only [go_sem,hF];trivial⟩
          clear hF;rintro e _ ⟨rfl,ct,hF⟩;simp only [go_sem,hF,bp.O,aP,bH,a.O,ae,N.O,bt,az.O];exact au.next (b0,aF) rfl (by show P _ 6 C _ _ (I++(S.take (aw+1)).flatMap _);rw [aK];simpa only [fu,bl,a6] using az) ay
        . rintro ⟨v,h⟩ e a hF;simp only at a hF;rw [bX] at a;simp only [go_sem];exact an.mk ⟨v,a,ay⟩
      clear hF a;rintro e h ⟨v,a,hF⟩;obtain ⟨ar,K,ae,N,-⟩:=av a ag bE uF;refine au.kp [o.s 52,o.s 51,o.s 50,9] (λy e r=>K=r/\M e 3=ar/\y e) ?_ ?_
      . simp only [go_sem,hF,ag.O,a.O,ae,bH,N.O];exact an.mk ⟨rfl,ay⟩
      clear hF a;rintro e _ ⟨rfl,hF⟩;have eI:(I++S.flatMap (λg=>dd g::cu g)++aY).length=I.length+(S.flatMap λg=>dd g::cu g).length+aY.length:=by rw [bD,bD]
      generalize I++S.flatMap (λg=>dd g::cu g)++aY=b1 at*;simp only [go_sem,hF,D.O,D.len];generalize bf:a1 _ _ _ _ _ _ _ _ _ _=X;revert X;refine cv [o.s 52,o.s 51,o.s 50,o.s 77] (λs=> [(3,s.1)]) (λs=>s.2) (λq s=>P 35 6 C s.2 s.1 (b1++(aE.take q).flatMap cC)) aE.length (ar,K) (by simpa using N) ?_ ?_
      . clear hF;rintro aw ⟨v,h⟩ e bF a hF;simp only at a hF|-;obtain ⟨w,R⟩:=bA bF;have bG:=aV R;have aD:=z_ cC aE (aw+1);rw [kR _ R,bD] at aD;have aK:=kR cC R;obtain ⟨cH,rfl,⟨cF,bk,cV,eD⟩⟩:=c5 w bG;have cP:cC [cH]=cF:=bm bk;rw [cP] at aD aK;obtain ⟨ar,K,ae,N,-⟩:=av a bk cV uF;simp only [go_sem,hF,D.O,D.a_ (k:=1) R rfl,bk.J,bk.O,a.O,ae,bH,N.O];exact au.next (ar,K) rfl (by show P _ 6 C _ _ (b1++(aE.take (aw+1)).flatMap cC);rw [aK,<-fu];exact N) ay
      . rintro ⟨v,h⟩ e a hF;simp only at a hF;rw [bX] at a;simp only [go_sem];exact au.next (v,h) rfl (by show P _ 6 C _ _ (aj++(ahI.take (q+1)).flatMap hB);rw [cL];exact a) ay
    . rintro ⟨v,h⟩ e a hF;simp only at a hF;rw [bX] at a;simp only [go_sem];exact an.mk ⟨v,a,ay⟩
  clear hF a;rintro e h ⟨v,a,hF⟩;simp only [go_sem,hF,a.O,a.nl,dX,if_true];exact ak.W al cm a.rw a.W (aT _) a.up λH bc=>bc
theorem VG:dt 34 [.agg d] (λv=>F v (m1 ahJ p aU ahI)) bQ:=akv aX (z:=1) .mk (.inr ⟨rfl,rfl⟩)
theorem U7:dt 107 [.agg d] (oB (· ∈eE ahJ p aU ahI)) bQ:=(akv aX (z:=0) .mk (.inl ⟨rfl,rfl⟩)).mono (λe a=>⟨_,a,λc b=>⟨YT aX c b,(Yn ..).mem_iff.1 b⟩,by rw [K8];have:=aX.n1;omega⟩) λ_ a=>a
end
theorem XM {E:Env} {b:List Nat} {k:IntKind} {a:Int} {l:List aa} {tm:List aa} {H:af}:hy E .max b (.int k a::l) tm H=bb (mR k a l) tm H:=by unfold hy;rfl
@[go_sem] theorem afI (E:Env) (g:List Nat) (a b c d:Int) (tm H):hy E .max g [.int .i64 a,.int .i64 b,.int .i64 c,.int .i64 d] tm H= .ok (.int .i64 (max (max (max a b) c) d)) tm H:=by
 have e: ∀(a b:Int) (f:List aa),mR .i64 a (.int .i64 b::f)=mR .i64 (max a b) f:=λa b f=>by
  rw [mR,if_pos rfl];split
  . rw [Int.max_eq_right ab]
  . rw [Int.max_eq_left ab]
 rw [XM,e,e,e,mR,zq]
open Classical in
theorem Br {f:Nat} {g:List aa->List aa} {rows:Y} {ad n:Nat} {H:af} (h: ∀r∈rows,∃b,∀tm,az G (X G R ad n) f (g r) H tm= .ok (.bool b) tm H): ∃p:List aa->Bool,∀r∈rows,∀tm,az G (X G R ad n) f (g r) H tm= .ok (.bool (p r)) tm H:=by refine ⟨λr=>if bh: ∃b,∀tm,az G (X G R ad n) f (g r) H tm= .ok (.bool b) tm H then bh.choose else false,λr bh=> ?_⟩;have:=h r bh;simp only [dif_pos this];exact this.choose_spec
def Gn (m i:Nat):en m i∈List.range 256:=h9.2 (by unfold en;exact tF _ al)
def MP:d G R 103 (λp:Nat×Nat=>T p.1 p.2) (λp=> [.str p.1 p.2]) (λp=> .bool (isName p.1 p.2)):=by
 obtain ⟨J,t⟩:=C.all (l:=List.range 256) (f:=170) (g:=λa=> [.int .u8 (a:Nat)]) (v:=λa=> .bool (isLet a)) λa _=>DC _;obtain ⟨K,u⟩:=C.all (l:=List.range 256) (f:=171) (g:=λa=> [.int .u8 (a:Nat)]) (v:=λa=> .bool (qd a)) λa _=>Dv _;refine d.run (m:=27) rfl rfl rfl rfl (λ_=>rfl) (λ_ _=>rfl) rfl rfl (J+K+42) λz A N O D I x c=> ?_;obtain ⟨h,o⟩:=D;have t:=λi=>t z A ab ab (en o 0) (Gn _ _) x i c;have u:=λa i=>u z A ab ab (en o a) (Gn _ _) x i c;have E:(h==0&&o==0)=decide (h=0):=by rw [jU];simp;exact I.zero
 simp only [go_sem,E];refine e.aE ?_ ?_<;>intro j<;>simp only [go_sem,j]
 . exact e.b c (U.refl _) (by simp at j;simp [isName,j])
 have F:0<h:=by simp at j;omega
 refine e.aE ?_ ?_<;>intro s<;>simp only [go_sem,s,F,t]
 . exact e.b c (U.refl _) (by simp at s;simp [isName];omega)
 have H:h<=40:=by simp at s;omega
 refine e.aE ?_ ?_<;>intro q<;>simp only [go_sem,q]
 rotate_left
 . exact e.b c (U.refl _) (by simp [isName,q])
 generalize M:a1 _ _ _ _ _ _ _ _ _ _=B;revert B;have hF:=trivial;refine dA [0] (λn=> ∀a,a<n->qd (en o a)=true) h (λa k=>by omega) ?_ ?_
 . intro n L i y w hF;simp only [go_sem,hF,y,u n];refine au.aE ?_ ?_<;>intro r<;>simp only [go_sem,r]
   . refine au.next () rfl (λa k=> ?_) ay;rcases Nat.lt_succ_iff_lt_or_eq.1 k with k|rfl
     . exact w a k
     . exact r
   . refine au.stop rfl ?_;simp only [go_sem,hF];exact e.b c (U.refl _) (by simp [isName];exact λ_ _ _=>⟨n,y,r⟩)
 . intro L i w hF;simp only [go_sem,hF];exact e.b c (U.refl _) (by simp [isName,q];exact ⟨⟨ab,H⟩,w⟩)
def abw:d G R 102 (λp:Nat×Nat=>T p.1 p.2) (λp=> [.str p.1 p.2]) (λp=> .bool (!isName p.1 p.2)):=by
 obtain ⟨h,a⟩:=MP;refine d.run (m:=5) rfl rfl rfl rfl (λ_=>rfl) (λ_ _=>rfl) rfl rfl h λj l o q f g c b=> ?_;obtain ⟨i,k⟩:=f;have a:=λn=>a j l ab ab (i,k) g c n b;simp only at a;simp only [go_sem,a];exact e.mk rfl b (U.refl _)
def Vv {r} (c:aN r):dt 108 [.agg r] dI bQ:=by
 obtain ⟨k,a⟩:=((Dz c).mono (S':=dI) (λ_ h=>by obtain ⟨b,f,-⟩:=h;exact ⟨b,f⟩) λ_ g=>g).bW;refine aL.run (m:=5) rfl rfl rfl rfl rfl rfl rfl rfl k λl n o p e d=> ?_;obtain ⟨b,a⟩:=a l n ab ab e d;obtain ⟨y,z,q,s,u,v,B,A,x,w,rfl,j,i⟩:=c.t;simp only [go_sem,j.J,i.J,a];exact ak.bW d (U.refl _)
def Vu {d:List aa} {s:List aa} {kN jv rop j3 bm Z p ae B:Y} (q:fz d s kN jv rop j3 bm Z p ae B):dt 62 [.agg d] dI bQ:=by
 have bV:=q.n1;have bU:=q.iN;have bK: ∀a∈p++ae,iz a:=λa b=>(cr.1 b).elim (q.b9 a) (q.hm a);obtain ⟨aW,F⟩:=abw;obtain ⟨aX,I⟩:=dE (l:=eE Z p ae B) (Q:=λa o i=>aN a-> ∀h,Tidy h-> ∃r,∀e,az G (X G R o i) 108 [.agg a] h e= .ok (.bool r) e h) λa _=>by
  by_cases b:aN a
  . obtain ⟨aU,aK⟩:=(Vv b).bW;exact ⟨aU,λo i F I _ h j=>aK o i F I h j⟩
  . exact ⟨0,λ_ _ _ _ aw=>absurd aw b⟩
 obtain ⟨aY,ax⟩:=(VD q).val;obtain ⟨aZ,aA⟩:=(U7 q).val;obtain ⟨cq,ar,bg,b6,ba,bk,cz,cC,aI,⟨bc,bd,rfl,-⟩,v,P,⟨a7,a8,rfl,-⟩,M,b,⟨bn,bo,rfl,-⟩,⟨bt,bu,rfl,-⟩⟩:=q.eq;obtain ⟨bp,al,bj,av,bs,rfl,bw,bx,bz,bB,bC⟩:=q.bT.eq;refine aL.run (m:=74) rfl rfl rfl rfl rfl rfl rfl rfl (aW+aX+aY+aZ+1048570) λo i bP bR h j=> ?_;obtain ⟨i,rfl⟩: ∃bb,i=bb+2:=⟨i-2,ab⟩;obtain ⟨bq,⟨bf,ag,N,bS⟩,D⟩:=ax o (i+2) ab ab h j;obtain ⟨br,⟨aj,ah,S,bZ⟩,E⟩:=aA o (i+2) ab ab h j;have ao:=Du bq (.fn (.func 102) [] []) bf (λa=>match a with| [.str x r]=> !isName x r|_=>false) ag (qK N) ab rfl (λ_=>rfl) (λa b cA=>by obtain ⟨x,r,rfl,-⟩:=N a b;rfl) o i ab h j (λa b e=>by obtain ⟨x,r,rfl,aO,-⟩:=N a b;simp only [eg,a6,fw,jj];exact F o i ab ab (x,r) aO h e j);obtain ⟨ai,A⟩:=Br (f:=108) (g:=λa=> [.agg a]) (rows:=aj) (ad:=o) (n:=i) (H:=h) λa b=>I o i ab ab a (S a b).2 (S a b).1 h j;have aq:=Ut br (.fn (.func 108) [] []) aj ai ah (λa b=>(S a b).1.len) ab rfl (λ_=>rfl) o i ab h j (λa b e=>by simp only [eg,a6,fw];exact A a b e);rw [aI] at D E|-;simp only [bl,a6] at D E|-;refine ak.bM (λe t=>h=t/\aM 75 [(1,.W 0 [.str bc bd,bp,al,bj,av,bs,ar,bg,.str a7 a8,ba,bk,.str bn bo,.str bt bu])] e) ?_ ?_
 . simp only [go_sem,bw.J,bx.J,bz.J,bB.J,bC.J,v.J,P.J,M.J,b.J];exact an.mk ⟨rfl,dC⟩
 rintro e _ ⟨rfl,hF⟩;refine ak.bF hF (λz e t=>h=t/\z e) ?_ ?_
 . simp only [go_sem,hF,P.O,P.len]
   iterate 5 all_goals try (refine an.aE ?_ ?_<;>intro u<;>simp only [go_sem,hF,u,M.O,M.len,v.O,v.len,b.O,b.len])
   all_goals first
    |exact an.mk ⟨rfl,ay⟩
    |exact an.stop rfl (by simp only [go_sem,hF];exact ak.bW j (U.refl _))
 clear hF;rintro e _ ⟨rfl,hF⟩;refine ak.bF hF (λz e t=>h=t/\z e) ?_ ?_
 . simp only [go_sem,hF,v.O,v.len];generalize aD:a1 _ _ _ _ _ _ _ _ _ _=C;revert C;refine cv [1,31] (λ_=> []) (λ_=>h) (λV s=>True) Z.length () trivial ?_ ?_
   . rintro V _ e L _ hF;obtain ⟨af,y⟩:=bA L;obtain ⟨bD,bE,aT,x,r,rfl,aB,aG,⟨b2,w,aJ,-⟩,⟨cn,rfl⟩,⟨cp,rfl⟩⟩:=q.kx af (aV y);obtain ⟨b4,cl,cc,cf,cd,cg,cE,cG,b7,ca,aC,-,-⟩:=aB.ea;obtain ⟨b5,cm,ct,cx,cu,cy,cF,cH,b8,cb,aH,-,-⟩:=aG.ea;obtain ⟨rfl,aP,aR⟩:=aC.c;obtain ⟨rfl,aQ,aS⟩:=aH.c;simp only [bl,a6] at y;simp only [go_sem,hF,v.O,v.a_ (k:=15) y rfl,aP.J,aR.J,aQ.J,aS.J,w.J,w.O,w.len];refine au.aE ?_ ?_<;>intro u<;>simp only [go_sem,u]
     all_goals first
      |exact au.next () rfl trivial ay
      |exact au.stop rfl (by simp only [go_sem];exact an.stop rfl (by simp only [go_sem,hF];exact ak.bW j (U.refl _)))
   . intro s e aF hF;simp only [go_sem];exact an.mk ⟨rfl,ay⟩
 clear hF;rintro e _ ⟨rfl,hF⟩;refine ak.bF hF (λz e t=>h=t/\z e) ?_ ?_
 . simp only [go_sem,hF,b.O,b.len];generalize aD:a1 _ _ _ _ _ _ _ _ _ _=C;revert C;refine cv (σ:=Unit) [1,43] (λ_=> []) (λ_=>h) (λV s=>True) B.length () trivial (hlf:=(by have:=nV B;omega)) (hN:=(by have:=nV B;omega)) ?_ ?_
   . rintro V _ e L _ hF;obtain ⟨af,y⟩:=bA L;obtain ⟨ck,ai,aT,cB,bI,x,r,rfl,⟨bG,bH,rfl,-⟩,⟨cw,A,bY,bX⟩,⟨b3,w,aJ,bO⟩,⟨cD,T,b1,b0⟩,⟨bJ,K,bN,bL⟩,⟨ch,rfl⟩,⟨cj,rfl⟩⟩:=q.bh af (aV y);simp only [go_sem,hF,b.O,b.a_ (k:=7) y rfl,A.J,w.J,T.J,K.J,A.O,A.len,w.O,w.len,T.O,T.len,K.O,K.len];refine au.aE ?_ ?_<;>intro u<;>simp only [go_sem,u]
     all_goals first
      |exact au.next () rfl trivial ay
      |exact au.stop rfl (by simp only [go_sem];exact an.stop rfl (by simp only [go_sem,hF];exact ak.bW j (U.refl _)))
   . intro s e aF hF;simp only [go_sem];exact an.mk ⟨rfl,ay⟩
 clear hF;rintro e _ ⟨rfl,hF⟩;simp only [go_sem,hF,D,ag.O,ao];refine ak.aE ?_ ?_<;>intro u<;>simp only [go_sem,hF,u,E,ah.O,aq]
 all_goals exact ak.bW j (U.refl _)
open Classical in
theorem PY {P:List aa->Prop} {f:Nat} {g:List aa->List aa} {rows:Y} {ad n:Nat} {H:af} (ag: ∀r∈rows,∃b,(b=true->P r)/\ ∀tm,az G (X G R ad n) f (g r) H tm= .ok (.bool b) tm H): ∃p:List aa->Bool,∀r∈rows,(p r=true->P r)/\ ∀tm,az G (X G R ad n) f (g r) H tm= .ok (.bool (p r)) tm H:=by
 refine ⟨λr=>if bh: ∃b,(b=true->P r)/\ ∀tm,az G (X G R ad n) f (g r) H tm= .ok (.bool b) tm H then bh.choose else false,λr bh=> ?_⟩
 grind
def Vp:d G R 112 (λp:Nat×Nat=>T p.1 p.2) (λp=> [.str p.1 p.2]) (λp=> .bool (isName p.1 p.2&& !eD.any (isStr p.1 p.2))):=by
 obtain ⟨u,a⟩:=MP;obtain ⟨v,g⟩:=Jj;obtain ⟨w,h⟩:=oZ 1000 al;refine d.run (m:=10) rfl rfl rfl rfl (λ_=>rfl) (λ_ _=>rfl) rfl rfl (u+v+w) λi j x y o t f c=> ?_;obtain ⟨l,n⟩:=o;have a:=λk=>a i j ab ab (l,n) t f k c;have g:=λk=>g i j ab ab f k c;have r:F (.A eD true) eD:= .inr ⟨_,rfl⟩;have h:=h i j ab ab (.A eD true) eD l n f AT al c r.cw;simp only at a;simp -implicitDefEqProofs only [go_sem,a];refine e.aE ?_ ?_<;>intro q<;>simp -implicitDefEqProofs only [go_sem,q,g,h]
 all_goals exact e.b c (U.refl _) ai
theorem hZ.look {b bJ:List aa} {kN jv:Y} (d:hZ b bJ (eD++kN) jv) (l m:Nat):F (jX false .V (c2 (cU l m) b bJ 0)) (mj kN jv l m):=by
 have c:=d.ex l m;have a:=d.v l m;unfold jr at c a;unfold mj my;rw [<-c]
 cases e:c2 (cU l m) b bJ 0 with
 |none=>exact .inl ⟨rfl,rfl⟩
 |some f=>rw [e] at a;exact a f.2 rfl
def hZ.same {a bJ:List aa} {kN jv:Y} (b:hZ a bJ kN jv):cN (.ck a bJ) (.ck a bJ)=true:=ER (ES b.k) (m5 _ λf e=>by obtain ⟨g,c,d⟩:=b.s f e;exact c.same (qI d))
section
variable {ax:aa} {s:List aa} {kN jv rop j3 aJ:Y} (ag:dO ax s kN jv rop j3 aJ)
include ag
theorem Vt {r} (C:gd r):dt 117 [ax,.agg r] dI bQ:=by
 obtain ⟨w,x,a,b,rfl,-⟩:=C;obtain ⟨E,d⟩:=sm ag;obtain ⟨F,t⟩:=oZ 1048562 al;obtain ⟨aj,an,M,ao,aq,ar⟩:=ag.val;have u:=ag.abs a b;have T:=ag.bT.n;have D:=ag.same;obtain ⟨h,j,q,ad,aw,aa,av,v,e,Q,hF⟩:=ag;have g:=e.look a b;have y: ∀c,iM G 134 (.ck j q) (.str a b) false c=some (jX false .V (c2 (cU a b) j q 0)):=λc=>tP (cK:=0) G xj lA rfl z22 e.k e.l;have af:=wI e.same;have ah:=wI (g.same (qI u.1));generalize jX false .V (c2 (cU a b) j q 0)=I at*;obtain ⟨K,N,ae,P,au,rfl,i,W,X,Y,Z⟩:=h.eq;have ai:=wI (i.same (qI h.so));simp only [bl,a6] at v;refine aL.run (m:=35) rfl rfl rfl rfl rfl (by simp only [aO,M];rfl) rfl rfl (E+F) λo p R S c f=> ?_;have d:=λH J L=>d o p ab ab (H,J) trivial c L f;have A:=t o p ab ab K kN a b c h.so ab f i.cw;have B:=t o p ab ab I (mj kN jv a b) w x c u.1 ab f g.cw;simp only at d;rw [v] at d D|-;simp -implicitDefEqProofs only [go_sem]
 iterate 4 all_goals try (refine ak.aE ?_ ?_<;>intro z<;>simp -implicitDefEqProofs only [go_sem,z,d,A,B,y,i.O,g.O])
 all_goals exact ak.bW f (U.refl _)
def q2 (kN:Y) (r:List aa):Prop:= ∀f g a d e c,fB r f g a d e c->a.length<=8/\(∀h∈c,∃b:Int,h= [.int .i64 b]/\1<=b/\b<=a.length)/\c.Pairwise (· ≠ ·)/\kN.any (isStr d e)=true
omit ag in
theorem fB.uniq {r l m args ls ms st wc J6 F_ J4 Kb eL} (ag:fB r l m args ls ms st) (g:fB r wc J6 F_ J4 Kb eL):l=wc/\m=J6/\args=F_/\ls=J4/\ms=Kb/\st=eL:=by obtain ⟨a,p,s,i,j,e,r4,r5,-⟩:=ag.eq;obtain ⟨uR,agq,s',vD,tt,BD,YG,YH,-⟩:=g.eq;rw [e] at BD;simp only [jn,aa.str.injEq] at BD;obtain ⟨⟨rfl,rfl⟩,rfl,⟨rfl,rfl⟩,-,-,-,rfl,-⟩:=BD;exact ⟨rfl,rfl,qe r4 YG,rfl,rfl,qe r5 YH⟩
omit ag in
theorem TN {x:List aa} (bj:c6 x) {l m args ls ms st} (b9:fB x l m args ls ms st) (i:Int) (ad n:Nat) (H:af) (hw:Tidy H) (id:Nat) (ku:H.get id=some (.cells (q 52) (q 52) 0 x)) (tm:List aa):
  az G (X G R ad (n+1)) 180 [.int .i64 i,.ptr id (q 52) 0 7] H tm= .ok (.bool (decide (i>=1)&&decide (i<=args.length))) tm H:=by
 obtain ⟨a,p,s,vD,tt,rfl,eO,bB,⟨gm,aeW,-⟩⟩:=b9.eq;refine fa (aL.at (m:=11) (rs:= [.tmp 3]) rfl rfl rfl rfl rfl rfl rfl rfl ?_) tm;simp only [go_sem];refine ak.aE ?_ ?_<;>intro g<;>simp only [go_sem,g,ku,eO.O,eO.len]
 all_goals exact ak.mk ai rfl hw (U.refl _)
theorem Vx {r} (t:c6 r):dt 120 [ax,.agg r] (j9 (q2 kN r)) bQ:=by
 obtain ⟨w,x,p,E,F,o,i⟩:=id t;obtain ⟨a1,aF⟩:=Ji w x i.s1;obtain ⟨a7,aG⟩:=qn (e_ w x) (fL w x) (by unfold e_ fL;split;exact T.mod _ _;exact i.c5);obtain ⟨a8,aH⟩:=Dq w x;obtain ⟨bb,aI⟩:=sm ag;obtain ⟨bc,aK⟩:=oZ 1048562 al;obtain ⟨bd,aN⟩:=VO o.length (by have:=i.rS;omega);obtain ⟨bf,aP⟩:=(Vy t).bW;obtain ⟨bU,bV,bk,bX,bY,bZ⟩:=ag.val;have bz:=ag.bT.n;have aW:=ag.same;have W:=ag.bT;have bx:=t.ok;have C:=i.rs;have aq:=i.hS;have aR: ∀ {h:Bool},(h=true->p.length<=8/\(∀ae∈o,∃e:Int,ae= [.int .i64 e]/\1<=e/\e<=p.length)/\o.Pairwise (· ≠ ·)/\kN.any (isStr E F)=true)->(h=true->q2 kN r):=λz N bJ bL bm bK bN bS aU=>by
  obtain ⟨-,-,rfl,rfl,rfl,rfl⟩:=i.uniq aU
  grind
 obtain ⟨-,bG,b1,bI,b3,bH,b2,S,bq,br,hF⟩:=ag;obtain ⟨bh,bo,bO,bp,b0,rfl,ad,bB,bC,bD,bE⟩:=W.eq;have bR:=wI (ad.same (qI W.so));simp only [bl,a6] at S;refine aL.run (m:=106) rfl rfl rfl rfl rfl (by simp only [aO,bk];rfl) rfl rfl (a1+a7+a8+bb+bc+bd+bf+p.length+o.length+10) λg c bt bu d Y=> ?_;obtain ⟨c,rfl⟩: ∃A,c=A+4:=⟨c-4,ab⟩;have l:Tidy (d.push (.cells (q 52) (q 52) 0 r)):=Y.push (ba.2 λbj bA=>fR _ 20 20 bj al ah);have ar:U d (d.push (.cells (q 52) (q 52) 0 r)):=(U.refl d).push _;generalize Q:d.push (.cells (q 52) (q 52) 0 r)=b at*;have k:b.get d.n=some (.cells (q 52) (q 52) 0 r):=by rw [<-Q];exact dL _ _
 have au:=λa=>aF g (c+4) ab ab b a l;have av:=λa=>aG g (c+4) ab ab b a l;have aw:=λa=>aH g (c+4) ab ab b a l;have aA:=aK g (c+4) ab ab bh kN E F b W.so ab l ad.cw;obtain ⟨K,aB⟩:=aP g (c+4) ab ab b l;have aV:=t;obtain ⟨u,bg,H,e,aZ,rfl,B,D,⟨bP,V,bw,-⟩⟩:=i.eq;have ay: ∀a,az G (X G R g (c+4)) 114 [u,.fn (.func 118) [ax] []] b a= .ok (.bool (p.all λr=>match r with| [.str u h]=>my kN u h|_=>false)) a b:=
  y9 u (.fn (.func 118) [ax] []) p _ B (oy.r aq) (by have:=i.zk;omega) (by simp [aD]) (λ_=>rfl) rfl rfl g c ab b l (by show ([ax].all (y b.n 19)&& [].all (y b.n 19))=true;grind) (λI _ Z r t a=>by obtain ⟨u,h,rfl,-⟩:=aq r t;simp only [eg,a6,fw,bl,jj];exact aI g c ab ab (u,h) trivial I a Z)
 have aC: ∀a,az G (X G R g (c+4)) 181 [H,.fn (.func 180) [] [.ptr d.n (q 52) 0 7]] b a= .ok (.bool (o.all λr=>match r with| [.int _ e]=>decide (e>=1)&&decide (e<=p.length)|_=>false)) a b:=
  U8 H (.fn (.func 180) [] [.ptr d.n (q 52) 0 7]) o _ D (ox.r C) (by have:=i.rS;omega) rfl (λ_=>rfl) rfl rfl g c ab b l (by
    have z:Nat.blt d.n b.n=true:=h_ (by rw [<-Q];simp [lq]);show (true&& [aa.ptr d.n (q 52) 0 7].all (y b.n 19))=true;simp only [aO,jm,y,z];rfl) (λI aY Z r t a=>by
   obtain ⟨e,rfl⟩:=C r t;simp only [eg,a6,bl,jj];obtain ⟨A,aT⟩: ∃A,c=A+1:=⟨c-1,ab⟩;rw [aT];exact TN aV i e g A I Z d.n (aY.get l.1 k) a)
 have aj:=ay;rw [S] at aj aW;have P:=aN g (c+4) ab ab H o b C ab l D.cw;obtain ⟨bn,bs,P⟩:=P;refine ak.bM (λa f=>b=f/\aM 108 [(0,ax),(3,.ptr d.n (q 52) 0 7)] a) ?_ ?_
 . simp -implicitDefEqProofs only [go_sem,B.J,D.J,V.J,Q];exact an.mk ⟨rfl,w0⟩
 rintro a _ ⟨rfl,hF⟩;refine ak.bF hF (λj a f=>b=f/\aM 108 [(5,.str (e_ w x) (fL w x))] a/\j a) ?_ ?_
 . simp -implicitDefEqProofs only [go_sem,hF,k,au];exact an.mk ⟨rfl,dm⟩
 clear hF;rintro a _ ⟨rfl,hF⟩;refine ak.kp [0,3] (λj a f=>(b=f/\p.length<=8/\kN.any (isStr E F)=true)/\j a) ?_ ?_
 . simp -implicitDefEqProofs only [go_sem,hF,av]
   iterate 5 all_goals try (refine an.aE ?_ ?_<;>intro v<;>simp -implicitDefEqProofs only [go_sem,hF,v,k,aw,B.O,B.len,aj,aA,S,ad.O])
   all_goals first
    |exact an.stop rfl (by simp -implicitDefEqProofs only [go_sem,hF];exact ak.gg Y ar ai)
    |exact an.mk ⟨ah,dm⟩
 clear hF;rintro a _ ⟨⟨rfl,aQ,aX⟩,hF⟩;refine ak.bF hF (λj a f=>b=f/\ ∃K,aM 108 [(7,.bool K)] a/\j a) ?_ ?_
 . simp -implicitDefEqProofs only [go_sem,hF,k,V.O,V.len];exact an.mk ⟨rfl,_,by simp -implicitDefEqProofs only [go_sem,hF];trivial⟩
 clear hF;rintro a _ ⟨rfl,K,hF⟩;refine ak.bM (λa f=>b=f/\ ∃af,aM 108 [(0,ax),(3,.ptr d.n (q 52) 0 7),(8,.bool af)] a) ?_ ?_
 . simp -implicitDefEqProofs only [go_sem,hF,k]
   iterate 7 all_goals try (refine an.aE ?_ ?_<;>intro v<;>simp -implicitDefEqProofs only [go_sem,hF,v,k])
   all_goals exact an.mk ⟨rfl,_,by simp -implicitDefEqProofs only [go_sem,hF];trivial⟩
 clear hF;rintro a _ ⟨rfl,af,hF⟩;refine ak.bF hF (λj a f=>b=f/\ ∃L,aM 108 [(9,.bool L)] a/\j a) ?_ ?_
 . simp -implicitDefEqProofs only [go_sem,hF,k]
   iterate 7 all_goals try (refine an.aE ?_ ?_<;>intro v<;>simp -implicitDefEqProofs only [go_sem,hF,v,k])
   all_goals exact an.mk ⟨rfl,_,by simp -implicitDefEqProofs only [go_sem,hF];trivial⟩
 clear hF;rintro a _ ⟨rfl,L,hF⟩;refine ak.kp [0,3,8] (λj a f=>b=f/\M a 9= .bool L/\M a 10= .fn (.func 180) [] [.ptr d.n (q 52) 0 7]/\j a) ?_ ?_
 . simp -implicitDefEqProofs only [go_sem,hF];exact an.mk ⟨rfl,dm⟩
 clear hF;rintro a _ ⟨rfl,hF⟩;simp -implicitDefEqProofs only [go_sem,hF];have aS: ∀h:Bool,(h=true->(o.all λr=>match r with| [.int _ e]=>decide (e>=1)&&decide (e<=p.length)|_=>false)=true/\o.Pairwise (· ≠ ·))->ak (j9 (q2 kN [.str w x,u,.str E F,bg,.int .i64 e,.int .i64 aZ,H])) bQ d (.ret (.bool h) b):=λh z=>ak.gg Y ar (aR λN=>⟨aQ,(λae ao=>by
  obtain ⟨e,rfl⟩:=C ae ao;have:=ba.1 (z N).1 _ ao
  grind),(z N).2,aX⟩)
 iterate 5 all_goals try (refine ak.aE ?_ ?_<;>intro v<;>simp -implicitDefEqProofs only [go_sem,hF,v,k,D.O,aC,P,aB])
 all_goals exact aS _ de
end
def Vw {ax:aa} {s:List aa} {kN jv rop j3 ad:Y} (w:dO ax s kN jv rop j3 ad) {r} (t:c6 r):dt 121 [ax,.agg r] dI bQ:=by
 obtain ⟨h,i,o,S,T,ao,k⟩:=id t;obtain ⟨N,H⟩:=qn h i k.c5;obtain ⟨P,I⟩:=Dq h i;obtain ⟨Q,x⟩:=sm w;obtain ⟨af,aq,A,ar,ag,au⟩:=w.val;have z:=k.hS;refine aL.run (m:=55) rfl rfl rfl rfl rfl (by simp only [aO,A];rfl) rfl rfl (N+P+Q+o.length+10) λf c ah ai b g=> ?_;obtain ⟨c,rfl⟩: ∃V,c=V+4:=⟨c-4,ab⟩;have D:=λa=>H f (c+4) ab ab b a g;have E:=λa=>I f (c+4) ab ab b a g;have v:=λh i a=>x f (c+4) ab ab (h,i) trivial b a g;simp only at v;obtain ⟨d,Z,ae,L,M,rfl,j,u,⟨al,q,aj,-⟩⟩:=k.eq;have F: ∀a,az G (X G R f (c+4)) 114 [d,.fn (.func 118) [ax] []] b a= .ok (.bool (o.all λr=>match r with| [.str d e]=>my kN d e|_=>false)) a b:=
  y9 d (.fn (.func 118) [ax] []) o _ j (oy.r z) (by have:=k.zk;omega) (by simp [aD]) (λ_=>rfl) rfl rfl f c ab b g (by show ([ax].all (y b.n 19)&& [].all (y b.n 19))=true;rw [aO,ag b.n 18];rfl) (λC _ K r t a=>by obtain ⟨d,e,rfl,-⟩:=z r t;simp only [eg,a6,fw,bl,jj];exact x f c ab ab (d,e) trivial C a K)
 refine ak.bM (λa l=>b=l/\aM 57 [(0,ax),(3,.W 0 [.str h i,d,.str S T,Z,.int .i64 L,.int .i64 M,ae])] a) ?_ ?_
 . simp only [go_sem,j.J,u.J,q.J];exact an.mk ⟨rfl,dC⟩
 rintro a _ ⟨rfl,hF⟩;refine ak.bF hF (λB a l=>b=l/\ ∃e,aM 57 [(5,.bool e)] a/\B a) ?_ ?_
 . simp only [go_sem,hF,q.O,q.len]
   iterate 4 all_goals try (refine an.aE ?_ ?_<;>intro p<;>simp only [go_sem,hF,p,u.O,u.len])
   all_goals exact an.mk ⟨rfl,_,by simp only [go_sem,hF];trivial⟩
 clear hF;rintro a _ ⟨rfl,e,hF⟩;simp only [go_sem,hF,D]
 iterate 6 all_goals try (refine ak.aE ?_ ?_<;>intro p<;>simp only [go_sem,hF,p,E,j.O,j.len,F,v,af,A])
 all_goals exact ak.bW g (U.refl _)
structure nm (kN rop j3:Y):Prop where
  names:((rop.map λr=> [M r 0])++(j3.map λr=> [M r 0])).Pairwise (· ≠ ·)
  ops: ∀r∈rop,q2 kN r
  len:rop.length+j3.length<=200
def Kg {rows:Y} (b: ∀r∈rows,c6 r):b8 (rows.map λr=> [M r 0]):=λr c=>by
 obtain ⟨g,d,rfl⟩:=cd.1 c;obtain ⟨e,f,i,l,m,p,a⟩:=b g d;obtain ⟨h,n,o,j,k,rfl,-⟩:=a.eq;exact ⟨e,f,rfl,a.c5,a.s1⟩
def U1 {s:List aa} {kN jv rop j3 af} (v:oz s kN jv rop j3 af):dt 64 [.agg s] (j9 (nm kN rop j3)) bQ:=by
 have ct:=v.n;obtain ⟨b4,ag⟩:=VN 1048560 al;obtain ⟨b5,L⟩:=VP 1048560 al;obtain ⟨b6,bK⟩:=Vp;obtain ⟨au,ax,ar,ai,av,bY,N,ae,T,V,ah⟩:=v.eq;obtain ⟨b9,bL⟩:bo λh e=>rop.length<=1000-> ∀c,Tidy c-> ∃E u,(bd c.n 9 1 rop.length u (rop.map λa=> [M a 0]) E/\Tidy u/\U c u)/\ ∀d,az G (X G R h e) 115 [ar] c d= .ok E d u:=by
  by_cases Y:rop.length<=1000
  . obtain ⟨aH,aB⟩:=Ju ar rop T v.op Y;exact ⟨aH,λh e ag L _ c p=>aB h e ag L c p trivial⟩
  . exact ⟨0,λ_ _ _ _ z=>absurd z Y⟩
 obtain ⟨ca,bN⟩:bo λh e=>j3.length<=1000-> ∀c,Tidy c-> ∃E u,(bd c.n 9 1 j3.length u (j3.map λa=> [M a 0]) E/\Tidy u/\U c u)/\ ∀d,az G (X G R h e) 115 [ai] c d= .ok E d u:=by
  by_cases Y:j3.length<=1000
  . obtain ⟨aH,aB⟩:=Ju ai j3 V v.cP Y;exact ⟨aH,λh e ag L _ c p=>aB h e ag L c p trivial⟩
  . exact ⟨0,λ_ _ _ _ z=>absurd z Y⟩
 obtain ⟨cb,bO⟩:=(Dw v).val;obtain ⟨cc,bP⟩:=dE (l:=uV s kN jv rop j3) (Q:=λj h e=>dO j s kN jv rop j3 af->(∀a∈jv,∀c,Tidy c-> ∃o,∀d,az G (X G R h e) 117 [j,.agg a] c d= .ok (.bool o) d c)/\
   (∀a∈rop,∀c,Tidy c-> ∃o,(o=true->q2 kN a)/\ ∀d,az G (X G R h e) 120 [j,.agg a] c d= .ok (.bool o) d c)/\
   (∀a∈j3,∀c,Tidy c-> ∃o,∀d,az G (X G R h e) 121 [j,.agg a] c d= .ok (.bool o) d c)/\
   (∀ao aq c d,Tidy c->az G (X G R h e) 118 [j,.str ao aq] c d= .ok (.bool (my kN ao aq)) d c)) λj _=>by
  by_cases B:dO j s kN jv rop j3 af
  . obtain ⟨bh,bE⟩:=aL.j8 (l:=jv) (f:=117) (g:=λa=> [j,.agg a]) (S:=λ_=>dI) λa i=>Vt B (v.be a i);obtain ⟨bj,bG⟩:=aL.j8 (l:=rop) (f:=120) (g:=λa=> [j,.agg a]) (S:=λa=>j9 (q2 kN a)) λa i=>Vx B (v.op a i);obtain ⟨bk,bH⟩:=aL.j8 (l:=j3) (f:=121) (g:=λa=> [j,.agg a]) (S:=λ_=>dI) λa i=>Vw B (v.cP a i);obtain ⟨bm,bI⟩:=sm B;refine ⟨bh+bj+bk+bm,λh e a1 a7 _=>⟨λa i c p=> ?_,λa i c p=> ?_,λa i c p=> ?_,λao aq c d p=>bI h e ab ab (ao,aq) trivial c d p⟩⟩
    . obtain ⟨E,⟨o,rfl⟩,I⟩:=bE h e ab ab a i c p;exact ⟨o,I⟩
    . obtain ⟨E,⟨o,rfl,B⟩,I⟩:=bG h e ab ab a i c p;exact ⟨o,B,I⟩
    . obtain ⟨E,⟨o,rfl⟩,I⟩:=bH h e ab ab a i c p;exact ⟨o,I⟩
  . exact ⟨0,λ_ _ _ _ z=>absurd z B⟩
 subst bY;refine aL.run (m:=86) rfl rfl rfl rfl rfl rfl rfl rfl (b4+b5+b6+b9+ca+cb+cc+1048570) λh e cq Y c p=> ?_;obtain ⟨e,rfl⟩: ∃cd,e=cd+4:=⟨e-4,ab⟩;obtain ⟨cl,-,bs⟩:=ag h (e+4) ab ab ax jv c v.be ab p ae.cw;obtain ⟨cm,-,bt⟩:=L h (e+4) ab ab av af c v.bJ ab p ah.cw;obtain ⟨cn,-,bu⟩:=L h (e+4) ab ab au kN c v.so ab p N.cw;have bw: ∀d,az G (X G R h (e+4)) 114 [au,.fn (.func 112) [] []] c d= .ok (.bool (kN.all λa=>match a with| [.str C o]=>isName C o&& !eD.any (isStr C o)|_=>false)) d c:=
  y9 au (.fn (.func 112) [] []) kN _ N (oy.r v.so) ab rfl (λ_=>rfl) rfl rfl h e ab c p rfl (λaw _ aF a i d=>by obtain ⟨C,o,rfl,b3,-⟩:=v.so a i;simp only [eg,a6,fw,jj];exact bK h e ab ab (C,o) b3 aw d aF)
 refine ak.bM (λd u=>c=u/\aM 87 [(1,.W 0 [au,ax,ar,ai,av])] d) ?_ ?_
 . simp only [go_sem,N.J,ae.J,T.J,V.J,ah.J];exact an.mk ⟨rfl,dC⟩
 rintro d _ ⟨rfl,hF⟩;have b1:IntKind.i64.wrap ((rop.length:Int)+(j3.length:Int))=(rop.length:Int)+(j3.length:Int):=wrap64 _ ab ab;refine ak.bF hF (λF d u=>(c=u/\rop.length+j3.length<=200)/\F d) ?_ ?_
 . simp only [go_sem,hF,N.O,N.len]
   iterate 6 all_goals try (refine an.aE ?_ ?_<;>intro K<;>simp only [go_sem,hF,K,ae.O,ae.len,T.O,T.len,V.O,V.len,ah.O,bs,bt,b1])
   all_goals first
    |exact an.stop rfl (by simp only [go_sem,hF];exact ak.gg p (U.refl _) λz=>by cases z)
    |exact an.mk ⟨⟨rfl,by simp at*;omega⟩,ay⟩
 clear hF;rintro d _ ⟨⟨rfl,bU⟩,hF⟩;refine ak.bF hF (λF d u=>c=u/\aM 87 [(3,.fn (.func 112) [] [])] d/\F d) ?_ ?_
 . simp only [go_sem];exact an.mk ⟨rfl,ay⟩
 clear hF;rintro d _ ⟨rfl,hF⟩;refine ak.kp [1] (λF d u=>(Tidy u/\U c u/\((rop.map λa=> [M a 0])++(j3.map λa=> [M a 0])).Pairwise (· ≠ ·))/\F d) ?_ ?_
 . obtain ⟨bb,bc,⟨aW,aY,aS⟩,bx⟩:=bL h (e+4) ab ab ab c p;obtain ⟨aK,bf,⟨aX,b2,aC⟩,bz⟩:=bN h (e+4) ab ab ab bc aY;have aR:b8 (rop.map λa=> [M a 0]):=Kg v.op;have aj:b8 (j3.map λa=> [M a 0]):=Kg v.cP;have b0:bd c.n 9 1 rop.length bf (rop.map λa=> [M a 0]) bb:=aW.at λid cu _ K=>aC.get aY.1 K;obtain ⟨ck,bg,bC,aV,aA⟩:=b0.app (x:=aK) (b:=16) (k:=1) (t:=22) oe nI rfl rfl al al b2 (by have:=aS.n;have:=aC.n;omega) aR.rows ((aX.cw (qK aj)).elems (qK aj)) aj.rows (by simp only [di];unfold b7;omega) (by simp only [di];omega);have aU:=aA.up c (aT _) (aS.trans aC);have aQ:b8 ((rop.map λa=> [M a 0])++(j3.map λa=> [M a 0])):=λa i=>(cr.1 i).elim (aR a) (aj a);obtain ⟨cp,bR,bA⟩:=L h (e+4) ab ab ck _ bg aQ (by simp only [bD,di];omega) aA.tidy (aV.cw (qK aQ));simp only [go_sem,hF,N.O,bu]
   iterate 3 all_goals try (refine an.aE ?_ ?_<;>intro K<;>simp only [go_sem,hF,K,N.O,T.O,V.O,bw,bx,bz,aW.O,aX.O,bC,aV.O,bA])
   all_goals first
    |exact an.stop rfl (by simp only [go_sem,hF];exact ak.gg p (U.refl _) λz=>by cases z)
    |exact an.stop rfl (by simp only [go_sem,hF];exact ak.gg p aU λz=>by cases z)
    |exact an.mk ⟨⟨aA.tidy,aU,bR de⟩,ay⟩
 clear hF;rintro d w ⟨⟨Z,bZ,bX⟩,hF⟩;obtain ⟨j,⟨aN,bS⟩,bB⟩:=bO h (e+4) ab ab w Z;obtain ⟨a1,a7,ch,cj⟩:=bP h e ab ab j bS aN;obtain ⟨aJ,cv,a8,bb,aK,cx⟩:=aN.val;refine ak.bF hF (λF d u=>w=u/\aM 87 [(4,j)] d/\F d) ?_ ?_
 . simp only [go_sem,hF,bB,aJ];exact an.mk ⟨rfl,ay⟩
 clear hF;rintro d _ ⟨rfl,hF⟩;have A: ∀D,aD (.fn (.func D) [j] [])=true/\y w.n 20 (.fn (.func D) [j] [])=true:=λD=>⟨by simp [aD],by show ([j].all (y w.n 19)&& [].all (y w.n 19))=true;rw [aO,aK w.n 18];rfl⟩;have aG: ∀aI D,Tidy (w.push (.cells (q aI) (q aI) 0 [.fn (.func D) [j] []])):=λaI D=>Z.push (by show [aa.fn (.func D) [j] []].all _=true;simp only [aO,kz (mN _) 20 _ (A D).2];rfl);obtain ⟨cf,bV⟩:=Br (f:=117) (g:=λa=> [j,.agg a]) (rows:=jv) (ad:=h) (n:=e) (H:=w.push (.cells (q 170) (q 170) 0 [.fn (.func 117) [j] []])) λa i=>a1 a i _ (aG _ _);obtain ⟨aZ,aP⟩:=PY (P:=q2 kN) (f:=120) (g:=λa=> [j,.agg a]) (rows:=rop) (ad:=h) (n:=e) (H:=w.push (.cells (q 94) (q 94) 0 [.fn (.func 120) [j] []])) λa i=>a7 a i _ (aG _ _);obtain ⟨cg,bW⟩:=Br (f:=121) (g:=λa=> [j,.agg a]) (rows:=j3) (ad:=h) (n:=e) (H:=w.push (.cells (q 94) (q 94) 0 [.fn (.func 121) [j] []])) λa i=>ch a i _ (aG _ _);have bn:=Oc ax (.fn (.func 117) [j] []) jv cf ae (gd.r v.be) ab (A _).1 (λ_=>rfl) rfl rfl h e ab w Z (A _).2 (λa i d=>by simp only [eg,a6,fw,bl];exact bV a i d);have bp:=F8 ar (.fn (.func 120) [j] []) rop aZ T (xh.r v.op) ab (A _).1 (λ_=>rfl) rfl rfl h e ab w Z (A _).2 (λa i d=>by simp only [eg,a6,fw,bl];exact (aP a i).2 d);have bq:=F8 ai (.fn (.func 121) [j] []) j3 cg V (xh.r v.cP) ab (A _).1 (λ_=>rfl) rfl rfl h e ab w Z (A _).2 (λa i d=>by simp only [eg,a6,fw,bl];exact bW a i d);have br: ∀d,az G (X G R h (e+4)) 114 [av,.fn (.func 118) [j] []] w d= .ok (.bool (af.all λa=>match a with| [.str C o]=>my kN C o|_=>false)) d w:=
  y9 av (.fn (.func 118) [j] []) af _ ah (oy.r v.bJ) ab (A _).1 (λ_=>rfl) rfl rfl h e ab w Z (A _).2 (λaw _ aF a i d=>by obtain ⟨C,o,rfl,-⟩:=v.bJ a i;simp only [eg,a6,fw,bl,jj];exact cj C o aw d aF)
 have bT: ∀o:Bool,(o=true->rop.all aZ=true)->ak (j9 (nm kN rop j3)) bQ c (.ret (.bool o) w):=λo B=>ak.gg p bZ λI=>⟨bX,λa i=>(aP a i).1 (ba.1 (B I) a i),bU⟩;simp only [go_sem,hF,ae.O,aJ,a8,bn]
 iterate 4 all_goals try (refine ak.aE ?_ ?_<;>intro K<;>simp only [go_sem,hF,K,T.O,V.O,ah.O,aJ,a8,bp,bq,br])
 all_goals exact bT _ de
def Qz {E:Env} {cf:cb} {fid f t:Nat} {ops:Array Oper} {g:Array Nat} {ty:Nat} {e:String} {a:Array Edge} {tm:List aa} {H:af} {ds} (d:aD (O t (M tm t))=true):
    dv E cf fid ops [⟨none,.defer ⟨.value (.func f), #[.tmp t],g⟩,ty,e,a,none⟩] tm H ds= .normal tm H ((f,[O t (M tm t)])::ds):=by
 have b:B E tm (.tmp t)=O t (M tm t):=rfl;have c:B E tm (.func f)= .fn (.func f) [] []:=rfl;generalize O t (M tm t)=h at*;simp [dv,cJ,b,c,d,cH,bu]
def QP {E:Env} {cf:cb} {g:bU} {ad fid:Nat} {a b c:Code} {tm:List aa} {H:af} {d} {P:bP->Prop} (M:List aa->af->Prop) (j:dD M ⟨⟩ (evalCode E cf g ad fid a tm H [])) (k: ∀f e,M f e->evalCode E cf g ad fid b f e []= .normal f e d/\P (evalCode E cf g ad fid c f e [])):
    ∃r,evalCode E cf g ad fid (.seq a (.seq b c)) tm H []=mm d r/\P r:=by
 obtain ⟨f,e,h,l⟩:=j;obtain ⟨i,m⟩:=k f e l;refine ⟨_,?_,m⟩;rw [evalCode,h];simp only;rw [evalCode,i];exact QG E cf g ad fid d c f e
def an.end_ {Q:bP->Prop} {r:bP} (a:an (λ_ _=>False) Q ⟨⟩ r):Q r:=by
 rcases a with ⟨_,_,_,a⟩|⟨_,a⟩
 all_goals grind
def YE {fid d:Nat} {v:aa} {tm:List aa} (a:G.loc fid d=false):cH G fid (some d) v tm=some (r tm d v):=by
 unfold cH;simp [a,nX]
def GD {cf:cb} {ad:Nat} {id:Nat} {b:Code} {i:Nat} {ty:Nat} {f:String} {d:Array Edge} {c:Option aa} {tm:List aa} {H:af}:
    k6 G cf R ad 61 (.seq (.region i #[⟨some 5,.call ⟨.builtin .recover, #[], #[]⟩,ty,f,d,none⟩] false) (.block id b)) c tm H=(evalCode G cf R ad 61 (.block id b) (r tm 5 (c.getD .dj)) H [],none):=by
 have e: ∀a tm,cH G 61 (some 5) a tm=some (r tm 5 a):=λa tm=>YE dC;simp only [k6,jN,cJ,e]
theorem GC {cf:cb} {ad id g:Nat} {H:af} {c:Option aa} {L:List aa} {H':af} (e: ∀b,f61.body=some b->k6 G cf R ad 61 b c ([.ptr id g 0 4]++List.replicate 13 (.av [])) H=(.normal L H' [],none)):mv G cf R ad 61 [.ptr id g 0 4] c H= .ok none H':=by unfold mv;rw [show G.fns 61=some f61 from rfl];have a: ∃b,f61.body=some b:=⟨_,rfl⟩;obtain ⟨b,a⟩:=a;have d:=e b a;simp only [a];rw [if_pos (by show 1<=14;decide)];rw [show List.replicate (f61.ntmps- [aa.ptr id g 0 4].length) (aa.av [])=List.replicate 13 (.av []) from rfl,d];rfl
@[go_sem ↓] theorem ad8 (E cf fid) (d ty pos b1 g tm H) (x ss a ok):evalOp E cf fid ⟨d,.typeAssert x ss a ok,ty,pos,b1,g⟩ tm H=bb (sD E (B E tm x) ss a ok) tm H:=rfl
def Ox (v):sD G (.iface 78 v) 20 78 true=some (.av [v,.bool true]):=aq
def OU:b4 G .eql 20 .dj .dj=some (.bool true):=aq
def OT (t v):b4 G .eql 20 (.iface t v) .dj=some (.bool false):=aq
theorem PI {cf:cb} {ad id g:Nat} {H:af}:mv G cf R ad 61 [.ptr id g 0 4] none H= .ok none H:=by
 refine GC (L:= ?_) λb a=> ?_
 rotate_left
 . cases a;rw [GD];simp -implicitDefEqProofs only [go_sem,Option.getD,OU];exact rfl
theorem PJ {cf:cb} {ad id g d:Nat} {H:af} {c:Int} {l m:Nat} {a b:Int} {h i j k:aa} (f:H.get id=some (.cells g d 0 [h,i,j,k])):
  mv G cf R ad 61 [.ptr id g 0 4] (some (.iface 78 (.agg [.int .i64 c,.str l m,.int .i64 a,.int .i64 b]))) H= .ok none (H.set id (.cells g g 0 [.int .i64 c,.str l m,.int .i64 a,.int .i64 b])):=by
 refine GC (L:= ?_) λb e=> ?_
 rotate_left
 . cases e;rw [GD];simp -implicitDefEqProofs only [go_sem,Option.getD,OT,Ox,f];exact rfl
structure gf (kN jv rop j3 m4:Y):Prop where
  v:nm kN rop j3
  s: ∀r∈rop,∀l m args ls ms st,fB r l m args ls ms st->st≠ []->pt kN jv m4 ls ms=false
def px:List aa:= [.int .i64 0,.str 0 0,.int .i64 0,.int .i64 0]
def Ay (H:af) (P:Prop) (r:bP):Prop:=(∃b a,r= .ret b a []/\M b 2= .ptr H.n (q 78) 0 4/\Tidy a/\U H a/\a.get H.n=some (.cells (q 78) (q 78) 0 px)/\P)\/
 (∃c b a,r= .aK c b a []/\M b 2= .ptr H.n (q 78) 0 4/\Tidy a/\U H a/\a.get H.n=some (.cells (q 78) (q 78) 0 px)/\fA c)
def Uf {d:List aa} {s:List aa} {kN jv rop j3 H aY p cj ao:Y} (B:fz d s kN jv rop j3 H aY p cj ao) {N:Nat} (hT:bL (eE aY p cj ao) N) (hN:N<50000):
    dt 36 [.agg d] (λv=> ∃c l m a b,v= .agg [.int .i64 c,.str l m,.int .i64 a,.int .i64 b]/\(c=0->gf kN jv rop j3 H)) bQ:=by
 have dB:=B.n1;have dA:=B.iN;obtain ⟨da,bw⟩:=(Vu B).bW;obtain ⟨db,bx⟩:=(U1 B.bT).val;obtain ⟨dc,cC⟩:=(Dw B.bT).val;obtain ⟨dd,cD⟩:=dE (l:=uV s kN jv rop j3) (Q:=λu i j=>dO u s kN jv rop j3 H->
   (∀r∈aY,∀c e,Tidy e->dP e c d u->fK 65 [c,.agg r] i j e)/\
   (∀c e,Tidy e->dP e c d u->fK 66 [c] i j e)/\
   (∀c e,Tidy e->dP e c d u->AI 67 [c] i j e (∀r∈rop,∀l m ct cg ch bK,fB r l m ct cg ch bK->bK≠ []->pt kN jv H cg ch=false))/\
   (∀r∈ao,∀c aR F e,Tidy e->dP e c d u->cG e 1 aR F->b8 F->F.length<=1048560->fK 68 [c,.agg r,aR] i j e)) λu _=>by
  by_cases bf:dO u s kN jv rop j3 H
  . obtain ⟨a8,b0⟩:=dE (l:=aY) (Q:=λr i j=> ∀c e,Tidy e->dP e c d u->fK 65 [c,.agg r] i j e) λr w=>by obtain ⟨c9,cU⟩:=Vk bf (B.kx r w) (N:=N) (λcm cn cf a b c8 z bz bB aW=>by have:=(hT.left.left).flat (cd.2 ⟨r,w,rfl⟩);rw [z,xO bz bB,bm aW] at this;omega) ab;exact ⟨c9,λi j bw bx c e bk aS=>cU i j bw bx c d e bk aS⟩
    obtain ⟨cp,b1⟩:=Vb bf B (N:=N) hT.left.right ab;obtain ⟨cq,b3⟩:=VQ bf B;obtain ⟨cr,b4⟩:=dE (l:=ao) (Q:=λr i j=> ∀c aR F e,Tidy e->dP e c d u->cG e 1 aR F->b8 F->F.length<=1048560->fK 68 [c,.agg r,aR] i j e) λr w=>VI bf B (B.bh r w) (N:=N) (hT.right.flat (cd.2 ⟨r,w,rfl⟩)) hN;exact ⟨a8+cp+cq+cr,ah⟩
  exact ⟨0,λ_ _ _ _ a=>absurd a bf⟩
 obtain ⟨de,cE⟩:=gu 2 al;obtain ⟨df,cF⟩:=gu 16 al;have cb:=B;obtain ⟨eh,z,ai,dQ,ad,ak,bK,ev,aG,⟨ae,ag,rfl,-⟩,aB,bH,⟨T,Z,rfl,-⟩,bG,w,⟨aq,ar,rfl,-⟩,⟨ay,aA,rfl,-⟩⟩:=B.eq;obtain ⟨aw,P,aj,S,ax,cY,bN,bO,bP,bU,bV⟩:=B.bT.eq;subst cY;simp only [bl,a6] at aG;refine ⟨da+db+dc+dd+de+df+1048570,λi j dx dz e bk=> ?_⟩;obtain ⟨j,rfl⟩:=bY j;have dg: ∀c,f36.body=some c-> ∃r,evalCode G (X G R i j) R i 36 c ([.agg d]++List.replicate 60 (.av [])) e []=mm [(61,[.ptr e.n (q 78) 0 4])] r/\Ay e (gf kN jv rop j3 H) r:=by
  intro c aS;cases aS;rw [aG];have dJ:(px.all J)=true:=rfl;have C:Tidy (e.push (.cells (q 78) (q 78) 0 px)):=bk.push rfl;have bI:U e (e.push (.cells (q 78) (q 78) 0 px)):=(U.refl e).push _;have bD:(e.push (.cells (q 78) (q 78) 0 px)).get e.n=some (.cells (q 78) (q 78) 0 px):=dL _ _;refine QP (λf g=>g=e.push (.cells (q 78) (q 78) 0 px)/\aM 61 [(1,.W 0 [.str ae ag,aw,P,aj,S,ax,z,ai,.str T Z,ad,ak,.str aq ar,.str ay aA]),(2,.ptr e.n (q 78) 0 4),(3,.av [])] f) ?_ ?_
  . simp -implicitDefEqProofs only [go_sem,bN.J,bO.J,bP.J,bU.J,bV.J,aB.J,bH.J,bG.J,w.J];exact dD.mk ⟨rfl,w0⟩
  rintro f h ⟨b5,hF⟩;rw [<-b5] at C bI bD;clear b5;refine ⟨?_,?_⟩
  . rw [evalCode];refine Eq.trans (Qz (t:=2) (by rw [hF.2.1];rfl)) ?_;rw [hF.2.1];rfl
  have cX: ∀D g,M D 2= .ptr e.n (q 78) 0 4->Tidy g->U e g->g.get e.n=some (.cells (q 78) (q 78) 0 px)->gf kN jv rop j3 H->Ay e (gf kN jv rop j3 H) (.ret D g []):=λD g a b c d cB=> .inl ⟨D,g,rfl,a,b,c,d,cB⟩;have aP: ∀v,fA v-> ∀D g,M D 2= .ptr e.n (q 78) 0 4->Tidy g->U h g->Ay e (gf kN jv rop j3 H) (.aK v D g []):=λv bj D g I bJ aH=> .inr ⟨v,D,g,rfl,I,bJ,bI.trans aH,aH.get C.1 bD,bj⟩;refine an.end_ ?_;have ds:=C;obtain ⟨bp,bb⟩:=bw i j ab ab h C;obtain ⟨ck,⟨dp,rfl,c1⟩,I⟩:=bx i j ab ab h C;obtain ⟨u,⟨b9,cP⟩,cu⟩:=cC i j ab ab h C;obtain ⟨b0,b1,b3,b4⟩:=cD i j ab ab u cP b9;obtain ⟨di,ck,er,dj,dk,et⟩:=b9.val;have cx:=λl m a b f=>cE i j ab ab l m a b h f C;have cy:=λl m a b f=>cF i j ab ab l m a b h f C;rw [aG] at bb;refine an.bM (λf g=>h=g/\aM 61 [(1,.W 0 [.str ae ag,aw,P,aj,S,ax,z,ai,.str T Z,ad,ak,.str aq ar,.str ay aA]),(2,.ptr e.n (q 78) 0 4),(3,.W 0 [.int .i64 0,.int .i64 0])] f) ?_ ?_
  . simp -implicitDefEqProofs only [go_sem,hF];exact an.mk ⟨rfl,dm⟩
  clear hF;rintro f _ ⟨rfl,hF⟩;refine an.bF hF (λy f g=>h=g/\y f) ?_ ?_
  . simp -implicitDefEqProofs only [go_sem,hF,bb];refine an.aE ?_ ?_<;>intro bc<;>simp -implicitDefEqProofs only [go_sem,hF,bc,cx]
    all_goals first
     |exact an.mk ⟨rfl,dm⟩
     |exact an.stop rfl (aP _ (lO 2 al _ _ _ _) _ _ dm C (U.refl _))
  clear hF;rintro f _ ⟨rfl,hF⟩;refine an.bF hF (λy f g=>(h=g/\nm kN rop j3)/\y f) ?_ ?_
  . simp -implicitDefEqProofs only [go_sem,hF,I];refine an.aE ?_ ?_<;>intro bc<;>simp -implicitDefEqProofs only [go_sem,hF,bc,cy]
    all_goals first
     |exact an.mk ⟨⟨rfl,c1 bc⟩,dm⟩
     |exact an.stop rfl (aP _ (lO 16 al _ _ _ _) _ _ dm C (U.refl _))
  clear hF;rintro f _ ⟨⟨rfl,cN⟩,hF⟩;have aJ:U h (h.push (.cells (q 123) (q 123) 0 ([.str ae ag,aw,P,aj,S,ax,z,ai,.str T Z,ad,ak,.str aq ar,.str ay aA]++ [u]))):=(U.refl _).push _;have L:Tidy (h.push (.cells (q 123) (q 123) 0 ([.str ae ag,aw,P,aj,S,ax,z,ai,.str T Z,ad,ak,.str aq ar,.str ay aA]++ [u]))):=C.push (by
   refine ba.2 λv bj=> ?_;simp only [bl,a6,b2,dG,or_false] at bj;rcases bj with rfl|rfl|rfl|rfl|rfl|rfl|rfl|rfl|rfl|rfl|rfl|rfl|rfl|rfl
   all_goals first
    |exact fR _ 20 20 _ al (bN.aI 19)
    |exact fR _ 20 20 _ al (bO.aI 19)
    |exact fR _ 20 20 _ al (bP.aI 19)
    |exact fR _ 20 20 _ al (bU.aI 19)
    |exact fR _ 20 20 _ al (bV.aI 19)
    |exact fR _ 20 20 _ al (aB.aI 19)
    |exact fR _ 20 20 _ al (bH.aI 19)
    |exact fR _ 20 20 _ al (bG.aI 19)
    |exact fR _ 20 20 _ al (w.aI 19)
    |exact dk _ _
    |rfl)
  have aU:dP (h.push (.cells (q 123) (q 123) 0 ([.str ae ag,aw,P,aj,S,ax,z,ai,.str T Z,ad,ak,.str aq ar,.str ay aA]++ [u]))) (.ptr h.n (q 123) 0 14) d u:=⟨h.n,_,_,0,rfl,by rw [aG];exact dL _ _,aT _,by rw [aG];rfl⟩;refine an.bF hF (λy f g=>h.push (.cells (q 123) (q 123) 0 ([.str ae ag,aw,P,aj,S,ax,z,ai,.str T Z,ad,ak,.str aq ar,.str ay aA]++ [u]))=g/\aM 61 [(4,.ptr h.n (q 123) 0 14)] f/\y f) ?_ ?_
  . simp -implicitDefEqProofs only [go_sem,hF,bN.J,bO.J,bP.J,bU.J,bV.J,aB.J,bH.J,bG.J,w.J,cu,di,ck,dj];exact an.mk ⟨rfl,dm⟩
  clear hF;rintro f E ⟨b6,hF⟩;rw [b6] at aJ L aU;clear b6;refine an.bM (λf g=>E=g/\aM 61 [(1,.W 0 [.str ae ag,aw,P,aj,S,ax,z,ai,.str T Z,ad,ak,.str aq ar,.str ay aA]),(2,.ptr e.n (q 78) 0 4),(4,.ptr h.n (q 123) 0 14)] f) ?_ ?_
  . simp -implicitDefEqProofs only [go_sem,hF,aB.O,aB.len];generalize cI:a1 _ _ _ _ _ _ _ _ _ _=bo;revert bo;refine hz _ _ _ _ (σ:=Unit) (λ_=> [(1,.W 0 [.str ae ag,aw,P,aj,S,ax,z,ai,.str T Z,ad,ak,.str aq ar,.str ay aA]),(2,.ptr e.n (q 78) 0 4),(4,.ptr h.n (q 123) 0 14),(29,z)]) (λ_=>E) (λbn _=>True) 61 aY.length () rfl rfl (λ_=>rfl) rfl trivial dm ab ab ?_ ?_
    . rintro bn _ f bE _ hF;obtain ⟨aZ,aN⟩:=bA bE;have aX:=aV aN;have o:=b0 aZ aX (.ptr h.n (q 123) 0 14) E L aU;obtain ⟨cm,cn,cf,a,b,rfl,bz,bB,⟨c8,aW,cT,-⟩,⟨ef,rfl⟩,⟨eg,rfl⟩⟩:=cb.kx aZ aX;obtain ⟨dM,ed,dV,dX,dW,dY,ey,eA,dR,dT,cH,-,-⟩:=bz.ea;obtain ⟨dN,ee,ej,eo,ek,ep,ez,eB,dS,dU,cK,-,-⟩:=bB.ea;obtain ⟨rfl,c4,c6⟩:=cH.c;obtain ⟨rfl,c5,c7⟩:=cK.c;simp only [bl,a6] at aN o;simp -implicitDefEqProofs only [go_sem,hF,aB.O,aB.a_ (k:=15) aN rfl,c4.J,c6.J,c5.J,c7.J,aW.J];rcases o with o|⟨br,aC,o⟩<;>simp -implicitDefEqProofs only [go_sem,o]
      . exact au.next () rfl trivial dm
      . exact au.stop rfl (by simp -implicitDefEqProofs only [go_sem];exact an.stop rfl (aP _ aC _ _ dm L aJ))
    . intro s f K hF;simp -implicitDefEqProofs only [go_sem];exact an.mk ⟨rfl,ah⟩
  clear hF;rintro f _ ⟨rfl,hF⟩;refine an.bF hF (λy f g=>E=g/\y f) ?_ ?_
  . have o:=b1 (.ptr h.n (q 123) 0 14) E L aU;simp -implicitDefEqProofs only [go_sem,hF];rcases o with o|⟨br,aC,o⟩<;>simp -implicitDefEqProofs only [go_sem,o]
    . exact an.mk ⟨rfl,dm⟩
    . exact an.stop rfl (aP _ aC _ _ dm L aJ)
  clear hF;rintro f _ ⟨rfl,hF⟩;refine an.bF hF (λy f g=>(E=g/\gf kN jv rop j3 H)/\y f) ?_ ?_
  . have o:=b3 (.ptr h.n (q 123) 0 14) E L aU;simp -implicitDefEqProofs only [go_sem,hF];rcases o with ⟨cZ,o⟩|⟨br,aC,o⟩<;>simp -implicitDefEqProofs only [go_sem,o]
    . exact an.mk ⟨⟨rfl,cN,cZ⟩,dm⟩
    . exact an.stop rfl (aP _ aC _ _ dm L aJ)
  clear hF;rintro f _ ⟨⟨rfl,cM⟩,hF⟩;refine an.bF hF (λy f g=>E=g/\aM 61 [(7,.V)] f/\y f) ?_ ?_
  . simp -implicitDefEqProofs only [go_sem];exact an.mk ⟨rfl,dm⟩
  clear hF;rintro f _ ⟨rfl,hF⟩;refine an.kp [2] (λy f g=>(Tidy g/\U h g)/\y f) ?_ ?_
  . simp -implicitDefEqProofs only [go_sem,hF,w.O,w.len];generalize cI:a1 _ _ _ _ _ _ _ _ _ _=bo;revert bo;refine cv (σ:=aa×af) [2,4,44] (λs=> [(7,s.1)]) (λs=>s.2) (λbn s=>gw E s.2 s.1 bn) ao.length (.V,E) ⟨[],bd.nil,λ_ bt=>(by cases bt),aT _,L,U.refl _⟩ (hlf:=(by have:=nV ao;omega)) (hN:=(by have:=nV ao;omega)) ?_ ?_
    . rintro bn ⟨v,a7⟩ f bE K hF;simp only at K hF|-;have dy:=nV ao;obtain ⟨aZ,aN⟩:=bA bE;have aX:=aV aN;obtain ⟨F,ca,bC,cO,aL,aF⟩:=id K;have o:=b4 aZ aX (.ptr h.n (q 123) 0 14) v F a7 aL (aU.up L.1 aF) (ca.cw (qK bC)) bC ab;obtain ⟨ec,ei,cf,eu,dq,a,b,rfl,⟨a8,bp,rfl,c2⟩,⟨en,cW,dF,dC⟩,⟨dK,aW,cT,dw⟩,⟨ew,c3,dI,dH⟩,⟨dr,cR,dv,du⟩,⟨dZ,rfl⟩,⟨eb,rfl⟩⟩:=cb.bh aZ aX;obtain ⟨dh,cl,cz,b7⟩:=K.app (x:= .A [[.str a8 bp]] true) (aQ:= [[.str a8 bp]]) (.inl (.inr ⟨_,rfl⟩)) (λr w=>by rw [bs.1 w];exact ⟨_,_,rfl,c2⟩) ah;simp -implicitDefEqProofs only [go_sem,hF,w.O,w.a_ (k:=7) aN rfl,cW.J,aW.J,c3.J,cR.J,K.O];rcases o with o|⟨br,aC,o⟩<;>simp -implicitDefEqProofs only [go_sem,hF,o,K.O,cz,b7.O]
      . exact au.next (dh,cl) rfl b7 dm
      . exact au.stop rfl (by simp -implicitDefEqProofs only [go_sem];exact an.stop rfl (aP _ aC _ _ dm aL (aJ.trans aF)))
    . rintro ⟨v,a7⟩ f K hF;simp only at K hF;obtain ⟨F,ca,bC,cO,aL,aF⟩:=K;simp -implicitDefEqProofs only [go_sem];exact an.mk ⟨⟨aL,aJ.trans aF⟩,dm⟩
  clear hF;rintro f a7 ⟨⟨aL,aF⟩,hF⟩;have cc:a7.get e.n=some (.cells (q 78) (q 78) 0 [.int .i64 0,.str 0 0,.int .i64 0,.int .i64 0]):=aF.get C.1 bD;simp -implicitDefEqProofs only [go_sem,hF,cc];exact an.stop rfl (cX _ _ dm (aL.set _ rfl) ((bI.trans aF).set (aT _) _) (nJ _ _ _ (by rw [cc];rfl)) cM)
 obtain ⟨r,cA,cJ⟩:=dg _ rfl;have bX: ∀f g c l m a b,M f 2= .ptr e.n (q 78) 0 4->g.get e.n=some (.cells (q 78) (q 78) 0 [.int .i64 c,.str l m,.int .i64 a,.int .i64 b])->hA G f36 f g= .ret (.agg [.int .i64 c,.str l m,.int .i64 a,.int .i64 b]) g:=λf g c l m a b bb I=>by
  have:hA G f36 f g=gp G [.cell 2 78] f g:=by unfold hA gp;simp only [dn,bu];rfl
  rw [this];simp -implicitDefEqProofs only [go_sem,bb,I]
 have bZ: ∀c l m a b g,U e g->(∀f,X G R i (j+1) 36 [.agg d] e= .ret (.agg [.int .i64 c,.str l m,.int .i64 a,.int .i64 b]) g->az G (X G R i (j+1)) 36 [.agg d] e f= .ok (.agg [.int .i64 c,.str l m,.int .i64 a,.int .i64 b]) f e):=λc l m a b g c0 f z=>by
  have cV:aD (.agg d)=true:=by rw [aG];rfl
  have cS:=gV (v:= .agg [.int .i64 c,.str l m,.int .i64 a,.int .i64 b]) bk c0 rfl;rw [jL G _ _ _ _ f rfl (by simp only [aO,cV];rfl),z];simp only [hV,show G.bS 36=false from rfl,fi g _ (.agg [.int .i64 c,.str l m,.int .i64 a,.int .i64 b]) (fr 20 bR _ al rfl),cS];rfl
 have bq:=lN G R i j 36 60 [.agg d] e f36 _ rfl rfl rfl rfl;rw [cA] at bq;rcases cJ with ⟨D,g,rfl,I,bJ,aH,bg,cL⟩|⟨v,D,g,rfl,I,bJ,aH,bg,⟨c,l,m,a,b,rfl,aS⟩⟩
 . refine .inl ⟨_,⟨0,0,0,0,0,rfl,λ_=>cL⟩,λf=>bZ _ _ _ _ _ g aH f ?_⟩;rw [bq];simp only [mm,a6,finish,mO,PI];exact bX _ _ _ _ _ _ _ I bg
 . refine .inl ⟨_,⟨c,l,m,a,b,rfl,λbt=>absurd bt aS⟩,λf=>bZ c l m a b (g.set e.n (.cells (q 78) (q 78) 0 [.int .i64 c,.str l m,.int .i64 a,.int .i64 b])) (aH.set (aT _) _) f ?_⟩;rw [bq];have cQ:mv G (X G R i j) R i 61 [.ptr e.n (q 78) 0 4] (some (.iface 78 (.agg [.int .i64 c,.str l m,.int .i64 a,.int .i64 b]))) g=_:=PJ bg;simp only [mm,a6,finish,mO,cQ];exact bX _ _ _ _ _ _ _ I (nJ _ _ _ (by rw [bg];rfl))
def U3 {d:List aa} {s:List aa} {kN jv rop j3 h e p f g:Y} (a:fz d s kN jv rop j3 h e p f g) {N:Nat} (hT:bL (eE e p f g) N) (hN:N<50000):
    dt 17 [.agg d] (j9 (gf kN jv rop j3 h)) bQ:=by
 obtain ⟨t,k⟩:=(Uf a hT hN).val;obtain ⟨T,F,W,L,R,Z,ag,al,b,⟨S,V,rfl,-⟩,l,o,⟨M,O,rfl,-⟩,n,q,⟨ad,ae,rfl,-⟩,⟨an,ao,rfl,-⟩⟩:=a.eq;obtain ⟨af,D,X,G,aj,r,w,x,y,z,A⟩:=a.bT.eq;subst r;simp only [bl,a6] at b;subst b;refine aL.run (m:=6) rfl rfl rfl rfl rfl rfl rfl rfl t λu v I K i c=> ?_;obtain ⟨ai,⟨E,P,Q,B,C,rfl,H⟩,j⟩:=k u v ab ab i c;simp -implicitDefEqProofs only [go_sem,w.J,x.J,y.J,z.J,A.J,l.J,o.J,n.J,q.J,j];exact ak.gg c (U.refl _) ah
structure ec (K:Nat) (H:af) (fv:aa):Prop where
  nl:aD fv=true
  op: ∀t,O t fv=fv
  ok:J fv=true
  cs:fv.cells= [fv]
  ids:y H.n 20 fv=true
  f: ∃f a c,fv= .fn (.func f) a c
  call: ∀ad n,K<=ad->K<=n-> ∀H',U H H'->Tidy H'-> ∀l m tm,T l m->l<4611686018427387904->cx G (X G R ad n) fv [.str l m] H' tm= .ok (.str l m) tm H'
def ec.up {b:Nat} {H H' fv} (a:ec b H fv) (c:U H H'):ec b H' fv:=⟨a.nl,a.op,a.ok,a.cs,kz c.n 20 fv a.ids,a.f,λi j e g d h=>a.call i j e g d (c.trans h)⟩
def CA {f:Nat} {args:List aa} {ad n:Nat} {H:af} {v:aa} (b: ∃w H',(w=v/\H'=H)/\ ∀tm,az G (X G R ad n) f args H tm= .ok w tm H'): ∀tm,az G (X G R ad n) f args H tm= .ok v tm H:=by
 obtain ⟨w,H',⟨rfl,rfl⟩,a⟩:=b;exact a
def ec.mono {b L:Nat} {H fv} (a:ec b H fv) (h:b<=L):ec L H fv:=⟨a.nl,a.op,a.ok,a.cs,a.ids,a.f,λc d e g=>a.call c d ab ab⟩
def Tn (H:af):ec 1 H (.fn (.func 75) [] []):=by
 refine ⟨rfl,λ_=>rfl,rfl,rfl,rfl,⟨_,_,_,rfl⟩,λg a _ e d _ b f h c _ _=> ?_⟩;obtain ⟨a,rfl⟩:=bY a;simp only [eg,a6,fw];refine CA (bn.at (m:=3) (rs:= [.tmp 2]) rfl rfl rfl rfl rfl rfl rfl rfl ?_) c;simp only [go_sem];exact bn.mk ⟨rfl,gV b (U.refl _) rfl⟩
def To (H:af):ec 1 H (.fn (.func 288) [] []):=by
 refine ⟨rfl,λ_=>rfl,rfl,rfl,rfl,⟨_,_,_,rfl⟩,λg a _ e d _ b f h c _ _=> ?_⟩;obtain ⟨a,rfl⟩:=bY a;simp only [eg,a6,fw];refine jQ (aL.at (m:=3) (rs:= [.tmp 2]) rfl rfl rfl rfl rfl rfl rfl rfl ?_) c;simp only [go_sem];exact ak.mk rfl rfl b (U.refl _)
def IJ {H:af} {p:Nat} {fv:aa} {g b:Nat} (j:H.get p=some (.cells g b 0 [fv])) (h:b<=g) (o:H.l.length=H.n) {a:Nat} (u:1<=a) (i: ∀ad n,a<=ad->a<=n-> ∀H',U H H'->Tidy H'-> ∀l m tm,T l m->l<4611686018427387904->cx G (X G R ad n) fv [.str l m] H' tm= .ok (.str l m) tm H') (r: ∀t,O t fv=fv):
    ∀ad n,a+1<=ad->a+1<=n-> ∀H',U H H'->Tidy H'-> ∀l m tm,T l m->l<4611686018427387904->cx G (X G R ad n) (.fn (.func 145) [] [.ptr p g 0 1]) [.str l m] H' tm= .ok (.str l m) tm H':=by
 intro ad n v w H' c d l m tm s q;obtain ⟨n,rfl⟩:=bY n;have k:=c.get o j;have e:=λtm=>i ad n ab ab H' c d l m tm s q;simp only [eg,a6,bl];refine CA (bn.at (m:=8) (rs:= [.tmp 3]) rfl rfl rfl rfl rfl rfl rfl rfl ?_) tm;simp only [go_sem];refine bn.aE ?_ ?_<;>intro f<;>simp only [go_sem,f,k,h,r,e]
 all_goals exact bn.mk ⟨rfl,gV d (U.refl _) rfl⟩
def L_ {l m:Nat} (a:T l m):e_ l m+jM l m=l/\fL l m+k5 l m<<<(8*e_ l m)=m:=by
 unfold e_ jM fL k5
 cases d:jk l m with
 |false=>simp
 | true=>
   have e:2<l:=by simp [jk] at d;omega
   simp only [if_true];refine ⟨ab,?_⟩;have b:l-(l-2)=2:=ab;rw [b];have f:m<2^(8*l):=by unfold T at a;rwa [show (256:Nat)=2^8 from rfl,<-vW] at a
   have c:m>>>(8*(l-2))<2^(8*2):=by
    rw [yZ];refine Nat.div_lt_of_lt_mul ?_;rw [<-Nat.pow_add]
    rwa [show 8*(l-2)+8*2=8*l by omega]
   rw [tE c,yY,yZ,Nat.add_comm,rK];have:=yU m (2^(8*(l-2)))
   rwa [rK] at this|-
def Tp {H:af} {p:Nat} {fv:aa} {g d:Nat} (s:H.get p=some (.cells g d 0 [fv])) (q:d<=g) (v:H.l.length=H.n) {a:Nat} (y:1<=a) (r: ∀ad n,a<=ad->a<=n-> ∀H',U H H'->Tidy H'-> ∀l m tm,T l m->l<4611686018427387904->cx G (X G R ad n) fv [.str l m] H' tm= .ok (.str l m) tm H') (x: ∀t,O t fv=fv):
    ∀ad n,a+1<=ad->a+1<=n-> ∀H',U H H'->Tidy H'-> ∀l m tm,T l m->l<4611686018427387904->cx G (X G R ad n) (.fn (.func 146) [] [.ptr p g 0 1]) [.str l m] H' tm= .ok (.str l m) tm H':=by
 intro ad n z A H' f b l m tm e w;obtain ⟨n,rfl⟩:=bY n;have u:=f.get v s;obtain ⟨c,h⟩:=L_ e;have o:T (e_ l m) (fL l m):=by unfold e_ fL;split;exact T.mod _ _;exact e
 have j:=λtm=>r ad n ab ab H' f b (e_ l m) (fL l m) tm o ab;have k: ∀tm,az G (X G R ad n) 147 [.str l m] H' tm= .ok (.av [.str (e_ l m) (fL l m),.str (jM l m) (k5 l m)]) tm H':=λtm=>MR ad n ab ab (l,m) w H' tm b;have i:e_ l m+jM l m<=ht:=by rw [c];unfold ht;omega
 simp only [eg,a6,bl];refine CA (bn.at (m:=14) (rs:= [.tmp 3]) rfl rfl rfl rfl rfl rfl rfl rfl ?_) tm;simp only [go_sem,u,q,x,j,k,i];rw [c,h];exact bn.mk ⟨rfl,gV b (U.refl _) rfl⟩
def Tq {H:af} {p:Nat} {fv:aa} {g d:Nat} (s:H.get p=some (.cells g d 0 [fv])) (q:d<=g) (v:H.l.length=H.n) {a:Nat} (y:1<=a) (r: ∀ad n,a<=ad->a<=n-> ∀H',U H H'->Tidy H'-> ∀l m tm,T l m->l<4611686018427387904->cx G (X G R ad n) fv [.str l m] H' tm= .ok (.str l m) tm H') (x: ∀t,O t fv=fv):
    ∀ad n,a+1<=ad->a+1<=n-> ∀H',U H H'->Tidy H'-> ∀l m tm,T l m->l<4611686018427387904->cx G (X G R ad n) (.fn (.func 225) [] [.ptr p g 0 1]) [.str l m] H' tm= .ok (.str l m) tm H':=by
 intro ad n z A H' f b l m tm e w;obtain ⟨n,rfl⟩:=bY n;have u:=f.get v s;obtain ⟨c,h⟩:=L_ e;have o:T (e_ l m) (fL l m):=by unfold e_ fL;split;exact T.mod _ _;exact e
 have j:=λtm=>r ad n ab ab H' f b (e_ l m) (fL l m) tm o ab;have k: ∀tm,az G (X G R ad n) 147 [.str l m] H' tm= .ok (.av [.str (e_ l m) (fL l m),.str (jM l m) (k5 l m)]) tm H':=λtm=>MR ad n ab ab (l,m) w H' tm b;have i:e_ l m+jM l m<=ht:=by rw [c];unfold ht;omega
 simp only [eg,a6,bl];refine jQ (aL.at (m:=14) (rs:= [.tmp 3]) rfl rfl rfl rfl rfl rfl rfl rfl ?_) tm;simp only [go_sem,u,q,x,j,k,i];rw [c,h];exact ak.mk rfl rfl b (U.refl _)
end Go.aj
