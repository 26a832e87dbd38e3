/- A part of the proof. -/
import Derived.Test.YtiodgpibgiodcaaGreatDoorP00
import Derived.Test.YtiodgpibgiodcaaGreatDoorP07
import Derived.Test.YtiodgpibgiodcaaGreatDoorP10
import Derived.Test.YtiodgpibgiodcaaGreatDoorP11
set_option linter.all false
set_option maxHeartbeats 4000000
namespace Go.aj
open Go Go.Proofs.Tryz
set_option maxRecDepth 100000
@[go_sem] theorem ZP (f):f_ (some (.fn (.func f) [] [])) (some (.fn (.func f) [] []))=true:=by simp [f_,cN,eu]
@[go_sem] theorem LV (f a b c d):f_ (some (.fn (.func f) [] [.ptr a b c d])) (some (.fn (.func f) [] [.ptr a b c d]))=true:=by simp [f_,cN,eu]
def Yw {a H:af} {v w e p s' s:aa} {rows o h rs:Y} {l m ls ms:Nat} {i j:Int} (g:P 52 7 a H v rows) (y:P 9 1 a H w o) (B:ei 88 2 a H e p h) (C:ei 3 1 a H s' s rs)
    (M:cc v w) (d2:cc v e) (N:cc v s') (O:cc w e) (Q:cc w s') (R:cc e s') (V:F p h) (W:F s rs):
    ∃H',cT G 24 1 [(0,.agg [.str l m,w,.str ls ms,e,.int .i64 i,.int .i64 j,s'])] H=some (.A [[.str l m,dk o,.str ls ms,gB p h,.int .i64 i,.int .i64 j,gB s rs]] true,H')/\P 52 7 a H' v rows:=by
 obtain ⟨ao,S,q,r,n⟩:=y.aZ 49 al al;have u:=g.bS q (r a ab g.up) λid d c b=>n id d c (M id b);have Z:=B.bS q (r a ab g.up) λid d c b=>n id d c (λf=>O id f b);have ag:=C.bS q (r a ab g.up) λid d c b=>n id d c (λf=>Q id f b);obtain ⟨ar,f,I,K,D⟩:=Z.aZ 49 al al V;have L:=u.bS I (K a ab u.up) λid d c b=>D id d c (d2 id b);have ah:=ag.bS I (K a ab u.up) λid d c b=>D id d c (λf=>R id f b);obtain ⟨x,T,aj,ak,X⟩:=ah.aZ 49 al al W;have an:=L.bS aj (ak a ab L.up) λid d c b=>X id d c (N id b);refine ⟨x,?_,an⟩;have ok: ∀v∈ [aa.agg [.str l m,w,.str ls ms,e,.int .i64 i,.int .i64 j,s']],v.cells.length=7/\v.cells.all J=true:=λv g=>by rw [bs.1 g];refine ⟨rfl,?_⟩;show [aa.str l m,w,.str ls ms,e,.int .i64 i,.int .i64 j,s'].all J=true;simp only [aO,jm,y.ok,B.facts.2.1,C.facts.2.1];rfl
 have U:cD (aZ bR) ([aa.agg [.str l m,w,.str ls ms,e,.int .i64 i,.int .i64 j,s']].flatMap aa.cells) H=some ([.str l m,dk o,.str ls ms,gB p h,.int .i64 i,.int .i64 j,gB s rs],x):=by show cD (aZ (49+1)) [.str l m,w,.str ls ms,e,.int .i64 i,.int .i64 j,s'] H=_;have ad: ∀l m H,aZ (49+1) (.str l m) H=some (.str l m,H):=λ_ _ _=>rfl;have ae: ∀i H,aZ (49+1) (.int .i64 i) H=some (.int .i64 i,H):=λ_ _=>rfl;simp only [cD,ad,ae,S,f,T]
 exact A5 (E:=G) (t:=24) (el:=52) (k:=7) (z:= .agg Aq) aq aq aq al rfl [.agg [.str l m,w,.str ls ms,e,.int .i64 i,.int .i64 j,s']] ok ai U
def ct:List aa->List aa
 | [g,c,h,a,d,e,b]=> [g,dk (f c),h,gB a (f a),d,e,gB b (f b)]
 |r=>r
def nk (r:List aa):Prop:= ∀c e a d f b,fB r c e a d f b->a.length<800000/\b.length<800000
def Jw (rows:Y) (cx: ∀r∈rows,c6 r) (cy: ∀r∈rows,nk r) (dj:rows.length<800000):bo λad n=> ∀x H aG ar aB aj bc aC ak bd aF ao bf,Z H->F x rows->ec 9 H aG->ec 9 H ar->f_ (some aG) (some aG)=true->f_ (some ar) (some ar)=true->
    H.get aB=some (.cells aj bc 0 [aG])->bc<=aj->H.get aC=some (.cells ak bd 0 [.fn (.func 222) [] []])->bd<=ak->H.get aF=some (.cells ao bf 0 [ar])->bf<=ao->
    ∃v H',P 52 7 H H' v (rows.map ct)/\ ∀tm,az G (X G R ad n) 223 [x,.ptr aB aj 0 1,.ptr aC ak 0 1,.ptr aF ao 0 1] H tm= .ok v tm H':=by
 obtain ⟨bR,cm⟩:=Jp 800000 al;refine ⟨bR+1048580,λad n dh dn x H aG ar aB aj bc aC ak bd aF ao bf aw aK bQ aL dw cM cK cD cL cE bW bV=> ?_⟩;obtain ⟨n,rfl⟩: ∃cG,n=cG+1+1+1:=⟨n-3,ab⟩;refine bn.at (m:=58) rfl rfl rfl rfl rfl (by simp only [aO,aK.aD];rfl) rfl rfl ?_;simp only [go_sem,aK.O,aK.len];generalize cn:a1 _ _ _ _ _ _ _ _ _ _=bb;revert bb;have hF:=trivial;refine cv [1,2,3,11] (λc=> [(6,c.1)]) (λc=>c.2) (λQ c=>P 52 7 H c.2 c.1 ((rows.map ct).take Q)) rows.length (.V,H) (P.new _ _ aw) ?_ ?_
 . rintro Q ⟨v,bC⟩ tm dg a hF;simp only at a hF|-;obtain ⟨r,br⟩: ∃r,rows[Q]? =some r:=de;have bN:=aV br;obtain ⟨o,q,S,p,s,aS,D⟩:=cx r bN;obtain ⟨du,dv⟩:=cy r bN _ _ _ _ _ _ D;obtain ⟨bD,I,c,u,w,rfl,bq,aJ,g,aH,dt,bt⟩:=D.eq;have bj:=a.up.get aw.1 cK;have bk:=a.up.get aw.1 cL;have aW:=a.up.get aw.1 bW;refine au.np [13,12,1,2,3,11] (λaA tm H'=>bC=H'/\ ∃aR,M tm 6=v/\M tm 8= .W aR [.str o q,bD,.str p s,I,.int .i64 u,.int .i64 w,c]/\aA tm) ?_ ?_
   . simp only [go_sem,hF,aK.O,aK.a_ (k:=7) br rfl,bq.J,aH.J,aJ.J];exact an.mk ⟨rfl,_,by simp only [go_sem,hF];trivial⟩
   clear hF;rintro tm _ ⟨rfl,aR,hF⟩;obtain ⟨_,a8,⟨bE,y,T,rfl,h,B,L,c7,c8,bI⟩,b9⟩:=Uh (ad:=ad) (n:=n) (l:=o) (m:=q) (ls:=p) (ms:=s) (i:=u) (j:=w) a.tidy bq aH aJ D.hS.rows (EL bt) (Zs D.rs) ab ab ab;obtain ⟨cd,cf,c9,da⟩:=h.facts;obtain ⟨cg,ch,dc,dd⟩:=B.facts;obtain ⟨dx,cN,dy,dz⟩:=L.facts;refine au.np [13,12,1,2,3,6,11] (λaA tm H'=>a8=H'/\M tm 8= .W aR [.str o q,bE,.str p s,y,.int .i64 u,.int .i64 w,T]/\aA tm) ?_ ?_
   . simp only [go_sem,hF,b9,cf,ch,cN];exact an.mk ⟨rfl,ay⟩
   clear hF;rintro tm _ ⟨rfl,hF⟩;have bj:=h.up.get a.tidy.1 bj;have bk:=h.up.get a.tidy.1 bk;have aW:=h.up.get a.tidy.1 aW;have aY:=a.up.trans h.up;obtain ⟨ae,ba,e,cb⟩:=cm ad (n+1+1) ab ab bE S a8 ar D.hS ab h.tidy h.cw (aL.up aY);have b4:=λtm=>bQ.call ad (n+1+1) ab ab a8 aY h.tidy o q tm D.c5 D.s1;have bh:=λtm=>aL.call ad (n+1+1) ab ab ba (aY.trans e.up) e.tidy p s tm D.pw D.s2;have cj:=e.up.get h.tidy.1 aW;refine au.bM (λtm H'=>ba=H'/\aM 62 [(13,.int .i64 (Q:Nat)),(12,.int .i64 (rows.length:Nat)),(1,.ptr aB aj 0 1),(2,.ptr aC ak 0 1),(3,.ptr aF ao 0 1),(6,v),(11,x),(8,.W aR [.str o q,ae,.str p s,y,.int .i64 u,.int .i64 w,T])] tm) ?_ ?_
   . simp only [go_sem,hF,cd,bj,bk,aW,cj,cD,cE,bV,bQ.op,aL.op,b4,cb,bh,e.O,e.ok,e.cs,cM];exact an.mk ⟨rfl,ay⟩
   clear hF;rintro tm _ ⟨rfl,hF⟩;have dA:=h.up.n;have bJ:cc v y:=λid x K=>by have:=a.W.lt x;have:=(B.ge K).1;omega
   have b0:cc v T:=λid x K=>by have:=a.W.lt x;have:=(L.ge K).1;omega
   have b1:cc v ae:=λid x K=>by have:=a.W.lt x;have:=e.W.ge K;omega
   have bK:cc ae y:=λid x K=>by have:=e.W.ge x;have:=(B.ge K).2;omega
   have b3:cc ae T:=λid x K=>by have:=e.W.ge x;have:=(L.ge K).2;omega
   have bg:=a.at e.tidy (h.up.trans e.up);have B:=(B.at e.tidy e.up).mono a.up;have L:=(L.at e.tidy e.up).mono a.up;have bG:=e.mono aY;refine au.bF hF (λaA tm H'=>(P 52 7 H H' v ((rows.map ct).take Q)/\P 9 1 H H' ae S/\ei 88 2 H H' y I g/\ei 3 1 H H' T c aS)/\aA tm) ?_ ?_
   . have cq:=B.cw.len;simp only [go_sem,hF,cg,cq];generalize cn:a1 _ _ _ _ _ _ _ _ _ _=bb;revert bb;refine cv [13,12,1,2,3,6,11,8,36] (λ_=> []) (λc=>c) (λdp H'=>P 52 7 H H' v ((rows.map ct).take Q)/\P 9 1 H H' ae S/\ei 88 2 H H' y I g/\ei 3 1 H H' T c aS) g.length ba ah ?_ ?_
     . clear hF;rintro ax ai tm cp ⟨aN,bU,a6,bT⟩ hF;obtain ⟨a7,aX⟩: ∃a7,g[ax]? =some a7:=ah;have cu:=aV aX;obtain ⟨cH,bP,cB,cC,-⟩:=a6.cw.at (EL bt).len aX;obtain ⟨bu,bw,af,ag,rfl,-,cP,-,cF⟩:=bt a7 cu;have bl:P 88 2 H ai y g:=by
        rcases a6.alt with ⟨C,-⟩|⟨-,-,C⟩
        all_goals grind
       obtain ⟨cI,cJ,aU,dB,cQ,dC,cR,cS,cT,cU,z,bx⟩:=bl.pn aX 1 [.str af ag] (aT 2) (λv aZ=>by rw [bs.1 aZ];exact ⟨rfl,rfl⟩);have b5:cI=cH:=ah;subst b5;have cz:g.set ax (putAt 1 [aa.str af ag] [aa.str bu bw,aa.str af ag])=g:=by show g.set ax [aa.str bu bw,aa.str af ag]=g;have dm:ax<g.length:=cp;have:=e6.1 aX;obtain ⟨_,N⟩:=this;rw [<-N,List.set_getElem_self]
       rw [cz] at z;have cV: ∀tm,hf 1 cJ [.str af ag] tm ai= .ok (.av []) tm aU:=cU;have bR:=aN.bS z.tidy z.up λid aP C N=>bx.other id aP C (bJ id N);have dq:=bU.bS z.tidy z.up λid aP C N=>bx.other id aP C (bK id N);have dr:=bT.bS z.tidy z.up λid aP C N=>bx.other id aP C (λb6=>bI id b6 N);have ds:ei 88 2 H aU y I g:=⟨z.tidy,z.up,.inr ⟨λN=>by
        rcases a6.alt with ⟨C,-⟩|⟨C,-⟩
        all_goals grind,ah,z⟩⟩
       have bL:=bl.O;have db:=bl.ok;have ck:=aN.up.get aw.1 bW;have bh:=λtm=>aL.call ad (n+1+1) ab ab ai aN.up aN.tidy af ag tm cP cF;refine au.bM (λtm H'=>ai=H'/\ ∃bY,aM 62 [(38,.int .i64 (ax:Nat)),(37,.int .i64 (g.length:Nat)),(13,.int .i64 (Q:Nat)),(12,.int .i64 (rows.length:Nat)),(1,.ptr aB aj 0 1),(2,.ptr aC ak 0 1),(3,.ptr aF ao 0 1),(6,v),(11,x),(8,.W aR [.str o q,ae,.str p s,y,.int .i64 u,.int .i64 w,T]),(36,y),(9,.int .i64 (ax:Nat)),(10,.W bY [.str bu bw,.str af ag])] tm) ?_ ?_
       . simp only [go_sem,hF,bL,bP,cB,cC];exact an.mk ⟨rfl,_,by simp only [go_sem,hF];trivial⟩
       clear hF;rintro tm _ ⟨rfl,bY,hF⟩;simp only [go_sem,hF];refine au.aE ?_ ?_<;>intro cl<;>simp only [go_sem,hF,cl,bL,ck,bV,aL.op,bh,bP,cQ,cR,cS,cT,cV]
       . exact au.next ai rfl ah ay
       . exact au.next aU rfl ah ay
     . rintro ai tm ⟨aN,bU,a6,bT⟩ hF;simp only [go_sem];exact an.mk ah
   clear hF;rintro tm cW ⟨⟨bg,bG,B,L⟩,hF⟩;obtain ⟨aU,b8,cA⟩:=Yw (l:=o) (m:=q) (ls:=p) (ms:=s) (i:=u) (j:=w) bg bG B L b1 bJ b0 bK b3 bI aH aJ;have bO:Rows 7 [[aa.str o q,dk S,.str p s,gB I g,.int .i64 u,.int .i64 w,gB c aS]]:=λa7 cr=>by
    rw [bs.1 cr];refine ⟨rfl,λv aZ=> ?_⟩;have bz:=fW S;have bA:=xH aH;have bB:=xH aJ;simp only [b2,dG,or_false] at aZ;rcases aZ with rfl|rfl|rfl|rfl|rfl|rfl|rfl
    . exact ⟨rfl,rfl⟩
    . exact ⟨bz.J,bz.aI _⟩
    . exact ⟨rfl,rfl⟩
    . exact ⟨bA.J,bA.aI _⟩
    . exact ⟨rfl,rfl⟩
    . exact ⟨rfl,rfl⟩
    . exact ⟨bB.J,bB.aI _⟩
   obtain ⟨cO,bZ,b7,bp,df⟩:=cA.app (E:=G) (t:=24) (b:=120) (i:=t52) aq aq rfl rfl al al (x:= .A [[.str o q,dk S,.str p s,gB I g,.int .i64 u,.int .i64 w,gB c aS]] true) (aQ:= [_]) (dR (.inr ⟨_,rfl⟩) bO.len) bO ah;have ca:(rows.map ct)[Q]? =some [aa.str o q,dk S,.str p s,gB I g,.int .i64 u,.int .i64 w,gB c aS]:=by rw [hO,br];show some [aa.str o q,dk (f bD),.str p s,gB I (f I),.int .i64 u,.int .i64 w,gB c (f c)]=_;rw [bm bq,bm aH,bm aJ]
   rw [<-od ca] at bp;obtain ⟨cX,cY,cZ,c0⟩:=B.facts;obtain ⟨c1,c2,c3,c4⟩:=L.facts;simp only [go_sem,hF,bg.O,b8,bH,b7,bp.O];exact au.next (cO,bZ) rfl bp ay
 . rintro ⟨v,bC⟩ tm a hF;simp only at a hF;rw [show (rows.map ct).take rows.length=rows.map ct by rw [<-di ct,bX]] at a;simp only [go_sem,hF,a.O,a.nl,dX,if_true];exact bn.mk (a.gc aw (U.refl _) (d:=19) id)
def U0 {s:List aa} {kN aw rop aK aW:Y} (T:oz s kN aw rop aK aW) (cu:kN.length+aw.length+rop.length+aK.length+aW.length<800000) (b8: ∀r∈rop,nk r) (b5: ∀r∈aK,nk r):
    bo λad n=> ∀H K p,Z H->ec 9 H K->ec 9 H p->f_ (some K) (some K)=true->f_ (some p) (some p)=true->
    ∃ w H',(∃z B C D F,w= .agg [z,B,C,D,F]/\P 9 1 H H' z kN/\P 166 2 H H' B aw/\P 52 7 H H' C (rop.map ct)/\P 52 7 H H' D (aK.map ct)/\P 9 1 H H' F aW/\ [z,B,C,D,F].Pairwise cc)/\
      ∀tm,az G (X G R ad n) 148 [.agg s,p,K] H tm= .ok w tm H':=by
 obtain ⟨bf,aR⟩:=Jp 800000 al;obtain ⟨bg,aZ⟩:=Jw rop T.op b8 ab;obtain ⟨cb,b1⟩:=Jw aK T.cP b5 ab;obtain ⟨bB,bP,bz,bq,bD,rfl,bc,aJ,bb,a8,bd⟩:=T.eq;refine ⟨bf+bg+cb+1048580,λad n cx b7 H K p ar ae h bp aP=> ?_⟩;obtain ⟨n,rfl⟩:=bY n;refine bn.at (m:=52) rfl rfl rfl rfl rfl (by simp only [aO,ae.nl,h.nl];rfl) rfl rfl ?_;have br: ∀ {H:af} {aL:aa},Z H->y H.n 20 aL=true->Z (H.push (.cells (q 130) (q 130) 0 [aL])):=λaE ca=>aE.push (by show [_].all _=true;simp only [aO,jm,kz (mN _) 20 _ ca];rfl);have aI:=br ar h.ids;have aS:U H (H.push (.cells (q 130) (q 130) 0 [p])):=(U.refl H).push _;have a:=br aI (kz aS.n 20 _ ae.ids);have b9:=aS.trans ((U.refl _).push (.cells (q 130) (q 130) 0 [K]));refine bn.bM (λtm Q=>(Z Q/\U H Q/\Q.get (H.n+1)=some (.cells (q 130) (q 130) 0 [K])/\Q.get H.n=some (.cells (q 130) (q 130) 0 [p]))/\aM 55 [(3,.W 0 [bB,bP,bz,bq,bD]),(4,.ptr H.n (q 130) 0 1),(5,.ptr (H.n+1) (q 130) 0 1),(6,.W 0 [.V,.V,.V,.V,.V]),(9,.av []),(11,.av [])] tm) ?_ ?_
 . simp only [go_sem,bc.J,aJ.J,bb.J,a8.J,bd.J,h.op,ae.op,h.ok,ae.ok,h.cs,ae.cs];exact an.mk ⟨⟨a,b9,vo _ _ _,yg _ _ _⟩,dC⟩
 rintro tm Q ⟨⟨aI,aS,aU,o⟩,hF⟩;have bw:Z (Q.push (.cells (q 254) (q 254) 0 [.fn (.func 222) [] []])):=aI.push rfl;have ao:=(U.refl Q).push (.cells (q 254) (q 254) 0 [.fn (.func 222) [] []]);refine bn.bF hF (λS tm ah=> ∃aA ak aX,(Z ah/\U Q ah/\ah.get aA=some (.cells ak aX 0 [.fn (.func 222) [] []])/\aX<=ak)/\aM 55 [(7,.ptr aA ak 0 1)] tm/\S tm) ?_ ?_
 . simp only [go_sem,hF];exact an.mk ⟨_,_,_,⟨bw,ao,dL _ _,aT _⟩,ay⟩
 clear hF ao bw;rintro tm ah ⟨aA,ak,aX,⟨a,ao,ag,bh⟩,hF⟩;refine bn.np [3,4,6,11,9] (λS tm H'=>ah=H'/\M tm 7= .ptr aA ak 0 1/\M tm 8= .fn (.func 223) [] [.ptr (H.n+1) (q 130) 0 1,.ptr aA ak 0 1,.ptr H.n (q 130) 0 1]/\S tm) ?_ ?_
 . simp only [go_sem,hF];exact an.mk ⟨rfl,ay⟩
 clear hF;rintro tm _ ⟨rfl,hF⟩;have u:=aS.trans ao;have aU:=ao.get aI.1 aU;have o:=ao.get aI.1 o;obtain ⟨z,bE,d,aY⟩:=aR ad n ab ab bB kN ah p T.so ab a (.inl bc) (h.up u);obtain ⟨F,bG,j,bZ⟩:=aR ad n ab ab bD aW bE p T.bJ ab d.tidy (.inl bd) (h.up (u.trans d.up));have L:=d.up.trans j.up;obtain ⟨C,bI,g,bV⟩:=aZ ad n ab ab bz bG K p _ _ _ _ _ _ _ _ _ j.tidy bb (ae.up (u.trans L)) (h.up (u.trans L)) bp aP (L.get a.1 aU) (aT _) (L.get a.1 ag) bh (L.get a.1 o) (aT _);have N:=L.trans g.up;obtain ⟨D,aN,f,bW⟩:=b1 ad n ab ab bq bI K p _ _ _ _ _ _ _ _ _ g.tidy a8 (ae.up (u.trans N)) (h.up (u.trans N)) bp aP (N.get a.1 aU) (aT _) (N.get a.1 ag) bh (N.get a.1 o) (aT _);have aH:=N.trans f.up;refine bn.np [3,4,6,11] (λS tm H'=>aN=H'/\M tm 9= .W 0 [z,.V,C,D,F]/\S tm) ?_ ?_
 . have bj:=ag;have bk:=d.up.get a.1 ag;have cD:=L.get a.1 ag;have cE:=N.get a.1 ag;have cF:=aH.get a.1 ag;have ch:=o;have cj:=d.up.get a.1 o;have cG:=L.get a.1 o;have cH:=N.get a.1 o;have cI:=aH.get a.1 o;simp only [go_sem,hF,bc.O,bb.O,a8.O,bd.O,bj,bk,ch,cj,bh,aT,h.op,aY,bZ,bV,bW,aP,d.O,d.ok,d.cs,g.O,g.ok,g.cs,f.O,f.ok,f.cs,j.O,j.ok,j.cs];exact an.mk ⟨rfl,ay⟩
 clear hF;rintro tm _ ⟨rfl,hF⟩;have o:=aH.get a.1 o;have a7:=u.trans aH;have b4:=EL T.be;refine bn.np [3,4,6] (λS tm H'=> ∃B,P 166 2 aN H' B aw/\M tm 9= .W 0 [z,B,C,D,F]/\S tm) ?_ ?_
 . simp only [go_sem,hF,aJ.O,aJ.len];generalize cw:a1 _ _ _ _ _ _ _ _ _ _=bO;revert bO;refine cv [3,4,6,33] (λs=> [(9,.W 0 [z,s.1,C,D,F])]) (λs=>s.2) (λbx s=>P 166 2 aN s.2 s.1 (aw.take bx)) aw.length (.V,aN) (P.new _ _ f.tidy) ?_ ?_
   . rintro bx ⟨aL,aj⟩ tm b6 l hF;simp only at l hF|-;obtain ⟨r,a6⟩:=bA b6;have bt:=aV a6;obtain ⟨ax,aB,aC,aD,rfl,cl,cm,cd,cf⟩:=T.be r bt;have cg:=l.up.get f.tidy.1 o;have bQ:=λtm=>h.call ad n ab ab aj (a7.trans l.up) l.tidy ax aB tm cl cd;have bR:=λtm=>h.call ad n ab ab aj (a7.trans l.up) l.tidy aC aD tm cm cf;have bu:Rows 2 [[aa.str ax aB,.str aC aD]]:=λv c=>b4 v (by rw [bs.1 c];exact bt);obtain ⟨ck,bK,b0,aF,-⟩:=l.app (E:=G) (t:=23) (b:=32) (i:=t166) aq aq rfl rfl al al (x:= .A [[.str ax aB,.str aC aD]] true) (aQ:= [_]) (dR (.inr ⟨_,rfl⟩) bu.len) bu (by rw [h6];show _+1<_;omega);rw [<-od a6] at aF;have b3:cT G 23 1 [(0,.agg [.str ax aB,.str aC aD])] aj=some (.A [[.str ax aB,.str aC aD]] true,aj):=aq;simp only [go_sem,hF,aJ.O,aJ.a_ (k:=2) a6 rfl,cg,aT,h.op,bQ,bR,aP,b3,bH,l.O,b0,aF.O,aF.ok,aF.cs];exact au.next (ck,bK) rfl aF ay
   . rintro ⟨aL,aj⟩ tm l hF;simp only at l hF;rw [bX] at l;simp only [go_sem];exact an.mk ⟨aL,l,ay⟩
 clear hF;rintro tm aj ⟨B,e,hF⟩;simp only [go_sem,hF,d.ok,e.ok,g.ok,f.ok,j.ok];have aG: ∀ {v},v∈ [z,B,C,D,F]->y H.n 20 (.agg [z,B,C,D,F])=true->y H.n (18+1) v=true:=λ{v} c aE=>by have aE: [z,B,C,D,F].all (y H.n 19)=true:=aE;exact ba.1 aE v c
 have cn:=(d.at (aH.trans e.up|>λ_=>e.tidy) ((j.up.trans g.up).trans (f.up.trans e.up)));have cr:=j.at e.tidy (g.up.trans (f.up.trans e.up));have cp:=g.at e.tidy (f.up.trans e.up);have cq:=f.at e.tidy e.up;refine bn.mk ⟨z,B,C,D,F,rfl,cn.gc ar u (aG ai),e.gc ar a7 (aG ai),cp.gc ar (u.trans L) (aG ai),cq.gc ar (u.trans N) (aG ai),cr.gc ar (u.trans d.up) (aG ai),?_⟩;have cy:=d.up.n;have cC:=j.up.n;have cA:=g.up.n;have cB:=f.up.n;have cz:=e.up.n;have I: ∀ {aY bf bU bg bL bl bm bN:_} {bC w:aa} {bj bk},P aY bf bL bl bC bj->P bU bg bm bN w bk->bl.n<=bm.n->cc bC w:=λaR aZ b7 id bS bT=>by have:=aR.W.lt bS;have:=aZ.W.ge bT;omega
 refine hq.2 ⟨λv c=> ?_,hq.2 ⟨λv c=> ?_,hq.2 ⟨λv c=> ?_,hq.2 ⟨λv c=> ?_,hq.2 ⟨λv c=> ?_,List.Pairwise.nil⟩⟩⟩⟩⟩
 . simp only [b2,dG,or_false] at c;rcases c with rfl|rfl|rfl|rfl
   . exact I d e ab
   . exact I d g ab
   . exact I d f ab
   . exact I d j ab
 . simp only [b2,dG,or_false] at c;rcases c with rfl|rfl|rfl
   . exact (I g e ab).symm
   . exact (I f e ab).symm
   . exact (I j e ab).symm
 . simp only [b2,dG,or_false] at c;rcases c with rfl|rfl
   . exact I g f ab
   . exact (I j g ab).symm
 . simp only [b2,dG,or_false] at c;subst c;exact (I j f ab).symm
 . cases c
def P.pM {h l i m:Nat} {d a b e:af} {c w:aa} {o p:Y} (j:P h l d a c o) (k:P i m b e w p) (q:a.n<=b.n):cc c w:=λid f g=>by have:=j.W.lt f;have:=k.W.ge g;omega
def IK {n d:Nat} {l:List aa} (a:y n (d+1) (.agg l)=true) {q:aa} (b:q∈l):y n d q=true:=ba.1 (show l.all (y n d)=true from a) q b
structure FF (mc H:af) (w:aa) (kN jv rop j3 m4 ah0 p zI u:Y) (zk rM asc asC:aa):Prop where
  eq: ∃v1 v2 v3 v4 v5 uE o m sr K6 K7,w= .agg [zk,v1,v2,v3,v4,v5,uE,o,rM,m,sr,asc,asC]/\P 9 1 mc H v1 kN/\P 166 2 mc H v2 jv/\P 52 7 mc H v3 (rop.map ct)/\P 52 7 mc H v4 (j3.map ct)/\P 9 1 mc H v5 m4/\
    P 81 15 mc H uE K6/\xi ak8 iz 10 (p.map ak8) o/\xi ak8 iz 10 (zI.map ak8) m/\P 64 7 mc H sr K7/\(K6.map alp=ah0.map alp/\ ∀r∈K6,xb r)/\(K7.map ald=u.map ald/\ ∀r∈K7,lI r)/\ [v1,v2,v3,v4,v5,uE,sr].Pairwise cc
def Vf {d s:List aa} {kN c3 rop cm c4 aW p bV aX:Y} (ao:fz d s kN c3 rop cm c4 aW p bV aX) (dI:kN.length+c3.length+rop.length+cm.length+c4.length<800000) (dS: ∀r∈rop,nk r) (dO: ∀r∈cm,nk r)
    {N:Nat} (hT:bL (eE aW p bV aX) N) (hN:N<50000):bo λad n=> ∀H fv,Z H->ec 1 H fv->f_ (some fv) (some fv)=true->
    ∃w H',FF H H' w kN c3 rop cm c4 aW p bV aX (M d 0) (M d 8) (M d 11) (M d 12)/\ ∀tm,az G (X G R ad n) 74 [.agg d,fv] H tm= .ok w tm H':=by
 obtain ⟨cS,a8⟩:=U0 ao.bT dI dS dO;have cB: ∀ {dk:Y} {db:Nat},db<100000->bL dk db->bo λad n=> ∀r∈dk,l9 r ad n:=λe8 ak=>dE λr bc=>Jn (ak.g_ bc).1 (by have:=(ak.g_ bc).2;omega);have dd: ∀ {cW:Y},(∀r∈cW,r∈p++bV)->bo λad n=> ∀r∈cW,l9 (dQ r) ad n:=λ{cW} dP=>by obtain ⟨eH,ak⟩:=cB ab hT.left.right;exact ⟨eH,ah⟩
 have eP:p.length<1048560:=by have:=ao.iN;omega
 have eN:bV.length<1048560:=by have:=ao.iN;omega
 have ft:aW.length<1048556:=by have:=ao.iN;omega
 have fu:aX.length<1048556:=by have a8:=ao.iN;have:=D9 aX;omega
 obtain ⟨eI,bu⟩:=Jm p ao.b9 eP (dd λr bc=>hP _ bc);obtain ⟨eJ,dD⟩:=Jm bV ao.hm eN (dd ah);obtain ⟨eK,dF⟩:=dE (l:=aW) (Q:=λc ad n=>l9 (c.take 6) ad n/\l9 ((c.drop 6).take 6) ad n/\ ∀cq H br,Z H->F cq (f (M c 12))->ec 9 H br-> ∃e,oB ((f (M c 12)).map ah2) e/\ ∀tm,az G (X G R ad n) 151 [br,cq] H tm= .ok e tm H) λc cj=>by have C:bL (eo c) N:=hT.left.left.flat (cd.2 ⟨c,cj,rfl⟩);obtain ⟨cu,cg⟩:=cB ab C;have cA:bL (f (M c 12)) N:=C.right;have:=cA.len;obtain ⟨dv,cx⟩:=y_ (f (M c 12)) cA.wt ab (cB ab cA);exact ⟨cu+dv,λad n fE fF=>⟨cg ad n ab ab _ (by simp [eo]),cg ad n ab ab _ (by simp [eo]),λcq H br=>cx ad n ab ab cq H br⟩⟩
 obtain ⟨eL,dH⟩:=dE (l:=aX) (Q:=λc ad n=> ∀H br,Z H->ec 9 H br-> ∃aE,((aE.length=7/\ ∀e∈aE,J e=true/\D 20 e=true)/\lI aE/\ald aE=ald c)/\ ∀tm,az G (X G R ad n) 152 [br,.agg c] H tm= .ok (.agg aE) tm H) λc cj=>
  Vi (ao.bh c cj) (hT.right.flat (cd.2 ⟨c,cj,rfl⟩)) hN
 obtain ⟨fB,bE,bC,fc,bB,r,fJ,fM,rfl,⟨h,v,rfl,e1,eO⟩,b5,cN,⟨g,u,rfl,e0,eM⟩,cM,b8,⟨j,z,rfl,e2,eQ⟩,⟨o,B,rfl,e3,eR⟩⟩:=ao.eq;obtain ⟨bW,bD,bU,bI,bZ,rfl,eA,en,ez,et,eF⟩:=ao.bT.eq;refine ⟨cS+eI+eJ+eK+eL+1048580,λad n dP e9 H fv bf aU e7=> ?_⟩;obtain ⟨n,rfl⟩:=bY n;have b0:M ([.str h v]++ [bW,bD,bU,bI,bZ]++ [bE,bC,.str g u,bB,r,.str j z,.str o B]) 0= .str h v/\M ([.str h v]++ [bW,bD,bU,bI,bZ]++ [bE,bC,.str g u,bB,r,.str j z,.str o B]) 8= .str g u/\M ([.str h v]++ [bW,bD,bU,bI,bZ]++ [bE,bC,.str g u,bB,r,.str j z,.str o B]) 11= .str j z/\M ([.str h v]++ [bW,bD,bU,bI,bZ]++ [bE,bC,.str g u,bB,r,.str j z,.str o B]) 12= .str o B:=⟨rfl,rfl,rfl,rfl⟩;rw [b0.1,b0.2.1,b0.2.2.1,b0.2.2.2];clear b0;simp only [bl,a6];refine bn.at (m:=89) rfl rfl rfl rfl rfl (by simp only [aO,aU.nl];rfl) rfl rfl ?_;have bQ:Z (H.push (.cells (q 130) (q 130) 0 [fv])):=bf.push (by show [_].all _=true;simp only [aO,jm,kz (mN _) 20 _ aU.ids];rfl);have bO:=(U.refl H).push (.cells (q 130) (q 130) 0 [fv]);refine bn.bM (λtm aA=>(Z aA/\U H aA/\aA.get H.n=some (.cells (q 130) (q 130) 0 [fv]))/\aM 91 [(2,.W 0 [.str h v,bW,bD,bU,bI,bZ,bE,bC,.str g u,bB,r,.str j z,.str o B]),(3,.ptr H.n (q 130) 0 1),(4,.W 0 [.str 0 0,.V,.V,.V,.V,.V,.V,.V,.str 0 0,.V,.V,.str 0 0,.str 0 0]),(7,.av []),(9,.av []),(11,.av [])] tm) ?_ ?_
 . simp only [go_sem,eA.J,en.J,ez.J,et.J,eF.J,b5.J,cN.J,cM.J,b8.J,aU.op,aU.ok,aU.cs];exact an.mk ⟨⟨bQ,bO,dL _ _⟩,dC⟩
 clear bQ bO;rintro tm aA ⟨⟨bQ,bO,c0⟩,hF⟩;have cJ:ec 9 aA (.fn (.func 145) [] [.ptr H.n (q 130) 0 1]):=ec.mono ⟨rfl,λ_=>rfl,rfl,rfl,by have bb:Nat.blt H.n aA.n=true:=h_ (gW c0);show ([].all (y aA.n 19)&& [aa.ptr H.n (q 130) 0 1].all (y aA.n 19))=true;simp only [aO,jm,y,bb];rfl,⟨_,_,_,rfl⟩,IJ c0 (aT _) bQ.1 (aT _) (λad n a8 bu H' b3=>aU.call ad n a8 bu H' (bO.trans b3)) aU.op⟩ (show 2<=9 by decide);have bw:Z (aA.push (.cells (q 192) (q 192) 0 [.fn (.func 145) [] [.ptr H.n (q 130) 0 1]])):=bQ.push (by show [_].all _=true;simp only [aO,jm,kz (mN _) 20 _ cJ.ids];rfl);have bP:=(U.refl aA).push (.cells (q 192) (q 192) 0 [.fn (.func 145) [] [.ptr H.n (q 130) 0 1]]);refine bn.bM (λtm af=> ∃bq bt cw,(Z af/\U aA af/\af.get bq=some (.cells bt cw 0 [.fn (.func 145) [] [.ptr H.n (q 130) 0 1]])/\cw<=bt)/\aM 91 [(2,.W 0 [.str h v,bW,bD,bU,bI,bZ,bE,bC,.str g u,bB,r,.str j z,.str o B]),(4,.W 0 [.str 0 0,.V,.V,.V,.V,.V,.V,.V,.str 0 0,.V,.V,.str 0 0,.str 0 0]),(5,.ptr bq bt 0 1),(7,.av []),(9,.av []),(11,.av [])] tm) ?_ ?_
 . simp only [go_sem,hF];exact an.mk ⟨_,_,_,⟨bw,bP,dL _ _,aT _⟩,ay⟩
 clear hF bP bw;rintro tm af ⟨bq,bt,cw,⟨bw,bP,cl,ck⟩,hF⟩;have er:ec 9 af (.fn (.func 146) [] [.ptr bq bt 0 1]):=ec.mono ⟨rfl,λ_=>rfl,rfl,rfl,by have bb:Nat.blt bq af.n=true:=h_ (gW cl);show ([].all (y af.n 19)&& [aa.ptr bq bt 0 1].all (y af.n 19))=true;simp only [aO,jm,y,bb];rfl,⟨_,_,_,rfl⟩,Tp cl ck bw.1 (show 1<=2 by decide) (λad n a8 bu H' b3=>IJ c0 (aT _) bQ.1 (aT _) (λad n a8 bu H' b3=>aU.call ad n a8 bu H' (bO.trans b3)) aU.op ad n a8 bu H' (bP.trans b3)) cJ.op⟩ (show 3<=9 by decide);have cK:=cJ.up bP;refine bn.bF hF (λax tm H'=>af=H'/\aM 91 [(6,.fn (.func 146) [] [.ptr bq bt 0 1])] tm/\ax tm) ?_ ?_
 . simp only [go_sem,hF];exact an.mk ⟨rfl,ay⟩
 clear hF;rintro tm _ ⟨rfl,hF⟩;obtain ⟨_,aL,⟨aF,aG,aH,aJ,aK,rfl,T,c7,c8,c9,da,dU⟩,dA⟩:=a8 ad n ab ab af _ _ bw er cK (LV _ _ _ _ _) (LV _ _ _ _ _);have bx:=cK.up T.up;obtain ⟨aR,cE,dz⟩:=bu ad n ab ab bC aL _ T.tidy cN bx;obtain ⟨aP,cD,dy⟩:=dD ad n ab ab bB aL _ T.tidy cM bx;have c1:=T.up.get bw.1 cl;refine bn.np [2,4,5,9,11] (λax tm H'=>aL=H'/\M tm 7= .W 0 [.str h v,aF,aG,aH,aJ,aK,.V,aR,.str g u,aP,.V,.str j z,.str o B]/\ax tm) ?_ ?_
 . have a7:=λtm=>cK.call ad n ab ab af (U.refl _) bw h v tm e1 eO;have ca:=λtm=>bx.call ad n ab ab aL (U.refl _) T.tidy g u tm e0 eM;have cb:=λtm=>bx.call ad n ab ab aL (U.refl _) T.tidy j z tm e2 eQ;have dc:=λtm=>bx.call ad n ab ab aL (U.refl _) T.tidy o B tm e3 eR;obtain ⟨eX,b7,ew,ey⟩:=id cE;obtain ⟨eW,b6,eu,ev⟩:=id cD;simp only [eg,a6,bl] at a7 ca cb dc;simp only [go_sem,hF,cN.O,cM.O,cl,c1,ck,a7,ca,cb,dc,dA,dz,dy,T.ok,c7.ok,c8.ok,c9.ok,da.ok,b7.O,b7.J,b7.cells,b6.O,b6.J,b6.cells];exact an.mk ⟨rfl,ay⟩
 clear hF;rintro tm _ ⟨rfl,hF⟩;obtain ⟨eX,b7,ew,ey⟩:=id cE;obtain ⟨eW,b6,eu,ev⟩:=id cD;have eh:bN G 81=some (.agg [.int .i64 0,.int .i64 0,.str 0 0,.str 0 0,.V,.V,.int .i64 0,.int .i64 0,.str 0 0,.str 0 0,.V,.V,.V,.int .i64 0,.int .i64 0]):=aq;refine bn.np [2,4,5,11] (λax tm H'=> ∃K I,(P 81 15 aL H' K I/\I.map alp=aW.map alp/\ ∀r∈I,xb r)/\M tm 7= .W 0 [.str h v,aF,aG,aH,aJ,aK,K,aR,.str g u,aP,.V,.str j z,.str o B]/\ax tm) ?_ ?_
 . simp only [go_sem,hF,b5.O,b5.len];generalize dK:a1 _ _ _ _ _ _ _ _ _ _=ct;revert ct;refine cv [2,4,5,11,45] (λs=> [(7,.W 0 [.str h v,aF,aG,aH,aJ,aK,s.1,aR,.str g u,aP,.V,.str j z,.str o B])]) (λs=>s.2) (λbk s=> ∃I,P 81 15 aL s.2 s.1 I/\I.map alp=(aW.take bk).map alp/\ ∀r∈I,xb r) aW.length (.V,aL) ⟨[],P.new _ _ T.tidy,rfl,ai⟩ ?_ ?_
   . clear hF;rintro bk ⟨K,L⟩ tm cC ⟨I,a,aC,cz⟩ hF;simp only at a hF|-;have cy:I.length=bk:=by rw [<-di (f:=alp),aC,di,h6];omega
     obtain ⟨c,bg⟩:=bA cC;have b1:=aV bg;have bG:=Wo alp bg;obtain ⟨e4,e5,bj,ag,aj,rfl,dr,ds,⟨dj,bS,fb,fa⟩,⟨ag,rfl⟩,⟨aj,rfl⟩⟩:=ao.kx c b1;obtain ⟨cg,cx,dB⟩:=dF ad n ab ab _ b1;rw [amH dr.len ds.len,bm bS] at bG;obtain ⟨cU,cX,cF,cG,cH,cI,c5,ar,fi,fe,rfl,ed,eb⟩:=dr.t;obtain ⟨cV,cY,cO,cP,cQ,cR,c6,cZ,fj,ff,rfl,ef,ee⟩:=ds.t;have cL:=bx.up a.up;obtain ⟨aY,⟨cn,dp⟩,a7⟩:=(show l9 [.int .i64 cU,.int .i64 cX,.str cF cG,.str cH cI,c5,ar] ad n from cg) L _ a.tidy cL;obtain ⟨aZ,⟨cp,dq⟩,ca⟩:=(show l9 [.int .i64 cV,.int .i64 cY,.str cO cP,.str cQ cR,c6,cZ] ad n from cx) L _ a.tidy cL;obtain ⟨bp,dX,cb⟩: ∃e,oB (dj.map ah2) e/\ ∀tm,az G (X G R ad n) 151 [.fn (.func 145) [] [.ptr H.n (q 130) 0 1],bj] L tm= .ok e tm L:=by
      have:=dB bj L _ a.tidy (by show F bj (f bj);rw [bm bS];exact bS) cL;have aD:f (M ([.int .i64 cU,.int .i64 cX,.str cF cG,.str cH cI,c5,ar]++ [.int .i64 cV,.int .i64 cY,.str cO cP,.str cQ cR,c6,cZ]++ [bj,.int .i64 ag,.int .i64 aj]) 12)=dj:=bm bS
      rwa [aD] at this
     obtain ⟨eG,bz,⟨eB,eD⟩,eC⟩:=id dX;have de:xb (aY++aZ++ [bp,.int .i64 ag,.int .i64 aj]):=⟨_,_,_,_,_,rfl,cn,cp,⟨eG,bz,eB,eC⟩,⟨_,rfl⟩,⟨_,rfl⟩⟩;rw [<-dp,<-dq,<-eD,<-bm bz,<-amH cn.len cp.len] at bG;have fI:=cn.row;have S:=cp.row;have bd:Rows 15 [aY++aZ++ [bp,.int .i64 ag,.int .i64 aj]]:=λdt bR=>by
      rw [bs.1 bR];refine ⟨ah,λe ae=> ?_⟩;rcases cr.1 ae with ae|ae
      . grind
      . simp only [b2,dG,or_false] at ae;rcases ae with rfl|rfl|rfl
        . exact ⟨bz.J,bz.aI _⟩
        . exact ⟨rfl,rfl⟩
        . exact ⟨rfl,rfl⟩
     have bb:cT G 27 1 [(0,.agg (aY++aZ++ [bp,.int .i64 ag,.int .i64 aj]))] L=some (.A [aY++aZ++ [bp,.int .i64 ag,.int .i64 aj]] true,L):=
      mo (E:=G) (t:=27) (el:=81) (k:=15) (H:=L) aq aq eh al rfl al (.agg (aY++aZ++ [bp,.int .i64 ag,.int .i64 aj])) ⟨(bd _ (bs.2 rfl)).1,ba.2 λe ae=>((bd _ (bs.2 rfl)).2 e ae).1,ba.2 λe ae=>((bd _ (bs.2 rfl)).2 e ae).2⟩
     obtain ⟨eY,aS,cf,aN,-⟩:=a.app (E:=G) (t:=27) (b:=232) (i:=t81) aq aq rfl rfl al al (x:= .A [aY++aZ++ [bp,.int .i64 ag,.int .i64 aj]] true) (aQ:= [_]) (dR (.inr ⟨_,rfl⟩) bd.len) bd (by rw [cy];show _+1<_;omega);have df:(I++ [aY++aZ++ [bp,.int .i64 ag,.int .i64 aj]]).map alp=(aW.take (bk+1)).map alp:=by rw [vR,aC,bG];rfl
     have dg: ∀r∈I++ [aY++aZ++ [bp,.int .i64 ag,.int .i64 aj]],xb r:=λr bc=>(cr.1 bc).elim (cz r) λak=>by rw [bs.1 ak];exact de
     clear bG dp dq de;obtain ⟨fo,fD,fp,fq,fr,fs,fL,fH,fl,fh,rfl,ek,ej⟩:=cn.t;obtain ⟨fm,fC,fw,fx,fy,fA,fK,fG,fk,fg,rfl,ea,dZ⟩:=cp.t;simp only [bl,a6] at bg bb cf aN df dg;have c2:=a.up.get T.tidy.1 c1;refine au.np [47,46,2,4,5,11,45] (λax tm H'=>L=H'/\ ∃dn,M tm 7= .W 0 [.str h v,aF,aG,aH,aJ,aK,K,aR,.str g u,aP,.V,.str j z,.str o B]/\M tm 9= .W dn [.int .i64 cU,.int .i64 cX,.str cF cG,.str cH cI,c5,ar,.int .i64 cV,.int .i64 cY,.str cO cP,.str cQ cR,c6,cZ,bj,.int .i64 ag,.int .i64 aj]/\ax tm) ?_ ?_
     . simp only [go_sem,hF,b5.O,b5.a_ (k:=15) bg rfl,ed.J,eb.J,ef.J,ee.J,bS.J];exact an.mk ⟨rfl,_,by simp only [go_sem,hF];trivial⟩
     clear hF;rintro tm _ ⟨rfl,dn,hF⟩;simp only [go_sem,hF,c2,ck,bS.O,a7,ca,cb,ek.J,ej.J,ea.J,dZ.J,bz.O,bz.J,bz.cells,a.O,bb,bH,cf,aN.O,aN.ok,aN.cs];exact au.next (eY,aS) rfl ⟨_,aN,df,dg⟩ ay
   . rintro ⟨K,L⟩ tm ⟨I,a,aC⟩ hF;simp only at a hF;rw [bX] at aC;simp only [go_sem];exact an.mk ⟨K,I,⟨a,aC⟩,ay⟩
 clear hF;rintro tm L ⟨K,I,⟨aB,dJ⟩,hF⟩;have ei:bN G 64=some (.agg [.str 0 0,.V,.V,.V,.V,.int .i64 0,.int .i64 0]):=aq;refine bn.np [2,4] (λax tm H'=> ∃aw S,(P 64 7 L H' aw S/\S.map ald=aX.map ald/\ ∀r∈S,lI r)/\M tm 7= .W 0 [.str h v,aF,aG,aH,aJ,aK,K,aR,.str g u,aP,aw,.str j z,.str o B]/\ax tm) ?_ ?_
 . simp only [go_sem,hF,b8.O,b8.len];generalize dK:a1 _ _ _ _ _ _ _ _ _ _=ct;revert ct;refine cv [2,4,5,75] (λs=> [(7,.W 0 [.str h v,aF,aG,aH,aJ,aK,K,aR,.str g u,aP,s.1,.str j z,.str o B])]) (λs=>s.2) (λbk s=> ∃S,P 64 7 L s.2 s.1 S/\S.map ald=(aX.take bk).map ald/\ ∀r∈S,lI r) aX.length (.V,L) ⟨[],P.new _ _ aB.tidy,rfl,ai⟩ ?_ ?_
   . clear hF;rintro bk ⟨aw,aS⟩ tm cC ⟨S,a,aC,cz⟩ hF;simp only at a hF|-;have cy:S.length=bk:=by rw [<-di (f:=ald),aC,di,h6];omega
     obtain ⟨c,bg⟩:=bA cC;have b1:=aV bg;obtain ⟨fN,eU,bj,w,dx,ag,aj,rfl,⟨cu,dw,rfl,-⟩,⟨_,dT,_⟩,⟨_,aD,_⟩,⟨_,dY,_⟩,⟨_,dN,_⟩,⟨eS,rfl⟩,⟨eT,rfl⟩⟩:=id (ao.bh c b1);have ep:=bx.up (aB.up.trans a.up);have bG:=Wo ald bg;obtain ⟨aE,⟨ch,dW,dV⟩,a7⟩:=dH ad n ab ab _ b1 aS _ a.tidy ep;have bd:Rows 7 [aE]:=λdt bR=>by rw [bs.1 bR];exact ch
     have bb:cT G 29 1 [(0,.agg aE)] aS=some (.A [aE] true,aS):=
      mo (E:=G) (t:=29) (el:=64) (k:=7) (H:=aS) aq aq ei al rfl al (.agg aE) ⟨ch.1,ba.2 λe ae=>(ch.2 e ae).1,ba.2 λe ae=>(ch.2 e ae).2⟩
     obtain ⟨eZ,du,cf,aN,-⟩:=a.app (E:=G) (t:=29) (b:=128) (i:=t64) aq aq rfl rfl al al (x:= .A [aE] true) (aQ:= [_]) (dR (.inr ⟨_,rfl⟩) bd.len) bd (by rw [cy];show _+1<_;omega);have c2:=a.up.get aB.tidy.1 (aB.up.get T.tidy.1 c1);refine au.np [77,76,2,4,5,75] (λax tm H'=>aS=H'/\ ∃dm,M tm 7= .W 0 [.str h v,aF,aG,aH,aJ,aK,K,aR,.str g u,aP,aw,.str j z,.str o B]/\M tm 11= .W dm [.str cu dw,eU,bj,w,dx,.int .i64 eS,.int .i64 eT]/\ax tm) ?_ ?_
     . simp only [go_sem,hF,b8.O,b8.a_ (k:=7) bg rfl,dT.J,aD.J,dY.J,dN.J];exact an.mk ⟨rfl,_,by simp only [go_sem,hF];trivial⟩
     clear hF;rintro tm _ ⟨rfl,dm,hF⟩;simp only [go_sem,hF,c2,ck,a7,a.O,bb,bH,cf,aN.O,aN.ok,aN.cs];exact au.next (eZ,du) rfl ⟨_,aN,by rw [vR,aC,bG,<-dV];rfl,λr bc=>(cr.1 bc).elim (cz r) λak=>by rw [bs.1 ak];exact dW⟩ ay
   . rintro ⟨aw,aS⟩ tm ⟨S,a,aC⟩ hF;simp only at a hF;rw [bX] at aC;simp only [go_sem];exact an.mk ⟨aw,S,⟨a,aC⟩,ay⟩
 clear hF;rintro tm aS ⟨aw,S,⟨C,dM⟩,hF⟩;simp only [go_sem,hF,T.ok,c7.ok,c8.ok,c9.ok,da.ok,b7.J,b6.J,aB.ok,C.ok];have b4:=aB.up.trans C.up;have bK:=bO.trans bP;have dh:=bK.trans T.up;have aD: ∀ {ar},ar∈ [.str h v,aF,aG,aH,aJ,aK,K,aR,.str g u,aP,aw,.str j z,.str o B]->y H.n 20 (.agg [.str h v,aF,aG,aH,aJ,aK,K,aR,.str g u,aP,aw,.str j z,.str o B])=true->y H.n (18+1) ar=true:=λbJ ak=>IK ak bJ;have e6: ∀ {a7 cS:Nat} {ar eV},P a7 cS af aL ar eV->cc ar K/\cc ar aw:=λak=>⟨ak.pM aB (aT _),ak.pM C aB.up.n⟩;refine bn.mk ⟨⟨aF,aG,aH,aJ,aK,K,aR,aP,aw,I,S,rfl,(T.at C.tidy b4).gc bf bK (aD ai),(c7.at C.tidy b4).gc bf bK (aD ai),(c8.at C.tidy b4).gc bf bK (aD ai),(c9.at C.tidy b4).gc bf bK (aD ai),(da.at C.tidy b4).gc bf bK (aD ai),
  (aB.at C.tidy C.up).gc bf dh (aD ai),cE,cD,C.gc bf (dh.trans aB.up) (aD ai),dJ,dM,?_⟩⟩
 have:=(rH (l₁:= [aF,aG,aH,aJ,aK]) (l₂:= [K,aw])).2 ⟨dU,hq.2 ⟨λar bJ=>by rw [bs.1 bJ];exact (P.pM aB C (aT _)),ai⟩,λar bJ dt bR=> ?_⟩
 . grind
 simp only [b2,dG,or_false] at bJ bR;rcases bJ with rfl|rfl|rfl|rfl|rfl<;>rcases bR with rfl|rfl
 . grind
 . grind
 . grind
 . grind
 . grind
 . grind
 . grind
 all_goals grind
def Vg {d s:List aa} {kN K rop A Q L p O P:Y} (E:fz d s kN K rop A Q L p O P) (ay:kN.length+K.length+rop.length+A.length+Q.length<800000) (aE: ∀r∈rop,nk r) (aD: ∀r∈A,nk r)
    {N:Nat} (hT:bL (eE L p O P) N) (hN:N<50000):bo λad n=> ∀H,Z H->
    ∃w H',FF H H' w kN K rop A Q L p O P (M d 0) (M d 8) (M d 11) (M d 12)/\ ∀tm,az G (X G R ad n) 41 [.agg d] H tm= .ok w tm H':=by
 obtain ⟨aS,ax⟩:=Vf E ay aE aD hT hN;refine ⟨aS+20,λad n aW aX H a=> ?_⟩;obtain ⟨n,rfl⟩:=bY n;obtain ⟨w,aV,aB,D⟩:=ax ad n ab ab H _ a (Tn H) (ZP _);obtain ⟨bf,t,x,a8,v,r,bj,bk,rfl,⟨f,j,rfl,bp,bb⟩,aI,aM,⟨e,i,rfl,bm,ba⟩,aK,aP,⟨g,k,rfl,bq,bc⟩,⟨h,l,rfl,br,bd⟩⟩:=E.eq;obtain ⟨B,q,z,u,C,rfl,aQ,aH,aO,aJ,aR⟩:=E.bT.eq;obtain ⟨S,T,V,W,ae,af,I,F,ag,aT,aU,rfl,ao,aq,ar,au,av,ah,al,ak,aj,aA,aC,aF⟩:=aB.eq;obtain ⟨bh,aN,a1,a7⟩:=id al;obtain ⟨bg,aL,aY,aZ⟩:=id ak;have o:M ([.str f j]++ [B,q,z,u,C]++ [t,x,.str e i,v,r,.str g k,.str h l]) 0= .str f j/\M ([.str f j]++ [B,q,z,u,C]++ [t,x,.str e i,v,r,.str g k,.str h l]) 8= .str e i/\M ([.str f j]++ [B,q,z,u,C]++ [t,x,.str e i,v,r,.str g k,.str h l]) 11= .str g k/\M ([.str f j]++ [B,q,z,u,C]++ [t,x,.str e i,v,r,.str g k,.str h l]) 12= .str h l:=⟨rfl,rfl,rfl,rfl⟩;simp only [o.1,o.2.1,o.2.2.1,o.2.2.2] at D|-;clear o;simp only [bl,a6] at D|-;refine bn.at (m:=4) rfl rfl rfl rfl rfl rfl rfl rfl ?_;simp only [go_sem,aQ.J,aH.J,aO.J,aJ.J,aR.J,aI.J,aM.J,aK.J,aP.J,D,ao.ok,aq.ok,ar.ok,au.ok,av.ok,aN.J,aL.J,ah.ok,aj.ok];have b: ∀ {an},an∈ [.str f j,S,T,V,W,ae,af,I,.str e i,F,ag,.str g k,.str h l]->y H.n 20 (.agg [.str f j,S,T,V,W,ae,af,I,.str e i,F,ag,.str g k,.str h l])=true->y H.n (18+1) an=true:=λaG aw=>IK aw aG;have c:=U.refl H;exact bn.mk ⟨⟨S,T,V,W,ae,af,I,F,ag,aT,aU,rfl,ao.gc a c (b ai),aq.gc a c (b ai),ar.gc a c (b ai),au.gc a c (b ai),av.gc a c (b ai),
  ah.gc a c (b ai),al,ak,aj.gc a c (b ai),aA,aC,aF⟩⟩
def int_ne (j:Nat):((j:Int)==((j+1:Nat):Int))=false:=by simp<;>omega
def I9 {ad n:Nat} {d H:af} {v:aa} {rows:Y} {j:Nat} (c:P 35 6 d H v rows) (q:j<rows.length) (r:rows.length<1048560):
    ∃a H',(fI 35 6 d H' a (rows.eraseIdx j)/\cW a=cW v/\iX d.n v a H H')/\ ∀tm,az G (X G R ad (n+1)) 91 [v,.int .i64 (j:Nat),.int .i64 ((j+1:Nat):Nat)] H tm= .ok a tm H':=by
 obtain ⟨J,L,M,a,F,N,I,f,g,h,i,o,l,⟨K,A,B,C⟩,s,e,x,p,u⟩:=c.del (k:=6) (E:=G) (t:=33) (b:=96) (ti:=t35) (z:= .agg [.int .i64 0,.int .i64 0,.str 0 0,.str 0 0,.V,.V]) aq aq aq rfl rfl al al rfl rfl (λv y n=>fR n 20 20 v al (ba.1 (show (aa.cells (.agg [.int .i64 0,.int .i64 0,.str 0 0,.str 0 0,.V,.V])).all (D 20)=true from rfl) v y)) q r;have w:=int_ne j;refine bn.at (m:=30) rfl rfl rfl rfl rfl (by simp only [aO,c.nl];rfl) rfl rfl ?_;simp only [go_sem,c.O,c.len,f,w,g,h,A,B,i,bH,e.O,s,o,l,C,e.nl,dX,if_true];refine bn.mk ?_;rw [ft (Nat.le_of_eq u)];exact ⟨e,x,p⟩
def Uv {ad n:Nat} {d H:af} {v:aa} {rows:Y} {j:Nat} (c:P 9 1 d H v rows) (q:j<rows.length) (r:rows.length<1048560):
    ∃a H',(fI 9 1 d H' a (rows.eraseIdx j)/\cW a=cW v/\iX d.n v a H H')/\ ∀tm,az G (X G R ad (n+1)) 100 [v,.int .i64 (j:Nat),.int .i64 ((j+1:Nat):Nat)] H tm= .ok a tm H':=by
 obtain ⟨J,L,M,a,F,N,I,f,g,h,i,o,l,⟨K,A,B,C⟩,s,e,x,p,u⟩:=c.del (k:=1) (E:=G) (t:=22) (b:=16) (ti:=t9) (z:= .str 0 0) aq aq aq rfl rfl al al rfl rfl (λv y n=>fR n 20 20 v al (ba.1 (show (aa.cells (.str 0 0)).all (D 20)=true from rfl) v y)) q r;have w:=int_ne j;refine bn.at (m:=30) rfl rfl rfl rfl rfl (by simp only [aO,c.nl];rfl) rfl rfl ?_;simp only [go_sem,c.O,c.len,f,w,g,h,A,B,i,bH,e.O,s,o,l,C,e.nl,dX,if_true];refine bn.mk ?_;rw [ft (Nat.le_of_eq u)];exact ⟨e,x,p⟩
@[go_sem] theorem ag8:s 2 (.string ⟨#[48,49,50,51,52,53,54,55,56,57,97,98,99,100,101,102,103,104,105,106,107,108,109,110,111,112,113,114,115,116,117,118,119,120,121,122]⟩)= .str 36 237927390410950444456928663707796224754864904193074819559483181009558347043374296609072:=aq
theorem QA (i:Nat) (a:i<10):m8 36 237927390410950444456928663707796224754864904193074819559483181009558347043374296609072 (some (.int .i64 (i:Nat))) (some (.int .i64 ((i:Int)+1))) none=some (.str 1 (48+i)):=by
 match i,a with
 |0,_=>rfl
 |1,_=>rfl
 |2,_=>rfl
 |3,_=>rfl
 |4,_=>rfl
 |5,_=>rfl
 |6,_=>rfl
 |7,_=>rfl
 |8,_=>rfl
 |9,_=>rfl
def XY (l m:Nat) (lo a8 tm H):ij G 9 (some TypeDesc.string) (.str l m) lo a8 none tm H=bb (m8 l m lo a8 none) tm H:=by
 have a:=KE G 9 (.str l m) lo a8 none tm H;rw [lA] at a;rw [a];simp only [go_sem]
theorem abA:d G R 306 (λi:Nat=>i<10) (λi=> [.int .i64 (i:Nat)]) (λi=> .str 1 (48+i)):=by refine d.run (m:=14) rfl rfl rfl rfl (λ_=>rfl) (λ_ _=>rfl) rfl rfl 0 λk l h j i c g f=> ?_;have a:decide ((i:Int)<10)=true:=da;have b:IntKind.i64.wrap ((i:Int)+1)=(i:Int)+1:=wrap64 _ ab ab;simp only [go_sem,a,b,XY,QA i c];refine e.mk ?_ f (U.refl _);rfl
theorem abl:d G R 244 (λi:Nat=>i<10) (λi=> [.int .i64 (i:Nat),.int .i64 10]) (λi=> .str 1 (48+i)):=by obtain ⟨k,f⟩:=abA;refine d.run (m:=52) rfl rfl rfl rfl (λ_=>rfl) (λ_ _=>rfl) rfl rfl (k+1) λl n p q i j b a=> ?_;have g:decide (0<=(i:Int))=true:=ai;have h:decide ((i:Int)<100)=true:=da;have c:=λo=>f l n ab ab i j b o a;simp only [go_sem,g,h,c];refine e.mk ?_ a (U.refl _);rfl
theorem abp:d G R 168 (λi:Nat=>i<10) (λi=> [.int .i64 (i:Nat)]) (λi=> .str 1 (48+i)):=by obtain ⟨h,f⟩:=abl;refine d.run (m:=4) rfl rfl rfl rfl (λ_=>rfl) (λ_ _=>rfl) rfl rfl (h+1) λj k n o i g b a=> ?_;have c:=λl=>f j k ab ab i g b l a;simp only [go_sem,c];refine e.mk ?_ a (U.refl _);rfl
theorem Ag:d G R 93 (λi:Nat=>i<10) (λi=> [.int .i64 (i:Nat)]) (λi=> .str 1 (48+i)):=by obtain ⟨h,f⟩:=abp;refine d.run (m:=4) rfl rfl rfl rfl (λ_=>rfl) (λ_ _=>rfl) rfl rfl (h+1) λj k n o i g b a=> ?_;have c:=λl=>f j k ab ab i g b l a;simp only [go_sem,c];refine e.mk ?_ a (U.refl _);rfl
def cn (l m a b:Nat):List aa:= [.int .i64 6,.int .i64 0,.str l m,.str a b,.V,.V]
def cm (l m:Nat) (y:aa):List aa:= [.int .i64 5,.int .i64 0,.str l m,.str 0 0,y,.V]
def eX (y z:aa):List aa:= [.int .i64 7,.int .i64 0,.str 0 0,.str 0 0,y,z]
def Fc:d G R 95 (λ_:Nat×Nat×Nat×Nat=>True) (λp=> [.str p.1 p.2.1,.str p.2.2.1 p.2.2.2]) (λp=> .agg (cn p.1 p.2.1 p.2.2.1 p.2.2.2)):=by
 refine d.run (m:=6) rfl rfl rfl rfl (λ_=>rfl) (λ_ _=>rfl) rfl rfl 0 λk n h i a _ c b=> ?_;obtain ⟨j,l,f,g⟩:=a;simp only [go_sem];exact e.mk rfl b (U.refl _)
def abM (j:Nat) (r:List aa):List aa:=match r with
 | [.str a b]=>cn 2 (88+(48+(j+1))<<<8) a b
 |_=> []
def cp (args:Y):Y:=args.mapIdx abM
def qP (args):(cp args).length=args.length:=List.length_mapIdx
def uv (l m a b:Nat):(cn l m a b).length=6/\ ∀v∈cn l m a b,J v=true/\D 20 v=true:=⟨rfl,λv d=>by
 have c:(cn l m a b).all (λv=>J v&&D 20 v)=true:=rfl;have:=ba.1 c v d;simpa using this⟩
def ki {r:List aa} (a:r.length=6/\ ∀v∈r,J v=true/\D 20 v=true) (H:af):cT G 33 1 [(0,.agg r)] H=some (.A [r] true,H):=
 mo (E:=G) (t:=33) (el:=35) (k:=6) (H:=H) (z:= .agg [.int .i64 0,.int .i64 0,.str 0 0,.str 0 0,.V,.V]) aq aq aq al rfl al (.agg r) ⟨a.1,ba.2 λv b=>(a.2 v b).1,ba.2 λv b=>(a.2 v b).2⟩
def JB:bo λad n=> ∀r l m args ls ms st H,fB r l m args ls ms st->args.length<9->Z H->
    ∃v H',P 35 6 H H' v (cp args)/\ ∀tm,az G (X G R ad n) 89 [.agg r] H tm= .ok v tm H':=by
 obtain ⟨ae,M⟩:=Ag;obtain ⟨af,N⟩:=Fc;refine ⟨ae+af+40,λad n ak ao r l m args ls ms st H w an B=> ?_⟩;obtain ⟨n,rfl⟩:=bY n;obtain ⟨q,aw,e,ar,av,rfl,f,aa,ax,W,-⟩:=w.eq;refine bn.at (m:=24) rfl rfl rfl rfl rfl rfl rfl rfl ?_;simp only [go_sem,f.J,W.J,aa.J,f.O,f.len];generalize aj:a1 _ _ _ _ _ _ _ _ _ _=F;revert F;have hF:=trivial;refine cv [7] (λe=> [(3,e.1)]) (λe=>e.2) (λc e=>P 35 6 H e.2 e.1 ((cp args).take c)) args.length (.V,H) (P.new _ _ B) ?_ ?_
 . rintro c ⟨v,g⟩ tm S a hF;simp only at a hF|-;obtain ⟨C,p⟩:=bA S;have T:=aV p;obtain ⟨h,j,rfl,-⟩:=w.hS C T;have s:=λtm=>M ad n ab ab (c+1) ab g tm a.tidy;have u:=λl m q I tm=>N ad n ab ab (l,m,q,I) trivial g tm a.tidy;simp only at s u;have ah:IntKind.i64.wrap ((c:Int)+1)=((c+1:Nat):Int):=by rw [wrap64 _ ab ab];rfl
   have ai:1+1<=ht:=al;have y:=uv 2 (88+(48+(c+1))<<<8) h j;have Q:=ki y g;have z:Rows 6 [cn 2 (88+(48+(c+1))<<<8) h j]:=λC Y=>by rw [bs.1 Y];exact y
   obtain ⟨ag,D,K,o,-⟩:=a.app (E:=G) (t:=33) (b:=96) (i:=t35) aq aq rfl rfl al al (x:= .A [cn 2 (88+(48+(c+1))<<<8) h j] true) (aQ:= [_]) (dR (.inr ⟨_,rfl⟩) z.len) z (by rw [h6];show _+1<_;omega);have L:(cp args)[c]? =some (cn 2 (88+(48+(c+1))<<<8) h j):=by unfold cp;rw [yO,p];rfl
   rw [<-od L] at o;simp only [go_sem,hF,f.O,f.a_ (k:=1) p rfl,ah,s,ai,u,Q,bH,a.O,K,o.O];exact au.next (ag,D) rfl o ay
 . rintro ⟨v,g⟩ tm a hF;simp only at a hF;rw [<-qP,bX] at a;simp only [go_sem,hF,a.O,a.nl,dX,if_true];exact bn.mk (a.gc B (U.refl _) (d:=19) id)
def fe (l:Nat):Nat:=l+1+1
def gD (l m j:Nat):Nat:=m+39<<<(8*l)+(48+(j+1))<<<(8*(l+1))
def ko (l m:Nat) (args:Y) (ls ms j:Nat):List aa:= [.str (fe l) (gD l m j),.A (args.eraseIdx j) false,.str ls ms,.V,.int .i64 0,.int .i64 0,.V]
theorem DB:bo λad n=> ∀r l m args ls ms st j H,fB r l m args ls ms st->args.length<9->j<args.length->Z H->
  ∀tm,az G (X G R ad n) 60 [.agg r,.int .i64 ((j+1:Nat):Nat)] H tm= .ok (.agg (ko l m args ls ms j)) tm H:=by
 obtain ⟨x,u⟩:=Ag;refine ⟨x+40,λad n I L r l m args ls ms st j H e K d i=> ?_⟩;obtain ⟨n,rfl⟩: ∃y,n=y+1+1:=⟨n-2,ab⟩;obtain ⟨E,T,V,Q,S,rfl,c,w,U,v,-⟩:=e.eq;obtain ⟨A,k,p,q⟩:=I5 (ad:=ad) (n:=n) i c e.hS.rows ab;have h:P 9 1 H k A args:=by
  rcases p.alt with ⟨b,-⟩|⟨-,-,b⟩
  . rw [b] at d;simp at d
  . exact b
 obtain ⟨Y,f,⟨a,M,F⟩,s⟩:=Uv (ad:=ad) (n:=n) h d ab;have g:=λtm=>u ad (n+1) ab ab (j+1) ab f tm a.tidy;simp only at g;have B:IntKind.i64.wrap (((j+1:Nat):Int)-1)=(j:Nat):=by rw [wrap64 _ ab ab];omega
 have N:=e.s1;have C:l+1<=ht:=by unfold ht;omega
 have D:l+1+1<=ht:=by unfold ht;omega
 obtain ⟨o,t,W,z,-⟩:=a.aZ 48 al al;refine jQ (aL.at (m:=21) rfl rfl rfl rfl rfl rfl rfl rfl ?_);simp only [go_sem,c.J,v.J,w.J,c.O,q,B,s,h.O,a.O,g,C,D,a.ok,a.cs];refine .inl ⟨_,rfl,_,f,o,rfl,?_,gV i (z H (aT _) a.up) rfl⟩;refine wB ?_;simp only [cD,Go.aj.zB,Go.aj.wC,Go.aj.Ez,t];rfl
def RA {r:List aa} (f:iz r) (ad n:Nat) (H:af) (g:Z H) (tm:List aa):cx G (X G R ad (n+1)) (.fn (.func 167) [] []) [.agg r] H tm= .ok (.bool (eV 1 107 r)) tm H:=by
 obtain ⟨w,z,k,c,d,rfl,⟨a,b,rfl,-⟩,⟨B,C,rfl,-⟩,j,⟨c,rfl⟩,⟨d,rfl⟩⟩:=f;obtain ⟨v,x,l,o,p,q,A,y,u,s,rfl,i,h⟩:=j.t;simp only [eg,a6,fw,bl];refine fa (aL.at (m:=5) rfl rfl rfl rfl rfl rfl rfl rfl ?_) tm;have e:(a==1&&b==107)=(1==a&&107==b):=ah;simp only [go_sem,i.J,h.J,e];refine ak.mk ?_ rfl g (U.refl _);simp only [go_sem,eV]
def rp (p:Y):Bool:=p.any (eV 1 107)
def Vq {p:Y} (b: ∀r∈p,iz r) (f:p.length<1048560) {ad n:Nat} (d:p.length<ad) {o:aa} (e:F o p) {H:af} (c:Z H):
    ∀tm,az G (X G R ad (n+1+2)) 166 [o,.fn (.func 167) [] []] H tm= .ok (.bool (rp p)) tm H:=
 Uq o _ p (eV 1 107) e (λr a=>(iz.row (b r a)).1) ab rfl (λ_=>rfl) ad (n+1) d H c λr a tm=>RA (b r a) ad n H c tm
def qo {ad n:Nat} {y w:aa} {H H':af} (d:aD y=true) (op: ∀t,O t y=y) (ok:J y=true) (cs:y.cells= [y]) (c:aZ (48+1) y H=some (w,H')) (e:H'.n=H.n) (l m:Nat):
    ∀tm,az G (X G R ad (n+1)) 90 [.str l m,y] H tm= .ok (.agg (cm l m w)) tm H':=by
 have: ∃b a,(b= .agg (cm l m w)/\a=H')/\ ∀tm,az G (X G R ad (n+1)) 90 [.str l m,y] H tm= .ok b tm a:=by refine dJ.at (m:=6) rfl rfl rfl rfl rfl (by simp only [aO,d];rfl) rfl rfl ?_;simp only [go_sem,op,ok,cs];refine dJ.mk (wB (cs':=cm l m w) (H':=H') ?_) ⟨rfl,ft ab⟩;simp only [cD,Go.aj.zB,Go.aj.wC,Go.aj.Ez,c];rfl
 grind
def cM:aa:= .A [cn 1 75 4 1953720652] true
theorem Js:bo λad n=> ∀y rows H,F y rows->Z H-> ∀tm,az G (X G R ad n) 94 [y] H tm= .ok (.agg (eX y cM)) tm H:=by obtain ⟨f,d⟩:=Fc;refine ⟨f+2,λad n g h y rows H a c=> ?_⟩;obtain ⟨n,rfl⟩:=bY n;have b:=λtm=>d ad n ab ab (1,75,4,1953720652) trivial H tm c;simp only at b;have e:=ki (uv 1 75 4 1953720652) H;refine jQ (aL.at (m:=6) rfl rfl rfl rfl rfl (by simp only [aO,a.aD];rfl) rfl rfl ?_);simp only [go_sem,a.O,a.J,a.cells,b,e];refine ak.mk rfl ?_ c (U.refl _);show [aa.int .i64 7,.int .i64 0,.str 0 0,.str 0 0,y,cM].all (D 19)=true;simp only [aO,a.aI];rfl
def wH (p:Y) (a b:aa):List aa:= [.str 1 107,if rp p then .str 0 0 else .str 1 105,.int .i64 7,.int .i64 0,.str 0 0,.str 0 0,a,cM,.A [eX b cM] true,.int .i64 0,.int .i64 0]
def j5 (p:Y) (a nm:Nat) (b c w:aa):List aa:= [.str a nm,.A [wH p b c] true,w,.V,.V,.int .i64 0,.int .i64 0]
def Jt {d s:List aa} {kN aV rop aX a8 aW p aY a7:Y} (j:fz d s kN aV rop aX a8 aW p aY a7):bo λad n=> ∀(f nm:Nat) (c b y w:aa) (L N:Y) (H H':af),F c L->F b N->Z H->aD y=true->(∀t,O t y=y)->J y=true->y.cells= [y]->aZ (48+1) y H=some (w,H')->H'.n=H.n->
    ∀tm,az G (X G R ad n) 92 [.agg d,.str f nm,.agg (eX c cM),.agg (eX b cM),y] H tm= .ok (.agg (j5 p f nm c b w)) tm H':=by
 have aR:p.length<1048560:=by have:=j.iN;omega
 obtain ⟨bk,h,E,bd,C,K,bm,bn,rfl,⟨U,ai,rfl,bq,bg⟩,aH,o,⟨T,ah,rfl,bp,bf⟩,aK,aN,⟨ae,ak,rfl,br,bh⟩,⟨ag,al,rfl,bs,bj⟩⟩:=j.eq;obtain ⟨Q,r,I,u,S,rfl,aP,aG,aL,aJ,aQ⟩:=j.bT.eq;refine ⟨p.length+20,λad n ba bb f nm c b y w L N H H' i l aF aT aU ok ao ax bc=> ?_⟩;obtain ⟨n,rfl⟩: ∃aS,n=aS+1+2+1:=⟨n-4,ab⟩;have aq:=Vq j.b9 aR (ad:=ad) (n:=n) ab o aF;simp only [bl,a6];have a1:(eX b cM).length=6/\ ∀a∈eX b cM,J a=true/\D 20 a=true:=⟨rfl,λa aC=>by
  have ar:(eX b cM).all (λa=>J a&&D 20 a)=true:=by show [aa.int .i64 7,.int .i64 0,.str 0 0,.str 0 0,b,cM].all (λa=>J a&&D 20 a)=true;simp only [aO,l.J,l.aI];rfl
  grind⟩
 have z:=ki a1 H;have P:J cM=true:=rfl;have q: ∀g:aa,J g=true->D 20 g=true->([.str 1 107,g,.int .i64 7,.int .i64 0,.str 0 0,.str 0 0,c,cM,.A [eX b cM] true,.int .i64 0,.int .i64 0]:List aa).length=11/\ ∀a∈([.str 1 107,g,.int .i64 7,.int .i64 0,.str 0 0,.str 0 0,c,cM,.A [eX b cM] true,.int .i64 0,.int .i64 0]:List aa),J a=true/\D 20 a=true:=λg au aw=>⟨rfl,λa aC=>by
  have ar:([.str 1 107,g,.int .i64 7,.int .i64 0,.str 0 0,.str 0 0,c,cM,.A [eX b cM] true,.int .i64 0,.int .i64 0]:List aa).all (λa=>J a&&D 20 a)=true:=by simp only [aO,i.J,i.aI,au,aw];rfl
  grind⟩
 have aA:=xx (q (.str 0 0) rfl rfl) H;have aB:=xx (q (.str 1 105) rfl rfl) H;have: ∃a e,(a= .agg (j5 p f nm c b w)/\e=H')/\ ∀tm,az G (X G R ad (n+1+2+1)) 92 [.agg [.str U ai,Q,r,I,u,S,h,E,.str T ah,C,K,.str ae ak,.str ag al],.str f nm,.agg (eX c cM),.agg (eX b cM),y] H tm= .ok a tm e:=by
  refine dJ.at (m:=21) rfl rfl rfl rfl rfl (by simp only [aO,aT];rfl) rfl rfl ?_;simp only [eX] at z aA aB|-;refine dJ.bM (λtm e=>H=e/\aM 26 [(1,.str f nm),(4,y),(5,.W 0 [.str U ai,Q,r,I,u,S,h,E,.str T ah,C,K,.str ae ak,.str ag al]),(10,.W 0 [.str 0 0,.V,.V,.V,.V,.int .i64 0,.int .i64 0]),(7,.W 0 [.int .i64 7,.int .i64 0,.str 0 0,.str 0 0,c,cM]),(8,.W 0 [.int .i64 7,.int .i64 0,.str 0 0,.str 0 0,b,cM]),(11,.av [])] tm) ?_ ?_
  . simp only [go_sem,aP.J,aG.J,aL.J,aJ.J,aQ.J,aH.J,o.J,aK.J,aN.J,i.J,l.J,P];exact an.mk ⟨rfl,dC⟩
  rintro tm _ ⟨rfl,hF⟩;refine dJ.np [1,4,5,10] (λk tm e=>H=e/\M tm 11= .W 0 [.str 1 107,.str 0 0,.int .i64 7,.int .i64 0,.str 0 0,.str 0 0,c,cM,.A [[.int .i64 7,.int .i64 0,.str 0 0,.str 0 0,b,cM]] true,.int .i64 0,.int .i64 0]/\k tm) ?_ ?_
  . simp only [go_sem,hF,i.J,P,z];exact an.mk ⟨rfl,ay⟩
  clear hF;rintro tm _ ⟨rfl,hF⟩;refine dJ.np [1,4,5,10] (λk tm e=>H=e/\M tm 11= .W 0 [.str 1 107,(if rp p then .str 0 0 else .str 1 105),.int .i64 7,.int .i64 0,.str 0 0,.str 0 0,c,cM,.A [[.int .i64 7,.int .i64 0,.str 0 0,.str 0 0,b,cM]] true,.int .i64 0,.int .i64 0]/\k tm) ?_ ?_
  . simp only [go_sem,hF,o.O,aq];refine an.aE ?_ ?_<;>intro v<;>simp only [go_sem,hF,v]
    all_goals (refine an.mk ⟨rfl,?_⟩;simp only [go_sem,hF,v])
  clear hF;rintro tm _ ⟨rfl,hF⟩;have x:J (if rp p then aa.str 0 0 else .str 1 105)=true/\D 20 (if rp p then aa.str 0 0 else .str 1 105)=true:=by split<;>exact ⟨rfl,rfl⟩
  have B:=xx (q _ x.1 x.2) H;simp only [go_sem,hF,eX] at B|-;simp only [go_sem,hF,aU,B,ok,ao];refine dJ.mk (wB (cs':=j5 p f nm c b w) (H':=H') ?_) ⟨rfl,ft ab⟩;simp only [cD,Go.aj.zB,Go.aj.wC,Go.aj.Ez,Go.aj.uc,ax];rfl
 obtain ⟨_,_,⟨rfl,rfl⟩,h⟩:=this;exact h
def j7:List aa->Int
 | [.int _ a]=>a
 |_=>0
def jA (args:Y) (i:Int):List aa:=((cp args)[(i-1).toNat]?).getD []
def fb (r:List aa):List aa:=cm 7 28558080999846761 (.A [r] true)
def n2 (r:List aa):List aa:=cm 3 7630702 (.A [fb r] true)
def lQ (args st:Y) (a:Nat) (j:Nat):Y:=((st.take a).map λb=>fb (jA args (j7 b)))++ [n2 (jA args ((j+1:Nat):Int))]
def gX (p:Y) (l m:Nat) (args st:Y) (a j:Nat):List aa:=
 j5 p (l+6+1) (m+104953454880863<<<(8*l)+(48+(j+1))<<<(8*(l+6))) (.A [cm l m (dk (cp args))] true) (.A [jA args ((j+1:Nat):Int),cm (fe l) (gD l m j) (.A ((cp args).eraseIdx j) false)] true) (dk (lQ args st a j))
def Fi {args:Y} {i:Int} (a:1<=i) (b:i<=args.length):(cp args)[(i-1).toNat]? =some (jA args i):=by
 unfold jA;have:(i-1).toNat<(cp args).length:=by rw [qP];omega
 simp_all
def Ni {args:Y} (e:b8 args):Rows 6 (cp args):=λj a=>by
 unfold cp at a;obtain ⟨i,f,b⟩:=anH.1 a;obtain ⟨g,h,c,-⟩:=e _ (List.getElem_mem f);rw [<-b,c];exact uv _ _ _ _
def M5 {args:Y} {i:Int} (a:1<=i) (b:i<=args.length):jA args i∈cp args:=aV (Fi a b)
def M4 {args:Y} (h:b8 args) {i:Int} (j:1<=i) (k:i<=args.length): ∃a b c d,jA args i=cn a b c d:=by
 have e:=M5 j k;unfold cp at e;obtain ⟨m,l,f⟩:=anH.1 e;obtain ⟨a,b,g,-⟩:=h _ (List.getElem_mem l);rw [<-f,g];exact ⟨_,_,_,_,rfl⟩
def qN (l m:Nat) {y:aa} (a:J y=true/\D 20 y=true):(cm l m y).length=6/\ ∀v∈cm l m y,J v=true/\D 20 v=true:=⟨rfl,λv b=>by
 have a:(cm l m y).all (λv=>J v&&D 20 v)=true:=by show [aa.int .i64 5,.int .i64 0,.str l m,.str 0 0,y,.V].all (λv=>J v&&D 20 v)=true;simp only [aO,a.1,a.2];rfl
 grind⟩
def tZ (r:Y) (c:Bool):J (.A r c)=true/\D 20 (.A r c)=true:=⟨rfl,rfl⟩
def Gj {r q:List aa} (b:r.length=6/\ ∀v∈r,J v=true/\D 20 v=true) (g:q.length=6/\ ∀v∈q,J v=true/\D 20 v=true) (H:af):cT G 33 2 [(0,.agg r),(1,.agg q)] H=some (.A [r,q] true,H):=
 uX (E:=G) (t:=33) (el:=35) (k:=6) (H:=H) (z:= .agg [.int .i64 0,.int .i64 0,.str 0 0,.str 0 0,.V,.V]) aq aq aq al rfl al (.agg r) (.agg q) ⟨b.1,ba.2 λv a=>(b.2 v a).1,ba.2 λv a=>(b.2 v a).2⟩ ⟨g.1,ba.2 λv a=>(g.2 v a).1,ba.2 λv a=>(g.2 v a).2⟩
def fI.mono {el k:Nat} {a b H:af} {v:aa} {rows:Y} (l:fI el k b H v rows) (c:U a b):fI el k a H v rows:=by
 obtain ⟨⟨id,j,d,h,i,e,f⟩,g,m,o⟩:=l;exact ⟨⟨id,j,d,h,i,eT c.n e,f⟩,g,m,c.trans o⟩
def ps (args:Y) (j:Nat):List aa:=match args[j]? with
 |some [.str a b]=>cn 1 86 a b
 |_=> []
def kl (p:Y) (l m:Nat) (args:Y) (j:Nat):List aa:=
 j5 p (l+6+1) (m+104919330677599<<<(8*l)+(48+(j+1))<<<(8*(l+6))) (.A [ps args j,cm (fe l) (gD l m j) (.A ((cp args).eraseIdx j) false)] true) (.A [cm l m (dk ((cp args).set j (ps args j)))] true) (.A [fb (ps args j)] true)
def P.aaI {el k:Nat} {a H:af} {v:aa} {rows:Y} (b:P el k a H v rows) {j:Nat} {r:List aa} (i:rows[j]? =some r) (vs:List aa) (l:vs.length=k) (m: ∀v∈vs,J v=true/\D 20 v=true):
    ∃p H',kA k v (.int .i64 (j:Nat))=some p/\(∀t,Go.aj.O t p=p)/\fh p=true/\(∀tm,hf k p vs tm H= .ok (.av []) tm H')/\P el k a H' v (rows.set j vs)/\iX a.n v v H H':=by
 have q:j<rows.length:=ah;have u:=b.rw.len r ah;obtain ⟨id,g,d,o,H',rfl,-,-,-,-,c,e,h⟩:=b.st i 0 vs ab m;have f:putAt 0 vs r=vs:=by
  unfold putAt
  grind
 rw [f] at e;rw [l] at c;refine ⟨.ptr id g (0+j*k) (0+j*k+k),H',?_,λ_=>rfl,rfl,c,e,h⟩;show (if k=k/\j<rows.length then _ else _)=_
 grind
section
variable {d s:List aa} {kN aw rop ao aJ ahJ p aU ahI:Y} (aX:fz d s kN aw rop ao aJ ahJ p aU ahI)
include aX
theorem Vr:bo λad n=> ∀r l m args ls ms st (a j:Nat) H,fB r l m args ls ms st->args.length<=8->(∀q∈st,∃i:Int,q= [.int .i64 i]/\1<=i/\i<=args.length)->st.length<=8->st[a]? =some [.int .i64 ((j+1:Nat):Int)]->Z H->
  ∀tm,az G (X G R ad n) 54 [.agg d,.agg r,.int .i64 (a:Nat)] H tm= .ok (.agg (gX p l m args st a j)) tm H:=by
 obtain ⟨c3,bW⟩:=JB;obtain ⟨c4,cB⟩:=Ag;obtain ⟨c5,cC⟩:=DB;obtain ⟨c6,bX⟩:=Js;obtain ⟨c7,bY⟩:=Jt aX;have cE:=aX.eq;obtain ⟨dV,a8,bh,dP,bg,bn,ea,ed,rfl,⟨bx,bC,rfl,ef,dS⟩,cU,cY,⟨bw,bB,rfl,ee,dQ⟩,cX,c0,⟨bz,bD,rfl,eg,dT⟩,⟨bA,bE,rfl,eh,dU⟩⟩:=cE;obtain ⟨bq,a7,bj,bc,bu,rfl,c1,cT,cZ,cV,c2⟩:=aX.bT.eq;refine ⟨c3+c4+c5+c6+c7+40,λad n dE dH r l m args ls ms st a j H L dF b6 dN b1 b7=> ?_⟩;obtain ⟨n,rfl⟩: ∃c8,n=c8+1+1:=⟨n-2,ab⟩;obtain ⟨aZ,bk,bp,bm,ac,rfl,cD,aH,dZ,cK,-⟩:=L.eq;have dD:a<st.length:=ah;obtain ⟨dO,bJ,b0,cH⟩:=b6 _ (aV b1);simp only [jn,aa.int.injEq,true_and,and_true] at bJ;subst bJ;have cI:j<args.length:=ab;obtain ⟨aN,F,z,cj⟩:=bW ad (n+1) ab ab _ l m args ls ms st H L ab b7;have aB:=Ni L.hS;have dM:=qP args;have ar:=Fi (args:=args) b0 ab;have ct:(((j+1:Nat):Int)-1).toNat=j:=ab;rw [ct] at ar;obtain ⟨ei,cS,aT⟩:=aH.fG (k:=1) ah (j:=a) ab;have dG:=L.s1;simp only [bl,a6] at bY|-;refine jQ (aL.at (m:=83) rfl rfl rfl rfl rfl rfl rfl rfl ?_);have ej:List aa:= [];refine ak.bM (λtm h=>H=h/\aM 86 [(2,.int .i64 (a:Nat)),(3,.W 0 [.str bx bC,bq,a7,bj,bc,bu,a8,bh,.str bw bB,bg,bn,.str bz bD,.str bA bE]),(4,.W 0 [.str l m,aZ,.str ls ms,bk,.int .i64 bm,.int .i64 ac,bp]),(6,.W 0 [.str 0 0,.V,.V,.V,.V,.int .i64 0,.int .i64 0])] tm) ?_ ?_
 . simp only [go_sem,c1.J,cT.J,cZ.J,cV.J,c2.J,cU.J,cY.J,cX.J,c0.J,cD.J,cK.J,aH.J];exact an.mk ⟨rfl,dC⟩
 rintro tm _ ⟨rfl,hF⟩;refine ak.bF hF (λN tm h=>H=h/\aM 86 [(7,.int .i64 ((j+1:Nat):Int))] tm/\N tm) ?_ ?_
 . simp only [go_sem,hF,aH.O,aH.a_ (k:=1) b1 rfl];exact an.mk ⟨rfl,ay⟩
 clear hF;rintro tm _ ⟨rfl,hF⟩;refine ak.bM (λtm h=>F=h/\aM 86 [(2,.int .i64 (a:Nat)),(3,.W 0 [.str bx bC,bq,a7,bj,bc,bu,a8,bh,.str bw bB,bg,bn,.str bz bD,.str bA bE]),(4,.W 0 [.str l m,aZ,.str ls ms,bk,.int .i64 bm,.int .i64 ac,bp]),(6,.W 0 [.str 0 0,.V,.V,.V,.V,.int .i64 0,.int .i64 0]),(7,.int .i64 ((j+1:Nat):Int)),(8,aN)] tm) ?_ ?_
 . simp only [go_sem,hF,cj,z.O];exact an.mk ⟨rfl,ay⟩
 clear hF;rintro tm _ ⟨rfl,hF⟩;refine ak.bF hF (λN tm h=>F=h/\aM 86 [(9,.V)] tm/\N tm) ?_ ?_
 . simp only [go_sem];exact an.mk ⟨rfl,ay⟩
 clear hF;rintro tm _ ⟨rfl,hF⟩;refine ak.np [3,4,6,7,8] (λN tm h=> ∃u,P 35 6 F h u ((st.take a).map λq=>fb (jA args (j7 q)))/\M tm 9=u/\N tm) ?_ ?_
 . simp only [go_sem,hF,aH.O,cS,aT.len,aT.O];generalize dA:a1 _ _ _ _ _ _ _ _ _ _=cg;revert cg;refine cv (σ:=aa×af) [3,4,6,7,8,23] (λs=> [(9,s.1)]) (λs=>s.2) (λi s=>P 35 6 F s.2 s.1 (((st.take a).map λq=>fb (jA args (j7 q))).take i)) (st.take a).length (.V,F) (P.new _ _ z.tidy) (hlf:=ah) (hN:=ah) ?_ ?_
   . clear hF;rintro i ⟨u,v⟩ tm dB K hF;simp only at K hF|-;obtain ⟨q,bf⟩: ∃r,(st.take a)[i]? =some r:=ah;have cJ:=hQ (aV bf);obtain ⟨cf,rfl,b8,b9⟩:=b6 q cJ;have cR:=Fi (args:=args) b8 b9;have aP:IntKind.i64.wrap (cf-1)=(((cf-1).toNat:Nat):Int):=by rw [wrap64 _ ab ab];omega
     obtain ⟨aK,aA,aE,ae,-⟩:=(z.at K.tidy K.up).cw.at aB.len cR;obtain ⟨c,e,f,g,av⟩:=M4 L.hS b8 b9;have aF:=uv c e f g;rw [av] at ae;have aD:=ki aF v;have aC:=λtm=>qo (ad:=ad) (n:=n) (y:= .A [cn c e f g] true) (H:=v) rfl (λ_=>rfl) rfl rfl (Go.aj.uc _ _ _ _) rfl 7 28558080999846761 tm;have ag:=qN 7 28558080999846761 (tZ [cn c e f g] true);have B:=ki ag v;have aG:Rows 6 [fb (cn c e f g)]:=λq bd=>by rw [bs.1 bd];exact ag
     obtain ⟨bt,Q,w,Y,-⟩:=K.app (E:=G) (t:=33) (b:=96) (i:=t35) aq aq rfl rfl al al (x:= .A [fb (cn c e f g)] true) (aQ:= [_]) (dR (.inr ⟨_,rfl⟩) aG.len) aG (by rw [h6,di,h6];show _+1<_;omega);have cu:((st.take a).map λq=>fb (jA args (j7 q)))[i]? =some (fb (cn c e f g)):=by rw [hO,bf,<-av];rfl
     rw [<-od cu] at Y;simp only [fb] at w;simp only [go_sem,hF,aT.O,aT.a_ (k:=1) bf rfl,z.O,aP,aA,aE,ae,cn] at aD aC B w|-;simp only [go_sem,hF,aD,bH,aC,B,K.O,w,Y.O,cm] at B w|-;exact au.next (bt,Q) rfl Y ay
   . rintro ⟨u,v⟩ tm K hF;simp only at K hF;rw [fT ai] at K;simp only [go_sem];exact an.mk ah
 clear hF;rintro tm v ⟨u,o,hF⟩;obtain ⟨c,e,f,g,av⟩:=M4 L.hS b0 cH;have aF:=uv c e f g;have aP:IntKind.i64.wrap (((j+1:Nat):Int)-1)=(j:Nat):=by rw [wrap64 _ ab ab];omega
 rw [av] at ar;refine ak.bM (λtm h=> ∃u,P 35 6 F h u (lQ args st a j)/\aM 86 [(3,.W 0 [.str bx bC,bq,a7,bj,bc,bu,a8,bh,.str bw bB,bg,bn,.str bz bD,.str bA bE]),(4,.W 0 [.str l m,aZ,.str ls ms,bk,.int .i64 bm,.int .i64 ac,bp]),(6,.W 0 [.str 0 0,.V,.V,.V,.V,.int .i64 0,.int .i64 0]),(7,.int .i64 ((j+1:Nat):Int)),(8,aN),(9,u)] tm) ?_ ?_
 . obtain ⟨aK,aA,aE,ae,-⟩:=(z.at o.tidy o.up).cw.at aB.len ar;have aD:=ki aF v;have aC:=λtm=>qo (ad:=ad) (n:=n) (y:= .A [cn c e f g] true) (H:=v) rfl (λ_=>rfl) rfl rfl (Go.aj.uc _ _ _ _) rfl 7 28558080999846761 tm;have ag:=qN 7 28558080999846761 (tZ [cn c e f g] true);have B:=ki ag v;have bb:=λtm=>qo (ad:=ad) (n:=n) (y:= .A [cm 7 28558080999846761 (.A [cn c e f g] true)] true) (H:=v) rfl (λ_=>rfl) rfl rfl (Go.aj.uc _ _ _ _) rfl 3 7630702 tm;have b5:=qN 3 7630702 (tZ [cm 7 28558080999846761 (.A [cn c e f g] true)] true);have aS:=ki b5 v;have aG:Rows 6 [n2 (cn c e f g)]:=λq bd=>by rw [bs.1 bd];exact b5
   obtain ⟨bt,Q,w,Y,-⟩:=o.app (E:=G) (t:=33) (b:=96) (i:=t35) aq aq rfl rfl al al (x:= .A [n2 (cn c e f g)] true) (aQ:= [_]) (dR (.inr ⟨_,rfl⟩) aG.len) aG ah;have ba:((st.take a).map λq=>fb (jA args (j7 q)))++ [n2 (cn c e f g)]=lQ args st a j:=by unfold lQ;rw [av]
   rw [ba] at Y;simp only [n2,fb] at w;simp only [go_sem,hF,z.O,aP,aA,aE,ae,cn] at aD aC B bb aS w|-;simp only [go_sem,hF,aD,bH,aC,cm] at B bb aS w|-;simp only [go_sem,hF,B,bH,bb,aS,o.O,w,Y.O] at aS w|-;exact an.mk ⟨bt,Y,ay⟩
 clear hF o;rintro tm Q ⟨u,o,hF⟩;obtain ⟨ec,dt,bV,ck⟩:=bW ad (n+1) ab ab _ l m args ls ms st Q L ab o.tidy;obtain ⟨cd,bG,⟨I,dL,dz⟩,ba⟩:=I9 (ad:=ad) (n:=n) bV (j:=j) ab ab;refine ak.bF hF (λN tm h=>bG=h/\aM 86 [(12,cd)] tm/\N tm) ?_ ?_
 . simp only [go_sem,hF,ck,aP,bV.O,ba,I.O];exact an.mk ⟨rfl,ay⟩
 clear hF;rintro tm _ ⟨rfl,hF⟩;have C:=z.at I.tidy (o.up.trans I.up);obtain ⟨aY,df,aW,cc,dW,c9,ca⟩:=C.r2 48 al al;have dw: ∀id,cW cd=some id->Q.n<=id:=λid ax=>(I.ge ax).1;have dv: ∀id,cW aN=some id->id<F.n:=λid ax=>z.W.lt ax;have dx: ∀id,cW u=some id->F.n<=id/\id<Q.n:=λid ax=>⟨o.W.ge ax,o.W.lt ax⟩;have dy:=o.up.n;have cP:U H Q:=z.up.trans o.up;have S:=(I.mono cP).bS aW (cc H ab C.up) ah;have cz:=(o.at I.tidy I.up).mono z.up;have cA:=cz.bS aW (cc H ab C.up) ah;obtain ⟨aR,dg,br,dm,dX,da⟩:=S.r2 48 al al;have T:=cA.bS br (dm H ab S.up) ah;obtain ⟨bI,dh,eb,dn,dY,db,-⟩:=T.r2 48 al al;have bL:=λtm=>qo (ad:=ad) (n:=n) C.nl C.O C.ok C.cs df c9 l m tm;have b4:=qN l m (y:=dk (cp args)) ⟨(fW _).J,(fW _).aI _⟩;have bZ:=ki b4 aY;have bN:=λtm=>bX ad (n+1) ab ab (.A [cm l m (dk (cp args))] true) _ aY (.inr ⟨_,rfl⟩) aW tm;obtain ⟨aK,aA,aE,ae,-⟩:=ca.at aB.len ar;have bO:=λtm=>cC ad (n+1) ab ab _ l m args ls ms st j aY L ab cI aW tm;have bP:=λtm=>qo (ad:=ad) (n:=n) S.nl S.O S.ok S.cs dg da (fe l) (gD l m j) tm;have ag:=qN (fe l) (gD l m j) (tZ ((cp args).eraseIdx j) false);have B:=Gj aF ag aR;have bQ:=λtm=>bX ad (n+1) ab ab (.A [cn c e f g,cm (fe l) (gD l m j) (.A ((cp args).eraseIdx j) false)] true) _ aR (.inr ⟨_,rfl⟩) br tm;have bR:=λtm=>bY ad (n+1) ab ab (l+6+1) (m+104953454880863<<<(8*l)+(48+(j+1))<<<(8*(l+6))) (.A [cm l m (dk (cp args))] true) (.A [cn c e f g,cm (fe l) (gD l m j) (.A ((cp args).eraseIdx j) false)] true) u (dk (lQ args st a j)) _ _ aR bI (.inr ⟨_,rfl⟩) (.inr ⟨_,rfl⟩) br T.nl T.O T.ok T.cs dh db tm;have bK:=λtm=>cB ad (n+1) ab ab (j+1) ab bG tm I.tidy;simp only at bK;have dp:l+6<=ht:=by unfold ht;omega
 have dq:l+6+1<=ht:=by unfold ht;omega
 have cF:gX p l m args st a j=j5 p (l+6+1) (m+104953454880863<<<(8*l)+(48+(j+1))<<<(8*(l+6))) (.A [cm l m (dk (cp args))] true) (.A [cn c e f g,cm (fe l) (gD l m j) (.A ((cp args).eraseIdx j) false)] true) (dk (lQ args st a j)):=by unfold gX;rw [av]
 rw [cF];have ds:=(fW (lQ args st a j)).J;have dr:=(fW (lQ args st a j)).aI 18;generalize dk (lQ args st a j)=ch at*;generalize dk (cp args)=du at*;have cQ:=dn H ab T.up;have bU:=k7 b4;have cx:=k7 aF;have cy:=k7 ag;have cL:=CI aA;have cb:cG aR 6 aN (cp args):=ca.bS ah;have dj:cG bI 6 aN (cp args):=cb.bS ah;obtain ⟨dc,dI,-,b2,-⟩:=C.cw.at aB.len ar;obtain ⟨dd,dJ,-,b3,-⟩:=cb.at aB.len ar;obtain ⟨de,dK,-,cM,-⟩:=dj.at aB.len ar;have cl:dc=aK:=ah;have cq:dd=aK:=ah;have cr:de=aK:=ah;subst cl cq cr;have cO:f_ (some (.agg [.int .i64 6,.int .i64 0,.str c e,.str f g,.V,.V])) (some (.agg [.int .i64 6,.int .i64 0,.str c e,.str f g,.V,.V]))=true:=by simp [f_,cN,eu]
 simp only [eX,cn,cm,ko,j5] at bZ B bL bN bO bP bQ bR ae b2 b3 cM bU cx cy|-;simp only [go_sem,hF,aP,dp,dq,bK,bL,bZ,bH,bN,C.O,aA,aE,ae,bO,bP,S.O,B,bQ,T.O,bR,ds,bU,cL,b2,b3,cO];refine ak.mk rfl ?_ b7 cQ;show List.all [_,_,ch,_,_,_,_] (D 19)=true;simp only [aO,dr];rfl
theorem Vd:bo λad n=> ∀r l m args ls ms st (j:Nat) H,fB r l m args ls ms st->args.length<=8->j<args.length->Z H->
  ∀tm,az G (X G R ad n) 55 [.agg d,.agg r,.int .i64 ((j+1:Nat):Nat)] H tm= .ok (.agg (kl p l m args j)) tm H:=by
 obtain ⟨bO,aP⟩:=JB;obtain ⟨bP,bp⟩:=Ag;obtain ⟨bQ,bq⟩:=DB;obtain ⟨bR,aQ⟩:=Js;obtain ⟨bU,aR⟩:=Jt aX;obtain ⟨bV,br⟩:=Fc;have bt:=aX.eq;obtain ⟨cw,B,L,cq,K,Q,cC,cE,rfl,⟨af,au,rfl,cG,ct⟩,bD,bI,⟨ae,ar,rfl,cF,cr⟩,bG,bK,⟨ag,ax,rfl,cH,cu⟩,⟨aq,aA,rfl,cI,cv⟩⟩:=bt;obtain ⟨T,z,M,C,Y,rfl,bL,bC,bJ,bE,bN⟩:=aX.bT.eq;refine ⟨bO+bP+bQ+bR+bU+bV+40,λad n cd ch r l m args ls ms st j H i cf bw I=> ?_⟩;obtain ⟨n,rfl⟩: ∃bW,n=bW+1+1:=⟨n-2,ab⟩;obtain ⟨x,N,S,P,ac,rfl,F,bz,cB,bx,-⟩:=i.eq;obtain ⟨bZ,aY⟩: ∃r,args[j]? =some r:=⟨args[j],ai⟩;obtain ⟨a,b,rfl,-⟩:=i.hS bZ ah;have bs:ps args j=cn 1 86 a b:=by unfold ps;rw [aY]
 have q:=uv 1 86 a b;obtain ⟨U,bd,D,bf⟩:=aP ad (n+1) ab ab _ l m args ls ms st H i ab I;have ck:=Ni i.hS;have cl:=qP args;obtain ⟨cJ,bB⟩: ∃r,(cp args)[j]? =some r:=ah;have aa:IntKind.i64.wrap (((j+1:Nat):Int)-1)=(j:Nat):=by rw [wrap64 _ ab ab];omega
 have cg:=i.s1;simp only [bl,a6] at aR|-;refine jQ (aL.at (m:=54) rfl rfl rfl rfl rfl rfl rfl rfl ?_);refine ak.bM (λtm c=>H=c/\aM 57 [(2,.int .i64 ((j+1:Nat):Int)),(3,.W 0 [.str af au,T,z,M,C,Y,B,L,.str ae ar,K,Q,.str ag ax,.str aq aA]),(4,.W 0 [.str l m,x,.str ls ms,N,.int .i64 P,.int .i64 ac,S]),(6,.W 0 [.str 0 0,.V,.V,.V,.V,.int .i64 0,.int .i64 0]),(7,.av [])] tm) ?_ ?_
 . simp only [go_sem,bL.J,bC.J,bJ.J,bE.J,bN.J,bD.J,bI.J,bG.J,bK.J,F.J,bx.J,bz.J];exact an.mk ⟨rfl,dC⟩
 rintro tm _ ⟨rfl,hF⟩;have o:=λtm=>br ad (n+1) ab ab (1,86,a,b) trivial H tm I;simp only at o;refine ak.bM (λtm c=>H=c/\aM 57 [(2,.int .i64 ((j+1:Nat):Int)),(3,.W 0 [.str af au,T,z,M,C,Y,B,L,.str ae ar,K,Q,.str ag ax,.str aq aA]),(4,.W 0 [.str l m,x,.str ls ms,N,.int .i64 P,.int .i64 ac,S]),(6,.W 0 [.str 0 0,.V,.V,.V,.V,.int .i64 0,.int .i64 0]),(7,.W 0 (cn 1 86 a b))] tm) ?_ ?_
 . simp only [go_sem,hF,F.O,F.a_ (k:=1) aY rfl,aa,o,cn];exact an.mk ⟨rfl,ay⟩
 clear hF;rintro tm _ ⟨rfl,hF⟩;refine ak.bF hF (λv tm c=>bd=c/\aM 57 [(8,U)] tm/\v tm) ?_ ?_
 . simp only [go_sem,hF,bf,D.O];exact an.mk ⟨rfl,ay⟩
 clear hF;rintro tm _ ⟨rfl,hF⟩;obtain ⟨cz,t,b6,b7,cK,bc,u,-⟩:=D.aaI bB (cn 1 86 a b) q.1 q.2;refine ak.bM (λtm c=>t=c/\aM 57 [(2,.int .i64 ((j+1:Nat):Int)),(3,.W 0 [.str af au,T,z,M,C,Y,B,L,.str ae ar,K,Q,.str ag ax,.str aq aA]),(4,.W 0 [.str l m,x,.str ls ms,N,.int .i64 P,.int .i64 ac,S]),(6,.W 0 [.str 0 0,.V,.V,.V,.V,.int .i64 0,.int .i64 0]),(7,.W 0 (cn 1 86 a b)),(8,U)] tm) ?_ ?_
 . simp only [cn] at hF bc;simp only [go_sem,hF,aa,D.O,b6,b7,bc];exact an.mk ⟨rfl,by simp only [go_sem,hF,cn]⟩
 clear hF;rintro tm _ ⟨rfl,hF⟩;obtain ⟨cD,b8,aO,bg⟩:=aP ad (n+1) ab ab _ l m args ls ms st t i ab u.tidy;obtain ⟨bb,w,⟨g,cj,cc⟩,bh⟩:=I9 (ad:=ad) (n:=n) aO (j:=j) ab ab;refine ak.bF hF (λv tm c=>w=c/\aM 57 [(9,bb)] tm/\v tm) ?_ ?_
 . simp only [go_sem,hF,bg,aa,aO.O,bh,g.O];exact an.mk ⟨rfl,ay⟩
 clear hF;rintro tm _ ⟨rfl,hF⟩;have cb: ∀id,cW bb=some id->t.n<=id:=λid E=>(g.ge E).1;have ca: ∀id,cW U=some id->id<t.n:=λid E=>u.W.lt E;have bn:=u.at g.tidy g.up;have h:=g.mono u.up;obtain ⟨aB,b1,a8,b2,cx,bX⟩:=h.r2 48 al al;have f:=bn.bS a8 (b2 H ab h.up) ah;obtain ⟨e,b0,ba,b3,cy,bY,cA⟩:=f.r2 48 al al;have aZ:=qN l m (y:=dk ((cp args).set j (cn 1 86 a b))) ⟨(fW _).J,(fW _).aI _⟩;have aS:=ki aZ e;have a1:=qN (fe l) (gD l m j) (tZ ((cp args).eraseIdx j) false);have aT:=Gj q a1 aB;have a7:=qN 7 28558080999846761 (tZ [cn 1 86 a b] true);have aV:=ki q e;have aW:=ki a7 e;have aD:=λtm=>qo (ad:=ad) (n:=n) f.nl f.O f.ok f.cs b0 bY l m tm;have aE:=λtm=>aQ ad (n+1) ab ab (.A [cm l m (dk ((cp args).set j (cn 1 86 a b)))] true) _ e (.inr ⟨_,rfl⟩) ba tm;have o:=λtm=>bq ad (n+1) ab ab _ l m args ls ms st j w i ab bw g.tidy tm;have aF:=λtm=>qo (ad:=ad) (n:=n) h.nl h.O h.ok h.cs b1 bX (fe l) (gD l m j) tm;have aG:=λtm=>aQ ad (n+1) ab ab (.A [cn 1 86 a b,cm (fe l) (gD l m j) (.A ((cp args).eraseIdx j) false)] true) _ aB (.inr ⟨_,rfl⟩) a8 tm;have aK:=λtm=>qo (ad:=ad) (n:=n) (y:= .A [cn 1 86 a b] true) (H:=e) rfl (λ_=>rfl) rfl rfl (Go.aj.uc _ _ _ _) rfl 7 28558080999846761 tm;have aH:=λtm=>aR ad (n+1) ab ab (l+6+1) (m+104919330677599<<<(8*l)+(48+(j+1))<<<(8*(l+6))) (.A [cn 1 86 a b,cm (fe l) (gD l m j) (.A ((cp args).eraseIdx j) false)] true) (.A [cm l m (dk ((cp args).set j (cn 1 86 a b)))] true) (.A [fb (cn 1 86 a b)] true) (.A [fb (cn 1 86 a b)] true) _ _ e e (.inr ⟨_,rfl⟩) (.inr ⟨_,rfl⟩) ba rfl (λ_=>rfl) rfl rfl (Go.aj.uc _ _ _ _) rfl tm;have aC:=λtm=>bp ad (n+1) ab ab (j+1) ab w tm g.tidy;simp only at aC;have b4:l+6<=ht:=by unfold ht;omega
 have b5:l+6+1<=ht:=by unfold ht;omega
 have bu:kl p l m args j=j5 p (l+6+1) (m+104919330677599<<<(8*l)+(48+(j+1))<<<(8*(l+6))) (.A [cn 1 86 a b,cm (fe l) (gD l m j) (.A ((cp args).eraseIdx j) false)] true) (.A [cm l m (dk ((cp args).set j (cn 1 86 a b)))] true) (.A [fb (cn 1 86 a b)] true):=by unfold kl;rw [bs]
 rw [bu];generalize dk ((cp args).set j (cn 1 86 a b))=b9 at*;have bA:=b3 H ab f.up;have bj:=k7 aZ;have aN:=k7 q;have bk:=k7 a1;have bm:=k7 a7;simp only [eX,cn,cm,ko,j5,fb] at hF aS aT aV aW aD aE o aF aG aH aK bj aN bk bm|-;simp only [go_sem,hF,b4,b5,aC,aD,aS,bH,aE,f.O,o,aF,h.O,aT,aG,aK,aV,aW,aH,aN];exact ak.mk rfl rfl I bA
end
def iR (r:List aa) (a:Nat):Nat:=(j7 (((f (M r 6))[a]?).getD [])).toNat-1
def j4 (p:Y) (b c:Bool) (r:List aa) (e:Nat):Y:=match r with
 | .str g h::a::_=>(if b then [gX p g h (f a) (f (M r 6)) e (iR r e)] else [])++(if c then [kl p g h (f a) (iR r e)] else [])
 |_=> []
def qF (p:Y) (b c:Bool) (r:List aa):Y:=(List.range (f (M r 6)).length).flatMap (j4 p b c r)
def kO (p:Y) (b c:Bool) (rop:Y):Y:=rop.flatMap (qF p b c)
def oM (r:List aa) (b:Nat):List aa:=match r with
 | .str c e::a:: .str ls ms::_=>ko c e (f a) ls ms (iR r b)
 |_=> []
def rj (r:List aa):Y:=(List.range (f (M r 6)).length).map (oM r)
def oN (rop:Y):Y:=rop.flatMap rj
def YV {α:Type} (f:Nat->List α) (k:Nat):(List.range (k+1)).flatMap f=(List.range k).flatMap f++f k:=by rw [aor,anD];simp
theorem YW {α:Type} (f:Nat->α) (k:Nat):(List.range (k+1)).map f=(List.range k).map f++ [f k]:=by rw [aor,vR];rfl
def nF {α β:Type} (f:α->List β) (M:Nat): ∀(l:List α),(∀x∈l,(f x).length<=M)->(l.flatMap f).length<=l.length*M
 | [],_=>by simp
 |a::l,b=>by have c:=b a (dF ..);have e:=nF f M l ah;rw [yL,bD,cl,iK];omega
def zK (p b c r rN):(j4 p b c r rN).length<=2:=by
 unfold j4
 grind
def HA: ∀(n:Nat) (l:Y),(∀q∈l,∃i:Int,q= [.int .i64 i]/\1<=i/\i<=n)->l.Pairwise (· ≠ ·)->l.length<=n
 | 0,l,f,_=>by
   cases l with
   |nil=>simp
   |cons e l=>obtain ⟨i,-,b,m⟩:=f e (dF ..);omega
 | n+1,l,f,h=>by
   have v:=HA n (l.filter λq=>j7 q !=((n+1:Nat):Int)) (λq a=>by
    rw [List.mem_filter] at a;obtain ⟨i,rfl,b,m⟩:=f q a.1;refine ⟨i,rfl,b,?_⟩;have g:i≠((n+1:Nat):Int):=λk=>by have:=a.2;rw [k] at this;simp [j7] at this
    omega) ah
   have : ∀(l:Y),(∀q∈l,∃i:Int,q= [.int .i64 i])->l.Pairwise (· ≠ ·)->l.length<=(l.filter λq=>j7 q !=((n+1:Nat):Int)).length+1:=by
    intro l
    induction l with
    |nil=>simp
    | cons e l r=>
      intro a h;have j:=hq.1 h;obtain ⟨t,rfl⟩:=a e (dF ..);by_cases o:t=((n+1:Nat):Int)
      . have:l.filter (λq=>j7 q !=((n+1:Nat):Int))=l:=List.filter_eq_self.2 λq c=>by have b:=j.1 q c;obtain ⟨u,rfl⟩:=a q (h8 _ c);have g:u≠((n+1:Nat):Int):=ah;simpa [j7] using g
        grind
      . have b:=r (λq c=>a q (h8 _ c)) j.2;rw [tx,if_pos (by simpa [j7] using o)]
        grind
   grind
def nm.st {kN rop ao:Y} (c3:nm kN rop ao) {r} (f:r∈rop) {l m args ls ms st} (e:fB r l m args ls ms st):args.length<=8/\(∀q∈st,∃i:Int,q= [.int .i64 i]/\1<=i/\i<=args.length)/\st.length<=8:=by
 obtain ⟨a,b,c⟩:=c3.ops r f l m args ls ms st e;exact ⟨a,b,eT (HA args.length st b c.1) a⟩
def LB {p:Y} {a nm:Nat} {b c w:aa} (e:J w=true/\D 20 w=true):(j5 p a nm b c w).length=7/\ ∀v∈j5 p a nm b c w,J v=true/\D 20 v=true:=⟨rfl,λv c3=>by
 have e:(j5 p a nm b c w).all (λv=>J v&&D 20 v)=true:=by show [aa.str a nm,.A [wH p b c] true,w,.V,.V,.int .i64 0,.int .i64 0].all (λv=>J v&&D 20 v)=true;simp only [aO,e.1,e.2];rfl
 grind⟩
def Is (p l m args st rN j):(gX p l m args st rN j).length=7/\ ∀v∈gX p l m args st rN j,J v=true/\D 20 v=true:=LB ⟨(fW _).J,(fW _).aI _⟩
def GN (p l m args j):(kl p l m args j).length=7/\ ∀v∈kl p l m args j,J v=true/\D 20 v=true:=LB ⟨rfl,rfl⟩
def Gk {r:List aa} (a:r.length=7/\ ∀v∈r,J v=true/\D 20 v=true) (H:af):cT G 29 1 [(0,.agg r)] H=some (.A [r] true,H):=
 mo (E:=G) (t:=29) (el:=64) (k:=7) (H:=H) (z:= .agg [.str 0 0,.V,.V,.V,.V,.int .i64 0,.int .i64 0]) aq aq aq al rfl al (.agg r) ⟨a.1,ba.2 λv c3=>(a.2 v c3).1,ba.2 λv c3=>(a.2 v c3).2⟩
def O6 {r:List aa} (a:r.length=7/\ ∀v∈r,J v=true/\D 20 v=true) (H:af):cT G 24 1 [(0,.agg r)] H=some (.A [r] true,H):=
 mo (E:=G) (t:=24) (el:=52) (k:=7) (H:=H) (z:= .agg [.str 0 0,.V,.str 0 0,.V,.int .i64 0,.int .i64 0,.V]) aq aq aq al rfl al (.agg r) ⟨a.1,ba.2 λv c3=>(a.2 v c3).1,ba.2 λv c3=>(a.2 v c3).2⟩
section
variable {d s:List aa} {kN aw rop ao aJ ahJ p aU ahI:Y} (aX:fz d s kN aw rop ao aJ ahJ p aU ahI) (c3:nm kN rop ao)
include aX c3
theorem Jx:bo λad n=> ∀(b c:Bool) H,Z H-> ∃v H',P 64 7 H H' v (kO p b c rop)/\ ∀tm,az G (X G R ad n) 29 [.agg d,.bool b,.bool c] H tm= .ok v tm H':=by
 obtain ⟨bG,aH⟩:=Vr aX;obtain ⟨bI,aI⟩:=Vd aX;have aO:=aX.bT.op;have b9:=c3.len;have cc: ∀S∈rop,(qF p true true S).length<=16:=λS aR=>by
  obtain ⟨a,e,u,l,o,y,D⟩:=aO S aR;have b4:=(c3.st aR D).2.2;obtain ⟨j,q,h,r,ac,rfl,ax,B,bL,aP,-⟩:=D.eq;have:=nF (j4 p true true [.str a e,j,.str l o,q,.int .i64 r,.int .i64 ac,h]) 2 (List.range (f h).length) λ_ _=>zK ..
  rw [nS,bm B] at this;show ((List.range (f h).length).flatMap _).length<=16;rw [bm B];omega
 have bk:=aX.eq;obtain ⟨cm,a8,bK,cg,bJ,bN,cn,cp,rfl,⟨bS,bZ,rfl,cr,cj⟩,bw,bB,⟨bR,bW,rfl,cq,ch⟩,bz,bC,⟨bU,b0,rfl,ct,ck⟩,⟨bV,b1,rfl,cu,cl⟩⟩:=bk;obtain ⟨bO,a7,aW,bh,bQ,rfl,bE,bu,Q,bx,bF⟩:=aX.bT.eq;refine ⟨bG+bI+300,λad n b8 cb b c H aT=> ?_⟩;obtain ⟨n,rfl⟩:=bY n;simp only [bl,a6] at aH aI|-;refine bn.at (m:=44) rfl rfl rfl rfl rfl rfl rfl rfl ?_;simp only [go_sem,bE.J,bu.J,Q.J,bx.J,bF.J,bw.J,bB.J,bz.J,bC.J,Q.O,Q.len];have hF:=trivial;generalize bj:a1 _ _ _ _ _ _ _ _ _ _=ak;revert ak;refine cv [1,2,3,14] (λs=> [(7,s.1)]) (λs=>s.2) (λF s=>P 64 7 H s.2 s.1 ((rop.take F).flatMap (qF p b c))/\((rop.take F).flatMap (qF p b c)).length<=F*16) rop.length (.V,H) ⟨P.new _ _ aT,ai⟩ ?_ ?_
 . rintro F ⟨v,aj⟩ tm bp ⟨w,b5⟩ hF;simp only at w hF|-;obtain ⟨S,aa⟩:=bA bp;have aN:=aV aa;obtain ⟨a,e,u,l,o,y,D⟩:=aO S aN;obtain ⟨aL,aS,bt⟩:=c3.st aN D;have br:=D;obtain ⟨j,q,h,r,ac,rfl,ax,B,bL,aP,-⟩:=br.eq;have b3:f j=u:=bm ax;have aF:f h=y:=bm B;have bf: ∀g,j4 p b c [.str a e,j,.str l o,q,.int .i64 r,.int .i64 ac,h] g=(if b then [gX p a e u y g (iR [.str a e,j,.str l o,q,.int .i64 r,.int .i64 ac,h] g)] else [])++(if c then [kl p a e u (iR [.str a e,j,.str l o,q,.int .i64 r,.int .i64 ac,h] g)] else []):=λg=>by
    show (if b then [gX p a e (f j) (f h) g _] else [])++(if c then [kl p a e (f j) _] else [])=_
    grind
   have aE:qF p b c [.str a e,j,.str l o,q,.int .i64 r,.int .i64 ac,h]=(List.range y.length).flatMap (j4 p b c [.str a e,j,.str l o,q,.int .i64 r,.int .i64 ac,h]):=by show (List.range (f h).length).flatMap _=_;rw [aF]
   have ca:(qF p b c [.str a e,j,.str l o,q,.int .i64 r,.int .i64 ac,h]).length<=16:=by
    rw [aE];have:=nF (j4 p b c [.str a e,j,.str l o,q,.int .i64 r,.int .i64 ac,h]) 2 (List.range y.length) ah
    grind
   refine au.np [16,15,1,2,3,14] (λag tm H'=>aj=H'/\ ∃aC,M tm 7=v/\M tm 9= .W aC [.str a e,j,.str l o,q,.int .i64 r,.int .i64 ac,h]/\ag tm) ?_ ?_
   . simp only [go_sem,hF,Q.O,Q.a_ (k:=7) aa rfl,ax.J,aP.J,B.J];exact an.mk ⟨rfl,_,by simp only [go_sem,hF];trivial⟩
   clear hF;rintro tm _ ⟨rfl,aC,hF⟩;simp only [go_sem,hF,B.O,B.len];generalize bj:a1 _ _ _ _ _ _ _ _ _ _=ak;revert ak;generalize aK:(rop.take F).flatMap (qF p b c)=C at*;refine cv [16,15,1,2,3,14,9,21] (λs=> [(7,s.1)]) (λs=>s.2) (λg s=>P 64 7 H s.2 s.1 (C++(List.range g).flatMap (j4 p b c [.str a e,j,.str l o,q,.int .i64 r,.int .i64 ac,h]))) y.length (v,aj) ah ?_ ?_
   . clear hF;rintro g ⟨v,I⟩ tm bq w hF;simp only at w hF|-;obtain ⟨aY,Y⟩:=bA bq;obtain ⟨ae,rfl,cd,cf⟩:=aS _ (aV Y);have bd:iR [.str a e,j,.str l o,q,.int .i64 r,.int .i64 ac,h] g=ae.toNat-1:=by show (j7 (((f h)[g]?).getD [])).toNat-1=_;rw [aF,Y];rfl
     have bg:ae=((ae.toNat-1+1:Nat):Int):=ab;have aG:=bf g;rw [bd] at aG;generalize ae.toNat-1=z at*;subst bg;have b6:(C++(List.range g).flatMap (j4 p b c [.str a e,j,.str l o,q,.int .i64 r,.int .i64 ac,h])).length+2<1048560:=by
      have:=nF (j4 p b c [.str a e,j,.str l o,q,.int .i64 r,.int .i64 ac,h]) 2 (List.range g) ah
      grind
     have ba:C++(List.range (g+1)).flatMap (j4 p b c [.str a e,j,.str l o,q,.int .i64 r,.int .i64 ac,h])=C++(List.range g).flatMap (j4 p b c [.str a e,j,.str l o,q,.int .i64 r,.int .i64 ac,h])++(if b then [gX p a e u y g z] else [])++(if c then [kl p a e u z] else []):=by rw [YV,aG,<-fu,<-fu]
     generalize C++(List.range g).flatMap (j4 p b c [.str a e,j,.str l o,q,.int .i64 r,.int .i64 ac,h])=af at*;refine au.bM (λtm H'=>I=H'/\aM 47 [(23,.int .i64 (g:Nat)),(22,.int .i64 (y.length:Nat)),(16,.int .i64 (F:Nat)),(15,.int .i64 (rop.length:Nat)),(1,.bool b),(2,.bool c),(3,.W 0 [.str bS bZ,bO,a7,aW,bh,bQ,a8,bK,.str bR bW,bJ,bN,.str bU b0,.str bV b1]),(7,v),(14,aW),(9,.W aC [.str a e,j,.str l o,q,.int .i64 r,.int .i64 ac,h]),(21,h),(10,.int .i64 (g:Nat)),(11,.int .i64 ((z+1:Nat):Int))] tm) ?_ ?_
     . simp only [go_sem,hF,B.O,B.a_ (k:=1) Y rfl];exact an.mk ⟨rfl,ay⟩
     clear hF;rintro tm _ ⟨rfl,hF⟩;have bc:=λtm=>aH ad n ab ab _ a e u l o y g z I D aL aS bt Y w.tidy tm;refine au.np [23,22,16,15,1,2,3,14,9,21,11] (λag tm H'=> ∃v,P 64 7 H H' v (af++(if b then [gX p a e u y g z] else []))/\M tm 7=v/\ag tm) ?_ ?_
     . cases b with
       | false=>
         simp only [go_sem,hF];exact an.mk ⟨v,ah,ay⟩
       | true=>
         have L:=Is p a e u y g z;have aA:=Gk L I;have N:Rows 7 [gX p a e u y g z]:=λaY aB=>by rw [bs.1 aB];exact L
         obtain ⟨aD,T,ar,K,-⟩:=w.app (E:=G) (t:=29) (b:=128) (i:=t64) aq aq rfl rfl al al (x:= .A [gX p a e u y g z] true) (aQ:= [_]) (dR (.inr ⟨_,rfl⟩) N.len) N ah;simp only [go_sem,hF,bc,aA,bH,w.O,ar,K.O];exact an.mk ⟨aD,K,ay⟩
     clear hF;rintro tm T ⟨bP,av,hF⟩;have bb:=λtm=>aI ad n ab ab _ a e u l o y z T D aL ab av.tidy tm;have b7:(af++(if b then [gX p a e u y g z] else [])).length+1<1048560:=ah;generalize af++(if b then [gX p a e u y g z] else [])=b2 at*
     cases c with
     | false=>
       simp only [go_sem,hF];exact au.next (bP,T) rfl (by show P _ 7 H _ _ (C++(List.range (g+1)).flatMap _);grind) ay
     | true=>
       have L:=GN p a e u z;have aA:=Gk L T;have N:Rows 7 [kl p a e u z]:=λaY aB=>by rw [bs.1 aB];exact L
       obtain ⟨aD,aZ,ar,K,-⟩:=av.app (E:=G) (t:=29) (b:=128) (i:=t64) aq aq rfl rfl al al (x:= .A [kl p a e u z] true) (aQ:= [_]) (dR (.inr ⟨_,rfl⟩) N.len) N ab;simp only [go_sem,hF,bb,aA,bH,av.O,ar,K.O];exact au.next (aD,aZ) rfl (by show P _ 7 H _ _ (C++(List.range (g+1)).flatMap _);rw [ba];exact K) ay
   . clear hF;rintro ⟨v,I⟩ tm w hF;simp only at w hF;simp only [go_sem];rw [<-aE] at w;refine au.next (v,I) rfl ⟨by rw [kR _ aa,aK];exact w,by rw [kR _ aa,aK,bD];omega⟩ ay
 . rintro ⟨v,aj⟩ tm ⟨w,-⟩ hF;simp only at w hF;rw [bX] at w;simp only [go_sem,hF,w.O,w.nl,dX,if_true];exact bn.mk (w.gc aT (U.refl _) (d:=19) id)
end
def HP (l m args ls ms j):(ko l m args ls ms j).length=7/\ ∀v∈ko l m args ls ms j,J v=true/\D 20 v=true:=⟨rfl,λv c3=>by
 have a:(ko l m args ls ms j).all (λv=>J v&&D 20 v)=true:=rfl;have:=ba.1 a v c3;simpa using this⟩
section
variable {d s:List aa} {kN aw rop ao aJ ahJ p aU ahI:Y} (aX:fz d s kN aw rop ao aJ ahJ p aU ahI) (c3:nm kN rop ao)
include aX c3
theorem Vo:bo λad n=> ∀H,Z H-> ∃v,F v (oN rop)/\ ∀tm,az G (X G R ad n) 35 [.agg d] H tm= .ok v tm H:=by
 obtain ⟨bn,aN⟩:=DB;have aZ:=aX.bT.op;have bF:=c3.len;have aR:=aX.eq;obtain ⟨bS,bw,bU,bM,bR,bZ,b1,b4,rfl,⟨ca,cf,rfl,b6,bO⟩,bc,bg,⟨b9,cd,rfl,b5,bN⟩,bf,bh,⟨cb,cg,rfl,b7,bP⟩,⟨cc,ch,rfl,b8,bQ⟩⟩:=aR;obtain ⟨b0,bu,bV,bx,b2,rfl,bj,bb,B,bd,bk⟩:=aX.bT.eq;refine ⟨bn+300,λad n bC bI H av=> ?_⟩;obtain ⟨n,rfl⟩:=bY n;simp only [bl,a6];refine hg (aL.at (m:=31) rfl rfl rfl rfl rfl rfl rfl rfl ?_);simp only [go_sem,bj.J,bb.J,B.J,bd.J,bk.J,bc.J,bg.J,bf.J,bh.J,B.O,B.len];have hF:=trivial;generalize aO:a1 _ _ _ _ _ _ _ _ _ _=Q;revert Q;refine cv [10] (λs=> [(3,s.1)]) (λs=>s.2) (λz s=>P 52 7 H s.2 s.1 ((rop.take z).flatMap rj)/\((rop.take z).flatMap rj).length<=z*8) rop.length (.V,H) ⟨P.new _ _ av,ai⟩ ?_ ?_
 . rintro z ⟨v,N⟩ tm aS ⟨a,bz⟩ hF;simp only at a hF|-;obtain ⟨bq,I⟩:=bA aS;have ah:=aV I;obtain ⟨c,g,u,e,h,K,S⟩:=aZ bq ah;obtain ⟨bE,ba,bJ⟩:=c3.st ah S;have aY:=S;obtain ⟨l,q,j,r,ac,rfl,ag,y,bW,a7,-⟩:=aY.eq;have aH:f l=u:=bm ag;have Y:f j=K:=bm y;have aI: ∀o,oM [.str c g,l,.str e h,q,.int .i64 r,.int .i64 ac,j] o=ko c g u e h (iR [.str c g,l,.str e h,q,.int .i64 r,.int .i64 ac,j] o):=λo=>by show ko c g (f l) e h _=_;rw [aH]
   have U:rj [.str c g,l,.str e h,q,.int .i64 r,.int .i64 ac,j]=(List.range K.length).map (oM [.str c g,l,.str e h,q,.int .i64 r,.int .i64 ac,j]):=by show (List.range (f j).length).map _=_;rw [Y]
   have bG:(rj [.str c g,l,.str e h,q,.int .i64 r,.int .i64 ac,j]).length<=8:=by rw [U,di,nS];omega
   refine au.np [12,11,10] (λaA tm aB=>N=aB/\ ∃ax,M tm 3=v/\M tm 5= .W ax [.str c g,l,.str e h,q,.int .i64 r,.int .i64 ac,j]/\aA tm) ?_ ?_
   . simp only [go_sem,hF,B.O,B.a_ (k:=7) I rfl,ag.J,a7.J,y.J];exact an.mk ⟨rfl,_,by simp only [go_sem,hF];trivial⟩
   clear hF;rintro tm _ ⟨rfl,ax,hF⟩;simp only [go_sem,hF,y.O,y.len];generalize aO:a1 _ _ _ _ _ _ _ _ _ _=Q;revert Q;generalize ae:(rop.take z).flatMap rj=w at*;refine cv [12,11,10,5,17] (λs=> [(3,s.1)]) (λs=>s.2) (λo s=>P 52 7 H s.2 s.1 (w++(List.range o).map (oM [.str c g,l,.str e h,q,.int .i64 r,.int .i64 ac,j]))) K.length (v,N) (by simpa using a) ?_ ?_
   . clear hF;rintro o ⟨v,D⟩ tm aW a hF;simp only at a hF|-;obtain ⟨bp,T⟩:=bA aW;obtain ⟨L,rfl,bK,bL⟩:=ba _ (aV T);have aG:iR [.str c g,l,.str e h,q,.int .i64 r,.int .i64 ac,j] o=L.toNat-1:=by show (j7 (((f j)[o]?).getD [])).toNat-1=_;rw [Y,T];rfl
     have aK:L=((L.toNat-1+1:Nat):Int):=ab;have aa:=aI o;rw [aG] at aa;generalize L.toNat-1=C at*;subst aK;have bB:(w++(List.range o).map (oM [.str c g,l,.str e h,q,.int .i64 r,.int .i64 ac,j])).length+2<1048560:=by rw [bD,di,nS];omega
     have aD:w++(List.range (o+1)).map (oM [.str c g,l,.str e h,q,.int .i64 r,.int .i64 ac,j])=w++(List.range o).map (oM [.str c g,l,.str e h,q,.int .i64 r,.int .i64 ac,j])++ [ko c g u e h C]:=by rw [YW,aa,<-fu]
     generalize w++(List.range o).map (oM [.str c g,l,.str e h,q,.int .i64 r,.int .i64 ac,j])=bt at*;have aF:=λtm=>aN ad n ab ab _ c g u e h K C D S ab ab a.tidy tm;have aj:=HP c g u e h C;have aP:=O6 aj D;have ar:Rows 7 [ko c g u e h C]:=λbp a8=>by rw [bs.1 a8];exact aj
     obtain ⟨br,aC,aE,af,-⟩:=a.app (E:=G) (t:=24) (b:=120) (i:=t52) aq aq rfl rfl al al (x:= .A [ko c g u e h C] true) (aQ:= [_]) (dR (.inr ⟨_,rfl⟩) ar.len) ar og;simp only [go_sem,hF,y.O,y.a_ (k:=1) T rfl,aF,aP,bH,a.O,aE,af.O];exact au.next (br,aC) rfl (by show P _ 7 H _ _ (w++(List.range (o+1)).map _);rw [aD];exact af) ay
   . clear hF;rintro ⟨v,D⟩ tm a hF;simp only at a hF;simp only [go_sem];rw [<-U] at a;refine au.next (v,D) rfl ⟨by rw [kR _ I,ae];exact a,by rw [kR _ I,ae,bD];omega⟩ ay
 . rintro ⟨v,N⟩ tm ⟨a,-⟩ hF;simp only at a hF;rw [bX] at a;simp only [go_sem,hF,a.O,a.nl,dX,if_true];exact ak.W al av a.rw a.W (aT _) a.up λb3 aM=>aM
theorem HQ:(oN rop).length<=1600:=by
 have e:=aX.bT.op;have:=nF rj 8 rop λh b=>by obtain ⟨n,q,k,o,r,w,a⟩:=e h b;have c:=(c3.st b a).2.2;obtain ⟨j,t,i,u,ac,rfl,l,g,v,m,-⟩:=a.eq;show ((List.range (f i).length).map _).length<=8;rw [bm g,di,nS];exact c
 have:=c3.len;unfold oN;omega
theorem LC (b c:Bool):(kO p b c rop).length<=3200:=by
 have j:=aX.bT.op;have:=nF (qF p b c) 16 rop λr g=>by
  obtain ⟨k,m,t,l,n,y,e⟩:=j r g;have u:=(c3.st g e).2.2;obtain ⟨i,o,a,q,ac,rfl,v,h,x,w,-⟩:=e.eq;have:=nF (j4 p b c [.str k m,i,.str l n,o,.int .i64 q,.int .i64 ac,a]) 2 (List.range (f a).length) λ_ _=>zK ..
  rw [nS,bm h] at this;show ((List.range (f a).length).flatMap _).length<=16;rw [bm h];omega
 have:=c3.len;unfold kO;omega
end
theorem abn:d G R 289 (λ_:Nat×Nat=>True) (λp=> [.str p.1 p.2,.int .u8 39]) (λp=>hp 39 p.1 p.2):=by refine d.cL (p:=r0) rfl rfl (λ_ _=>rfl) (λp _=>by unfold hp;split<;>rfl) λp _ a=> ?_;show (match mK 39 p.1 p.2 0 with|some b=>_|none=>_)=_;unfold hp;cases mK 39 p.1 p.2 0<;>simp<;>rfl
def abm:d G R 227 (λ_:Nat×Nat=>True) (λp=> [.str p.1 p.2,.int .u8 39]) (λp=>hp 39 p.1 p.2):=by
 obtain ⟨j,g⟩:=abn;refine d.run (m:=6) rfl rfl rfl rfl (λ_=>rfl) (λ_ _=>rfl) rfl rfl j λk l h i f _ c b=> ?_;have a:=λn=>g k l h i f trivial c n b;simp only at a;simp only [go_sem,a];unfold hp;split<;>exact e.mk rfl b (U.refl _)
def abo:d G R 153 (λ_:Nat×Nat=>True) (λp=> [.str p.1 p.2,.str 1 39]) (λp=>hp 39 p.1 p.2):=by
 obtain ⟨u,o⟩:=abm;refine d.run (m:=141) rfl rfl rfl rfl (λ_=>rfl) (λ_ _=>rfl) rfl rfl u λv w r s b _ i g=> ?_;have c:=λx=>o v w r s b trivial i x g;simp only at c;have j:(((1:Nat):Int)==0)=false:=rfl;have k:(((1:Nat):Int)==1)=true:=rfl;have l:en 39 0=39:=rfl;have n:((39:Nat):Int)=39:=rfl;obtain ⟨t,h⟩:=CB 39 b.1 b.2;have f:=h;simp only [h] at c|-;simp only [go_sem,j];refine e.aE ?_ ?_<;>intro a<;>simp only [go_sem,a,c,k,l,n]
 . have:t=0:=by simp only [br,beq_iff_eq] at a;rw [<-a.1,<-a.2] at f;have q:hp 39 1 39= .int .i64 0:=aq;rw [q] at f;cases f;rfl
   rw [this];exact e.mk rfl g (U.refl _)
 . exact e.mk rfl g (U.refl _)
def vq (l m:Nat):Bool:=(mK 39 l m 0).isSome
def abk:d G R 43 (λ_:Nat×Nat=>True) (λp=> [.str p.1 p.2,.str 1 39]) (λp=> .bool (vq p.1 p.2)):=by
 obtain ⟨u,q⟩:=abo;have w:d G R 76 (λ_:Nat×Nat=>True) (λp=> [.str p.1 p.2,.str 1 39]) (λp=>hp 39 p.1 p.2):=by refine d.run (m:=6) rfl rfl rfl rfl (λ_=>rfl) (λ_ _=>rfl) rfl rfl u λl n j k a _ h f=> ?_;have c:=λo=>q l n j k a trivial h o f;obtain ⟨g,i⟩:=CB 39 a.1 a.2;simp only [i] at c|-;simp only [go_sem,c];exact e.mk rfl f (U.refl _)
 obtain ⟨v,r⟩:=w;refine d.run (m:=7) rfl rfl rfl rfl (λ_=>rfl) (λ_ _=>rfl) rfl rfl v λl n j k a _ h f=> ?_;have c:=λo=>r l n j k a trivial h o f;have s: ∃g:Int,hp 39 a.1 a.2= .int .i64 g/\decide (g>=0)=vq a.1 a.2:=by
  unfold hp vq
  cases mK 39 a.1 a.2 0 with
  |none=>exact ⟨_,rfl,rfl⟩
  |some g=>exact ⟨_,rfl,ai⟩
 obtain ⟨g,i,t⟩:=s;simp only [i] at c|-;simp only [go_sem,c];exact e.b f (U.refl _) t.symm
def vH (r:List aa):Bool:=match r with
 | .str a b::_=>decide ((f (M r 6)).length>0)&&vq a b
 |_=>false
def abv:bo λad n=> ∀r H,c6 r->Z H-> ∀tm,cx G (X G R ad n) (.fn (.func 42) [] []) [.agg r] H tm= .ok (.bool (vH r)) tm H:=by
 obtain ⟨s,j⟩:=abk;refine ⟨s+1,λad n z A r H q e tm=> ?_⟩;obtain ⟨n,rfl⟩:=bY n;obtain ⟨b,c,y,t,u,x,l⟩:=q;obtain ⟨h,v,g,w,ac,rfl,k,a,B,o,-⟩:=l.eq;have d:=λtm=>j ad n ab ab (b,c) trivial H tm e;simp only at d;simp only [eg,a6,fw];refine fa (aL.at (m:=11) (rs:= [.tmp 2]) rfl rfl rfl rfl rfl rfl rfl rfl ?_) tm;have p:vH [.str b c,h,.str t u,v,.int .i64 w,.int .i64 ac,g]=(decide ((x.length:Int)>0)&&vq b c):=by show (decide ((f g).length>0)&&_)=_;rw [bm a];congr 1;simp
 rw [p];simp only [go_sem,k.J,o.J,a.J,a.O,a.len];refine ak.aE ?_ ?_<;>intro i<;>simp only [go_sem,i,d]
 all_goals exact ak.mk ai rfl e (U.refl _)
def aby {f ad n:Nat} (i:f=46\/f=47) {r q:List aa} {l m:Nat} (p:r.length=7) (c:r.all J=true) (k: ∃t,q= .str l m::t) (s: ∃a b t,r= .str a b::t) {id g d:Nat} {H:af} (u:Z H) (j:H.get id=some (.cells g d 0 q)) (h:d<=g) (o:q.length=7) (tm:List aa):
    cx G (X G R ad (n+1)) (.fn (.func f) [] [.ptr id g 0 7]) [.agg r] H tm= .ok (.bool (eV l m r)) tm H:=by
 obtain ⟨t,rfl⟩:=k;obtain ⟨a,b,B,rfl⟩:=s
 match B,p,c with
 | [C,D,E,F,I,K],_,c=>
 match t,o with
 | [L,M,N,O,P,Q],_=>
 simp only [aO,br] at c;obtain ⟨-,v,w,x,y,z,A,-⟩:=c;simp only [eg,a6,bl];have e:(a==l&&b==m)=(l==a&&m==b):=by rw [BEq.comm (a:=a),BEq.comm (a:=b)]
 rcases i with rfl|rfl
 all_goals
  refine fa (aL.at (m:=7) (rs:= [.tmp 3]) rfl rfl rfl rfl rfl rfl rfl rfl ?_) tm;simp only [go_sem,v,w,x,y,z,A,j,h,e];exact ak.mk rfl rfl u (U.refl _)
def lI.qE {r} (c:lI r):r.length=7/\(∃a b t,r= .str a b::t)/\r.all J=true:=by
 obtain ⟨j,k,i,q,d,a,b,rfl,⟨u,v,rfl,-⟩,⟨n,g,-⟩,⟨m,f,-⟩,⟨o,h,-⟩,⟨l,e,-⟩,⟨a,rfl⟩,⟨b,rfl⟩⟩:=c;exact ⟨rfl,ai,by simp only [aO,g.J,f.J,h.J,e.J];rfl⟩
def c6.qE {r} (c:c6 r):r.length=7/\(∃a b t,r= .str a b::t)/\r.all J=true:=by
 have g:=c.ok;obtain ⟨h,j,f,i,k,o,e⟩:=c;obtain ⟨a,l,n,m,ac,rfl,-⟩:=e.eq
 grind
def xg (r:List aa):Prop:=(r.length=7/\ ∀a∈r,J a=true/\D 20 a=true)/\ ∃b c e,r= .str b c::e
def Zu {p:Y} {b c:Bool} {rop:Y}: ∀r∈kO p b c rop,xg r:=λr a=>by
 obtain ⟨f,-,a⟩:=fC.1 a;obtain ⟨e,-,a⟩:=fC.1 a;unfold j4 at a;split at a
 . rcases cr.1 a with a|a
   . cases b with
     |false=>cases a
     |true=>rw [bs.1 a];exact ⟨Is ..,_,_,_,rfl⟩
   . cases c with
     |false=>cases a
     |true=>rw [bs.1 a];exact ⟨GN ..,_,_,_,rfl⟩
 grind
def RW {rop:Y} (c: ∀r∈rop,c6 r): ∀r∈oN rop,xg r:=λr a=>by
 obtain ⟨f,e,a⟩:=fC.1 a;obtain ⟨i,-,rfl⟩:=cd.1 a;obtain ⟨j,l,h,k,m,t,b⟩:=c f e;obtain ⟨g,n,q,o,ac,rfl,-⟩:=b.eq;exact ⟨HP ..,_,_,_,rfl⟩
def il (r:List aa):List aa:=putAt 6 [.V] (ct r)
def eZ (rop:Y):Y:=rop.map il++oN rop
def jZ (r:List aa):Nat×Nat:=match r with
 | .str a b::_=>(a,b)
 |_=>(0,0)
structure lD (p rop ahI ao:Y):Prop where
  l1:ahI.length+(kO p true true rop).length<=300
  l2:rop.length+ao.length+(oN rop).length<=200
  aR:rop.any vH=false
  nm: ∀r∈kO p true true rop,(jZ r).1<=40
  ag6: ∀r∈kO p true true rop,ahI.any (eV (jZ r).1 (jZ r).2)=false
  op: ∀r∈oN rop,rop.any (eV (jZ r).1 (jZ r).2)=false
def al5 (d:List aa) (kN aw rop ao aJ ahJ p aU ahI:Y) (w:List aa):Prop:= ∃l g k h m n j i o b f e c,w= [M d 0,l,g,k,h,m,n,j,M d 8,i,o,M d 11,M d 12]/\(F l kN/\F g aw/\F k (eZ rop)/\F h (ao.map ct)/\F m aJ)/\
 (F n b/\b.map alp=ahJ.map alp/\ ∀a∈b,xb a)/\(F j f/\f.map ak8=p.map ak8/\ ∀a∈f,iz a)/\(F i e/\e.map ak8=aU.map ak8/\ ∀a∈e,iz a)/\F o (c++kO p true true rop)/\c.map ald=ahI.map ald/\ ∀a∈c,lI a
def xe (d:List aa) (kN aw rop ao aJ ahJ p aU ahI:Y) (v:aa):Prop:= ∃b a,v= .av [.agg b,.int .i64 a]/\b.length=13/\(∀c∈b,J c=true/\D 18 c=true)/\(a=0/\lD p rop ahI ao/\al5 d kN aw rop ao aJ ahJ p aU ahI b\/(a=3\/a=14)/\ ¬lD p rop ahI ao)
def Kw {r} (n:c6 r):(ct r).length=7/\ ∃l m args ls ms st a p s' i j,fB r l m args ls ms st/\ct r= [.str l m,a,.str ls ms,p,.int .i64 i,.int .i64 j,s']/\F a args/\F s' st/\ ∃b,F p b/\b.length<1048560/\ ∀q∈b,gd q:=by
 obtain ⟨l,m,args,ls,ms,st,e⟩:=n;obtain ⟨a,p,s',c,ac,rfl,o,h,b,g,t,u⟩:=e.eq;have k:ct [.str l m,a,.str ls ms,p,.int .i64 c,.int .i64 ac,s']= [.str l m,dk (f a),.str ls ms,gB p (f p),.int .i64 c,.int .i64 ac,gB s' (f s')]:=rfl;refine ⟨rfl,l,m,args,ls,ms,st,_,_,_,c,ac,e,k,?_,?_,b,?_,t,u⟩
 . rw [bm o];exact fW _
 . rw [bm h];exact xH h
 . rw [bm g];exact xH g
def rU {v:aa} (a:J v=true):v.cells= [v]:=by cases v<;>first|rfl|cases a
def xg.cs {r} (i:xg r): ∃l m a b c e f g,r= [.str l m,a,b,c,e,f,g]/\(J a=true/\J b=true/\J c=true/\J e=true/\J f=true/\J g=true)/\a.cells= [a]/\b.cells= [b]/\c.cells= [c]/\e.cells= [e]/\f.cells= [f]/\g.cells= [g]:=by
 obtain ⟨⟨j,k⟩,l,m,n,rfl⟩:=i
 match n,j with
 | [a,b,c,e,f,g],_=>
   have h:=λo c3=>(k o c3).1;exact ⟨l,m,a,b,c,e,f,g,rfl,ah,rU ah,rU ah,rU ah,rU (h _ ai),rU (h _ ai),rU (h _ ai)⟩
def Z0 {α:Type} (l1 l2:List α) (j:Nat) (x:α) (b:l1[j]? =some x) (e:l1.length=l2.length):(l1.take j++l2.drop j).set j x=l1.take (j+1)++l2.drop (j+1):=by
 have c:j<l1.length:=ah;have a:(l1.take j).length=j:=ah;rw [List.set_append_right _ _ ab,a,Nat.sub_self,CQ (l:=l2) ab,List.set_cons_zero,fg,b];simp
def Sg {α:Type} (l1 l2:List α) (j:Nat) (a:j<l1.length):(l1.take j++l2.drop j)[j]? =l2[j]? :=by
 grind
section
variable {d s:List aa} {kN aw rop ao aJ ahJ p aU ahI:Y} (aX:fz d s kN aw rop ao aJ ahJ p aU ahI) (c3:nm kN rop ao)
include aX c3
theorem UT (eT:kN.length+aw.length+rop.length+ao.length+aJ.length<800000) (e6: ∀r∈ao,nk r) {N:Nat} (hT:bL (eE ahJ p aU ahI) N) (hN:N<50000):
  dt 26 [.agg d] (xe d kN aw rop ao aJ ahJ p aU ahI) bQ:=by
 have bN:=aX.bT.op;obtain ⟨cq,a8⟩:=Vg aX eT (λr w az bc fP gm gq gv fe=>by have:=c3.st w fe;omega) e6 hT hN;obtain ⟨cr,b3⟩:=Vo aX c3;obtain ⟨cu,cH⟩:=Jx aX c3;obtain ⟨cx,eS⟩:=abv;have ga:=HQ aX c3;have gf:=LC aX c3 true true;have gb:=c3.len;have cK:=aX.bh;have gl:ahI.length<1048560:=by have a8:=aX.iN;have:=D9 ahI;omega
 have e3:=aX.eq;obtain ⟨gr,g,h,gi,bz,bt,gw,gy,rfl,⟨H,Q,rfl,gA,gk⟩,fl,fp,⟨C,L,rfl,gz,gj⟩,fm,cp,⟨I,R,rfl,ek,gn⟩,⟨K,S,rfl,gB,gp⟩⟩:=e3;obtain ⟨bB,bu,bn,bw,bC,rfl,fr,fk,bP,dy,fs⟩:=aX.bT.eq;obtain ⟨cC,cI⟩: ∃cC,cC=xe ([.str H Q]++ [bB,bu,bn,bw,bC]++ [g,h,.str C L,bz,bt,.str I R,.str K S]) kN aw rop ao aJ ahJ p aU ahI:=⟨_,rfl⟩;rw [<-cI];have b4:lD p rop ahI ao↔(ahI.length+(kO p true true rop).length<=300/\rop.length+ao.length+(oN rop).length<=200)/\rop.any vH=false/\(∀r∈kO p true true rop,(jZ r).1<=40)/\(∀r∈kO p true true rop,ahI.any (eV (jZ r).1 (jZ r).2)=false)/\ ∀r∈oN rop,rop.any (eV (jZ r).1 (jZ r).2)=false:=
  ⟨λa=>⟨⟨a.l1,a.l2⟩,a.aR,a.nm,a.ag6,a.op⟩,λ⟨⟨c9,da⟩,bI,d,g,eP⟩=>⟨c9,da,bI,d,g,eP⟩⟩
 have cl:M ([.str H Q]++ [bB,bu,bn,bw,bC]++ [g,h,.str C L,bz,bt,.str I R,.str K S]) 0= .str H Q/\M ([.str H Q]++ [bB,bu,bn,bw,bC]++ [g,h,.str C L,bz,bt,.str I R,.str K S]) 8= .str C L/\M ([.str H Q]++ [bB,bu,bn,bw,bC]++ [g,h,.str C L,bz,bt,.str I R,.str K S]) 11= .str I R/\M ([.str H Q]++ [bB,bu,bn,bw,bC]++ [g,h,.str C L,bz,bt,.str I R,.str K S]) 12= .str K S:=⟨rfl,rfl,rfl,rfl⟩;simp only [cl.1,cl.2.1,cl.2.2.1,cl.2.2.2] at a8;clear cl;simp only [bl,a6] at a8 b3 cH cI|-;refine aL.run (m:=113) rfl rfl rfl rfl rfl rfl rfl rfl (cq+cr+cu+cx+1010000) λbU bd dV dW v b6=> ?_;obtain ⟨bd,rfl⟩: ∃ft,bd=ft+1+2:=⟨bd-3,ab⟩;obtain ⟨_,cF,eX,eL⟩:=a8 bU (bd+1+2) ab ab v b6;obtain ⟨bf,aK,bo,aC,aA,ag,aH,aG,bg,cO,cz,rfl,ar,cR,cB,cS,cT,cJ,ff,e8,ck,eU,dS,bb⟩:=eX.eq;obtain ⟨fK,b8,fq,gh⟩:=id ff;obtain ⟨fJ,b7,fo,gg⟩:=id e8;have fZ:cz.length=ahI.length:=by rw [<-di (f:=ald),dS.1,di]
 obtain ⟨dp,bp,j⟩:=b3 bU (bd+1+2) ab ab cF ar.tidy;obtain ⟨cP,aD,y,eM⟩:=cH bU (bd+1+2) ab ab true true cF ar.tidy;have bV:=ar.ok;have bW:=cR.ok;have bY:=cB.ok;have bZ:=cS.ok;have b0:=cT.ok;have fu:=cJ.ok;have fv:=ck.ok;have dJ:=cB.pM y (aT _);have fY:=ck.pM y (aT _);have bJ:=y.up;replace y:=y.mono ar.up;replace ar:=ar.at y.tidy bJ;replace cR:=cR.at y.tidy bJ;replace cB:=cB.at y.tidy bJ;replace cS:=cS.at y.tidy bJ;replace cT:=cT.at y.tidy bJ;replace cJ:=cJ.at y.tidy bJ;replace ck:=ck.at y.tidy bJ;have dr:=RW bN;have cL:=Zu (p:=p) (b:=true) (c:=true) (rop:=rop);have dx:=λr w=>(cL r w).1.1;generalize eW:oN rop=bj at*;generalize e0:kO p true true rop=Y at*;have cj: ∀bI:Int,bI=3\/bI=14-> ¬lD p rop ahI ao-> ∀l,U v l->ak cC bQ v (.ret (.av [.agg [.str 0 0,.V,.V,.V,.V,.V,.V,.V,.str 0 0,.V,.V,.str 0 0,.str 0 0],.int .i64 bI]) l):=λbI e1 dW l fi=>ak.mk (by rw [cI];exact ⟨_,bI,rfl,rfl,(λcf bO=>by simp only [b2,dG,or_false] at bO;rcases bO with rfl|rfl|rfl|rfl|rfl|rfl|rfl|rfl|rfl|rfl|rfl|rfl|rfl<;>exact ⟨rfl,rfl⟩),.inr ⟨e1,dW⟩⟩) rfl b6 fi;refine ak.bM (λe l=>v=l/\aM 114 [(1,.W 0 [.str H Q,bB,bu,bn,bw,bC,g,h,.str C L,bz,bt,.str I R,.str K S]),(2,.W 0 [.str 0 0,.V,.V,.V,.V,.V,.V,.V,.str 0 0,.V,.V,.str 0 0,.str 0 0]),(3,.int .i64 0),(4,.av [])] e) ?_ ?_
 . simp -implicitDefEqProofs only [go_sem,fr.J,fk.J,bP.J,dy.J,fs.J,fl.J,fp.J,fm.J,cp.J];exact an.mk ⟨rfl,w0⟩
 rintro e _ ⟨rfl,hF⟩;refine ak.bM (λe l=>cF=l/\aM 114 [(1,.W 0 [.str H Q,bB,bu,bn,bw,bC,g,h,.str C L,bz,bt,.str I R,.str K S]),(2,.W 0 [.str 0 0,.V,.V,.V,.V,.V,.V,.V,.str 0 0,.V,.V,.str 0 0,.str 0 0]),(3,.int .i64 0),(4,.W 0 [.str H Q,bf,aK,bo,aC,aA,ag,aH,.str C L,aG,bg,.str I R,.str K S])] e) ?_ ?_
 . simp -implicitDefEqProofs only [go_sem,hF,eL,bV,bW,bY,bZ,b0,b8.J,b7.J,fu,fv];exact an.mk ⟨rfl,dm⟩
 clear hF;rintro e _ ⟨rfl,hF⟩;refine ak.bF hF (λT e l=>cF=l/\aM 114 [(5,dp)] e/\T e) ?_ ?_
 . simp -implicitDefEqProofs only [go_sem,hF,j,bp.O];exact an.mk ⟨rfl,dm⟩
 clear hF;rintro e _ ⟨rfl,hF⟩;refine ak.bM (λe l=>aD=l/\aM 114 [(1,.W 0 [.str H Q,bB,bu,bn,bw,bC,g,h,.str C L,bz,bt,.str I R,.str K S]),(2,.W 0 [.str 0 0,.V,.V,.V,.V,.V,.V,.V,.str 0 0,.V,.V,.str 0 0,.str 0 0]),(3,.int .i64 0),(4,.W 0 [.str H Q,bf,aK,bo,aC,aA,ag,aH,.str C L,aG,bg,.str I R,.str K S]),(5,dp),(6,cP)] e) ?_ ?_
 . simp -implicitDefEqProofs only [go_sem,hF,eM,y.O];exact an.mk ⟨rfl,dm⟩
 clear hF;rintro e _ ⟨rfl,hF⟩;refine ak.bF hF (λT e l=>(aD=l/\ahI.length+Y.length<=300/\rop.length+ao.length+bj.length<=200)/\T e) ?_ ?_
 . have bA:IntKind.i64.wrap ((rop.length:Int)+(ao.length:Int))=(rop.length:Int)+(ao.length:Int):=wrap64 _ ab ab;have b1:IntKind.i64.wrap ((rop.length:Int)+(ao.length:Int)+(bj.length:Int))=(rop.length:Int)+(ao.length:Int)+(bj.length:Int):=wrap64 _ ab ab;have ca:IntKind.i64.wrap ((ahI.length:Int)+(Y.length:Int))=(ahI.length:Int)+(Y.length:Int):=wrap64 _ ab ab;simp -implicitDefEqProofs only [go_sem,hF,bP.O,bP.len,dy.O,dy.len,bp.O,bp.len,bA,b1]
   iterate 2 all_goals try (refine an.aE ?_ ?_<;>intro A<;>(first|have eR:=of_decide_eq_true A|have eR:=of_decide_eq_false A)<;>simp -implicitDefEqProofs only [go_sem,hF,A,cp.O,cp.len,y.O,y.len,ca])
   all_goals first
    |exact an.mk ⟨⟨rfl,ab,ab⟩,dm⟩
    |exact an.stop rfl (by simp -implicitDefEqProofs only [go_sem,hF];exact cj 3 al (λa=>by have:=(b4.1 a).1;omega) _ ar.up)
 clear hF;rintro e _ ⟨⟨rfl,e9,fa⟩,hF⟩;refine ak.bF hF (λT e l=>aD=l/\aM 114 [(7,.fn (.func 42) [] [])] e/\T e) ?_ ?_
 . simp -implicitDefEqProofs only [go_sem];exact an.mk ⟨rfl,dm⟩
 clear hF;rintro e _ ⟨rfl,hF⟩;refine ak.np [1,2,3,4,5,6] (λT e l=>(aD=l/\rop.any vH=false)/\T e) ?_ ?_
 . have ch:=Dt bn (.fn (.func 42) [] []) rop vH bP (λr w=>(bN r w).len) ab rfl (λ_=>rfl) bU (bd+1) ab aD ar.tidy λr w e=>eS bU (bd+1) ab ab r aD (bN r w) ar.tidy e;simp -implicitDefEqProofs only [go_sem,hF,bP.O,ch];refine an.aE ?_ ?_<;>intro A<;>simp -implicitDefEqProofs only [go_sem,hF,A]
   . exact an.stop rfl (by simp -implicitDefEqProofs only [go_sem,hF];exact cj 3 al (λa=>by have:=(b4.1 a).2.1;rw [A] at this;cases this) _ ar.up)
   . exact an.mk ⟨⟨rfl,A⟩,dm⟩
 clear hF;rintro e _ ⟨⟨rfl,e5⟩,hF⟩;refine ak.bF hF (λT e l=>(aD=l/\ ∀r∈Y,(jZ r).1<=40)/\T e) ?_ ?_
 . simp -implicitDefEqProofs only [go_sem,hF,y.O,y.len];generalize dq:a1 _ _ _ _ _ _ _ _ _ _=bE;revert bE;refine dA [1,2,3,4,5,6,50] (λu=> ∀r∈Y.take u,(jZ r).1<=40) Y.length ai ?_ ?_
   . clear hF;rintro u s e ds bx hF;obtain ⟨r,af⟩: ∃r,Y[u]? =some r:=⟨Y[u],ai⟩;obtain ⟨az,bc,aO,aP,aS,aW,aY,a7,rfl,⟨bV,bW,bY,bZ,b0,cy⟩,dX,dY,dZ,ea,eb,ec⟩:=(cL r (aV af)).cs;obtain ⟨cN,du,dv,dw,-⟩:=y.cw.at dx af;simp -implicitDefEqProofs only [go_sem,hF,y.O,du,dv,dw,bV,bW,bY,bZ,b0,cy];refine au.aE ?_ ?_<;>intro A<;>try simp -implicitDefEqProofs only [go_sem,hF,A]
     . exact au.stop rfl (by simp -implicitDefEqProofs only [go_sem];exact an.stop rfl (by simp -implicitDefEqProofs only [go_sem,hF];exact cj 3 al (λa=>by have a8:az<=40:=(b4.1 a).2.2.1 _ (aV af);have b3:=of_decide_eq_true A;omega) _ ar.up))
     . refine au.next () rfl (λcN bk=> ?_) dm;rcases tT af bk with bk|rfl
       . grind
       . have: ¬((az:Int)>40):=ah;show az<=40;omega
   . rintro s e bx hF;rw [bX] at bx;simp -implicitDefEqProofs only [go_sem];exact an.mk ah
 clear hF;rintro e _ ⟨⟨rfl,fc⟩,hF⟩;refine ak.bF hF (λT e l=>(Z l/\U aD l/\ ∀r∈Y,ahI.any (eV (jZ r).1 (jZ r).2)=false)/\T e) ?_ ?_
 . simp -implicitDefEqProofs only [go_sem,hF,y.O,y.len];generalize dq:a1 _ _ _ _ _ _ _ _ _ _=bE;revert bE;refine cv [1,2,3,4,5,6,62] (λ_=> []) (λs=>s) (λu s=>Z s/\U aD s/\ ∀r∈Y.take u,ahI.any (eV (jZ r).1 (jZ r).2)=false) Y.length aD ⟨ar.tidy,U.refl _,ai⟩ ?_ ?_
   . clear hF;rintro u s e ds ⟨br,bq,bx⟩ hF;obtain ⟨r,af⟩: ∃r,Y[u]? =some r:=⟨Y[u],ai⟩;have cm:=cL r (aV af);obtain ⟨az,bc,aO,aP,aS,aW,aY,a7,rfl,⟨bV,bW,bY,bZ,b0,cy⟩,dX,dY,dZ,ea,eb,ec⟩:=cm.cs;have ae:Z (s.push (.cells (q 64) (q 64) 0 [.str az bc,aO,aP,aS,aW,aY,a7])):=br.push (ba.2 λB c3=>fR _ 20 20 B al (cm.1.2 B c3).2);have ch:=Us bt (.fn (.func 46) [] [.ptr s.n (q 64) 0 7]) ahI (eV az bc) cp (λr w=>(lI.qE (cK r w)).1) ab rfl (λ_=>rfl) bU (bd+1) ab _ ae λr w e=>aby (.inl rfl) (lI.qE (cK r w)).1 (lI.qE (cK r w)).2.2 ⟨_,rfl⟩ (lI.qE (cK r w)).2.1 ae (dL _ _) (aT _) rfl e;have ay:=bq.push (.cells (q 64) (q 64) 0 [.str az bc,aO,aP,aS,aW,aY,a7]);obtain ⟨cN,du,dv,dw,-⟩:=(y.at br bq).cw.at dx af;simp -implicitDefEqProofs only [go_sem,hF,y.O,du,dv,dw,bV,bW,bY,bZ,b0,cy,cp.O,ch];refine au.aE ?_ ?_<;>intro A<;>try simp -implicitDefEqProofs only [go_sem,hF,A]
     . exact au.stop rfl (by simp -implicitDefEqProofs only [go_sem];exact an.stop rfl (by simp -implicitDefEqProofs only [go_sem,hF];exact cj 14 al (λa=>by have a8:ahI.any (eV az bc)=false:=(b4.1 a).2.2.2.1 _ (aV af);rw [a8] at A;cases A) _ (ar.up.trans ay)))
     . refine au.next _ rfl ⟨ae,ay,λcN bk=> ?_⟩ dm;rcases tT af bk with bk|rfl
       . grind
       . exact A
   . rintro s e ⟨br,bq,bx⟩ hF;rw [bX] at bx;simp -implicitDefEqProofs only [go_sem];exact an.mk ah
 clear hF;rintro e eo ⟨⟨br,bq,fh⟩,hF⟩;refine ak.bF hF (λT e l=>(Z l/\U aD l/\ ∀r∈bj,rop.any (eV (jZ r).1 (jZ r).2)=false)/\T e) ?_ ?_
 . simp -implicitDefEqProofs only [go_sem,hF,bp.O,bp.len];generalize dq:a1 _ _ _ _ _ _ _ _ _ _=bE;revert bE;refine cv [1,2,3,4,5,6,74] (λ_=> []) (λs=>s) (λu s=>Z s/\U aD s/\ ∀r∈bj.take u,rop.any (eV (jZ r).1 (jZ r).2)=false) bj.length eo ⟨br,bq,ai⟩ ?_ ?_
   . clear hF;rintro u s e ds ⟨br,bq,bx⟩ hF;obtain ⟨r,af⟩: ∃r,bj[u]? =some r:=⟨bj[u],ai⟩;have cm:=dr r (aV af);obtain ⟨az,bc,aO,aP,aS,aW,aY,a7,rfl,⟨bV,bW,bY,bZ,b0,cy⟩,dX,dY,dZ,ea,eb,ec⟩:=cm.cs;have ae:Z (s.push (.cells (q 52) (q 52) 0 [.str az bc,aO,aP,aS,aW,aY,a7])):=br.push (ba.2 λB c3=>fR _ 20 20 B al (cm.1.2 B c3).2);have ch:=Dt bn (.fn (.func 47) [] [.ptr s.n (q 52) 0 7]) rop (eV az bc) bP (λr w=>(bN r w).len) ab rfl (λ_=>rfl) bU (bd+1) ab _ ae λr w e=>aby (.inr rfl) (c6.qE (bN r w)).1 (c6.qE (bN r w)).2.2 ⟨_,rfl⟩ (c6.qE (bN r w)).2.1 ae (dL _ _) (aT _) rfl e;have ay:=bq.push (.cells (q 52) (q 52) 0 [.str az bc,aO,aP,aS,aW,aY,a7]);simp -implicitDefEqProofs only [go_sem,hF,bp.O,bp.a_ (k:=7) af rfl,bV,bW,bY,bZ,b0,cy,bP.O,ch];refine au.aE ?_ ?_<;>intro A<;>try simp -implicitDefEqProofs only [go_sem,hF,A]
     . exact au.stop rfl (by simp -implicitDefEqProofs only [go_sem];exact an.stop rfl (by simp -implicitDefEqProofs only [go_sem,hF];exact cj 14 al (λa=>by have a8:rop.any (eV az bc)=false:=(b4.1 a).2.2.2.2 _ (aV af);rw [a8] at A;cases A) _ (ar.up.trans ay)))
     . refine au.next _ rfl ⟨ae,ay,λcN bk=> ?_⟩ dm;rcases tT af bk with bk|rfl
       . grind
       . exact A
   . rintro s e ⟨br,bq,bx⟩ hF;rw [bX] at bx;simp -implicitDefEqProofs only [go_sem];exact an.mk ah
 clear hF br bq;rintro e ep ⟨⟨ae,ay,e4⟩,hF⟩;have eY:lD p rop ahI ao:=b4.2 ⟨⟨e9,fa⟩,e5,fc,fh,e4⟩;have cU:=ar.at ae ay;have cV:=cR.at ae ay;have cg:=cB.at ae ay;have cW:=cS.at ae ay;have cX:=cT.at ae ay;have cY:=cJ.at ae ay;have cZ:=ck.at ae ay;have dF:=y.at ae ay;obtain ⟨bA,bb⟩:=hq.1 bb;obtain ⟨b1,bb⟩:=hq.1 bb;obtain ⟨ca,bb⟩:=hq.1 bb;obtain ⟨dD,bb⟩:=hq.1 bb;obtain ⟨ed,bb⟩:=hq.1 bb;obtain ⟨fI,-⟩:=hq.1 bb;have db:cc bo bf:=(bA _ ai).symm;have dc:cc bo aK:=(b1 _ ai).symm;have dd:cc bo aC:=ca _ ai;have de:cc bo aA:=ca _ ai;have df:cc bo ag:=ca _ ai;have dg:cc bo bg:=ca _ ai;have dK:cc bg bf:=(bA _ ai).symm;have dM:cc bg aK:=(b1 _ ai).symm;have dN:cc bg aC:=(dD _ ai).symm;have dO:cc bg aA:=(ed _ ai).symm;have dP:cc bg ag:=(fI _ ai).symm;have fb:(rop.map ct).length=rop.length:=di ..
 have gd:(rop.map il).length=rop.length:=di ..
 refine ak.bF hF.2 (λT e l=>(P 52 7 v l bo (rop.map il)/\P 9 1 v l bf kN/\P 166 2 v l aK aw/\P 52 7 v l aC (ao.map ct)/\P 9 1 v l aA aJ/\P 81 15 v l ag cO/\P 64 7 v l bg cz/\P 64 7 v l cP Y)/\T e) ?_ ?_
 . have en:=cg.len;rw [fb] at en;simp -implicitDefEqProofs only [go_sem,hF,cg.O,en];generalize dq:a1 _ _ _ _ _ _ _ _ _ _=bE;revert bE;refine cv [2,3,4,5,6] (λ_=> []) (λs=>s) (λu s=>P 52 7 v s bo ((rop.map il).take u++(rop.map ct).drop u)/\P 9 1 v s bf kN/\P 166 2 v s aK aw/\P 52 7 v s aC (ao.map ct)/\P 9 1 v s aA aJ/\P 81 15 v s ag cO/\P 64 7 v s bg cz/\P 64 7 v s cP Y) rop.length ep ah ?_ ?_
   . clear hF;rintro u s e ds ⟨z,c0,c1,c2,c4,c5,c7,c8⟩ hF;obtain ⟨r,af⟩: ∃r,rop[u]? =some r:=⟨rop[u],ai⟩;have e2:(rop.map ct)[u]? =some (ct r):=ah;have fj:(rop.map il)[u]? =some (il r):=ah;have dU:=Sg (rop.map il) (rop.map ct) u ab;rw [e2] at dU;obtain ⟨gu,fx,cE,er,et,fN,eu,ev,fO,ew,ad,bG⟩:=z.pn dU 6 [.V] (aT 7) (λB c3=>by rw [bs.1 c3];exact ⟨rfl,rfl⟩);have dh:=Z0 (rop.map il) (rop.map ct) u (il r) fj ab;have dh:((rop.map il).take u++(rop.map ct).drop u).set u (putAt 6 [.V] (ct r))=(rop.map il).take (u+1)++(rop.map ct).drop (u+1):=dh;rw [dh] at ad;have ey: ∀e,hf 1 fx [.V] e s= .ok (.av []) e cE:=ew;simp -implicitDefEqProofs only [go_sem,hF,z.O,er,et,eu,ev,ey];exact au.next cE rfl ⟨ad,c0.bS ad.tidy ad.up λid h a g=>bG.other id h a λj=>db id j g,c1.bS ad.tidy ad.up λid h a g=>bG.other id h a λj=>dc id j g,c2.bS ad.tidy ad.up λid h a g=>bG.other id h a λj=>dd id j g,
      c4.bS ad.tidy ad.up λid h a g=>bG.other id h a λj=>de id j g,c5.bS ad.tidy ad.up λid h a g=>bG.other id h a λj=>df id j g,c7.bS ad.tidy ad.up λid h a g=>bG.other id h a λj=>dg id j g,c8.bS ad.tidy ad.up λid h a g=>bG.other id h a λj=>dJ id j g⟩ dm
   . rintro s e ⟨z,gC⟩ hF;rw [fT ab,tv ab,fw] at z;simp -implicitDefEqProofs only [go_sem];exact an.mk ah
 clear hF cU cV cg cW cX cY cZ dF;rintro e fM ⟨⟨cg,cU,cV,cW,cX,cY,cZ,dF⟩,hF⟩;obtain ⟨cA,cE,eN,z,aB⟩:=cg.app (k:=7) (E:=G) (t:=24) (b:=120) (i:=t52) aq aq rfl rfl al al (x:=dp) (aQ:=bj) (dR bp λr w=>(dr r w).1.1) (λr w=>(dr r w).1) ab;have c0:=cU.bS z.tidy z.up λid h a g=>aB.other id h a λj=>db id j g;have c1:=cV.bS z.tidy z.up λid h a g=>aB.other id h a λj=>dc id j g;have c2:=cW.bS z.tidy z.up λid h a g=>aB.other id h a λj=>dd id j g;have c4:=cX.bS z.tidy z.up λid h a g=>aB.other id h a λj=>de id j g;have c5:=cY.bS z.tidy z.up λid h a g=>aB.other id h a λj=>df id j g;have c8:=dF.bS z.tidy z.up λid h a g=>aB.other id h a λj=>dJ id j g;have c7:=cZ.bS z.tidy z.up λid h a g=>aB.other id h a λj=>dg id j g;have ez:=db.grow cU.W aB;have eA:=dc.grow cV.W aB;have eB:=dd.grow cW.W aB;have eC:=de.grow cX.W aB;have eD:=df.grow cY.W aB;have dI:=dg.grow cZ.W aB;refine ak.np [2,3,5,6] (λT e l=>cE=l/\M e 4= .W 0 [.str H Q,bf,aK,cA,aC,aA,ag,aH,.str C L,aG,bg,.str I R,.str K S]/\T e) ?_ ?_
 . simp -implicitDefEqProofs only [go_sem,hF,cg.O,bp.O,eN,bH,z.O,z.ok,z.cs];exact an.mk ⟨rfl,dm⟩
 clear hF;rintro e _ ⟨rfl,hF⟩;obtain ⟨cQ,bD,eO,X,aF⟩:=c7.app (k:=7) (E:=G) (t:=29) (b:=128) (i:=t64) aq aq rfl rfl al al (x:=cP) (aQ:=Y) (c8.cw.elems dx) (λr w=>(cL r w).1) ab;have ee:=c0.bS X.tidy X.up λid h a g=>aF.other id h a λj=>dK id j g;have ef:=c1.bS X.tidy X.up λid h a g=>aF.other id h a λj=>dM id j g;have eg:=z.bS X.tidy X.up λid h a g=>aF.other id h a λj=>dI id g j;have eh:=c2.bS X.tidy X.up λid h a g=>aF.other id h a λj=>dN id j g;have ei:=c4.bS X.tidy X.up λid h a g=>aF.other id h a λj=>dO id j g;have ej:=c5.bS X.tidy X.up λid h a g=>aF.other id h a λj=>dP id j g;have eF:=dK.grow c0.W aF;have eG:=dM.grow c1.W aF;have eI:=dN.grow c2.W aF;have eJ:=dO.grow c4.W aF;have eK:=dP.grow c5.W aF;have eH:=(dI.symm).grow z.W aF;refine ak.np [2,3,5,6] (λT e l=>bD=l/\M e 4= .W 0 [.str H Q,bf,aK,cA,aC,aA,ag,aH,.str C L,aG,cQ,.str I R,.str K S]/\T e) ?_ ?_
 . simp -implicitDefEqProofs only [go_sem,hF,c7.O,c8.O,eO,bH,X.O,X.ok,X.cs];exact an.mk ⟨rfl,dm⟩
 clear hF;rintro e _ ⟨rfl,hF⟩;have eQ:ak cC bQ v (.ret (.av [.agg [.str H Q,bf,aK,cA,aC,aA,ag,aH,.str C L,aG,cQ,.str I R,.str K S],.int .i64 0]) bD):=by
  have bm: ∀ {o cb},F o cb->J o=true/\D 18 o=true:=λa=>⟨a.J,a.aI 17⟩;have bK: ∀ {dj cM B cb} (aN:aa->Prop),0<cM->P dj cM v bD B cb->(∀o,F o cb->aN o)->AM 47 v bD (λ_ o=>(J o=true/\D 18 o=true)/\aN o) B:=λ{dj cM B cb} aN e7 a bk=> .inr ⟨dj,cM,_,cb,e7,a.rw,a.W,λo b6=>⟨bm b6,bk o b6⟩⟩;have b5: ∀ {B} (aN:aa->Prop),J B=true->(∀d,D (d+1) B=true)->aN B->AM 47 v bD (λ_ o=>(J o=true/\D 18 o=true)/\aN o) B:=λ{B} aN a8 b3 cH=> .inl ⟨b3 47,⟨a8,b3 17⟩,cH⟩;have b9: ∀ {dE B:aa},(∀d,D (d+1) dE=true)->cc dE B/\cc B dE:=λa=>⟨(λid g=>by rw [vi (a 0)] at g;cases g),(λid _ g=>by rw [vi (a 0)] at g;cases g)⟩;have cd: ∀c9 da d,D (d+1) (.str c9 da)=true:=λ_ _ _=>rfl;have dn:=b8.aI;have dk:=b7.aI
  obtain ⟨aN,dQ⟩: ∃aN:Nat->aa->Prop,aN=λcn o=>match cn with
   |0=> .str H Q=o
   |1=>F o kN
   |2=>F o aw
   |3=>F o (rop.map il++bj)
   |4=>F o (ao.map ct)
   |5=>F o aJ
   |6=>F o cO
   |7=>aH=o
   |8=> .str C L=o
   |9=>aG=o
   |10=>F o (cz++Y)
   |11=> .str I R=o
   |_=> .str K S=o:=⟨_,rfl⟩
  obtain ⟨ek,dH,g,gx,fL,dV,ax⟩:=Ey 47 al v (λcn _ o=>(J o=true/\D 18 o=true)/\aN cn o) [.str H Q,bf,aK,cA,aC,aA,ag,aH,.str C L,aG,cQ,.str I R,.str K S] bD X.tidy X.up (λcn B c3=>by
   rw [dQ]
   match cn,c3 with
   |0,c3=>cases c3;exact b5 _ rfl (cd _ _) rfl
   |1,c3=>cases c3;exact bK _ al ee λ_ a=>a
   |2,c3=>cases c3;exact bK _ al ef λ_ a=>a
   |3,c3=>cases c3;exact bK _ al eg λ_ a=>a
   |4,c3=>cases c3;exact bK _ al eh λ_ a=>a
   |5,c3=>cases c3;exact bK _ al ei λ_ a=>a
   |6,c3=>cases c3;exact bK _ al ej λ_ a=>a
   |7,c3=>cases c3;exact b5 _ b8.J dn rfl
   |8,c3=>cases c3;exact b5 _ rfl (cd _ _) rfl
   |9,c3=>cases c3;exact b5 _ b7.J dk rfl
   |10,c3=>cases c3;exact bK _ al X λ_ a=>a
   |11,c3=>cases c3;exact b5 _ rfl (cd _ _) rfl
   |12,c3=>cases c3;exact b5 _ rfl (cd _ _) rfl
   |bd+13,c3=>cases c3) (by
   have fy:=bA aK ai;have fz:=bA aC ai;have fA:=bA aA ai;have fB:=bA ag ai;have fC:=b1 aC ai;have fD:=b1 aA ai;have fE:=b1 ag ai;have fF:=dD aA ai;have fG:=dD ag ai;have fH:=ed ag ai;simp only [hq,b2,dG,or_false,forall_eq_or_imp,forall_eq,List.Pairwise.nil,and_true];simp only [(b9 (cd _ _)).1,(b9 (cd _ _)).2,(b9 dn).1,(b9 dn).2,(b9 dk).1,(b9 dk).2,true_and,and_true];exact ⟨⟨fy,ez.symm,fz,fA,fB,eF.symm⟩,⟨eA.symm,fC,fD,fE,eG.symm⟩,⟨eB,eC,eD,eH.symm⟩,⟨fF,fG,eI.symm⟩,⟨fH,eJ.symm⟩,eK.symm,ai⟩)
  match ek,dV with
  | [fQ,aO,aP,aS,aW,aY,a7,fV,fW,fX,cG,fS,fU],_=>
  rw [dQ] at ax;obtain ⟨-,rfl⟩:=ax 0 _ _ rfl rfl;obtain ⟨-,cq⟩:=ax 1 _ _ rfl rfl;obtain ⟨-,cr⟩:=ax 2 _ _ rfl rfl;obtain ⟨-,cu⟩:=ax 3 _ _ rfl rfl;obtain ⟨-,cx⟩:=ax 4 _ _ rfl rfl;obtain ⟨-,dB⟩:=ax 5 _ _ rfl rfl;obtain ⟨-,dC⟩:=ax 6 _ _ rfl rfl;obtain ⟨-,rfl⟩:=ax 7 _ _ rfl rfl;obtain ⟨-,rfl⟩:=ax 8 _ _ rfl rfl;obtain ⟨-,rfl⟩:=ax 9 _ _ rfl rfl;obtain ⟨-,dz⟩:=ax 10 _ _ rfl rfl;obtain ⟨-,rfl⟩:=ax 11 _ _ rfl rfl;obtain ⟨-,rfl⟩:=ax 12 _ _ rfl rfl;simp only at cq cr cu cx dB dC dz;have dT: ∀cf∈ [.str H Q,aO,aP,aS,aW,aY,a7,aH,.str C L,aG,cG,.str I R,.str K S],J cf=true/\D 18 cf=true:=λcf bO=>by
   simp only [b2,dG,or_false] at bO;rcases bO with rfl|rfl|rfl|rfl|rfl|rfl|rfl|rfl|rfl|rfl|rfl|rfl|rfl
   . exact ⟨rfl,rfl⟩
   . exact bm cq
   . exact bm cr
   . exact bm cu
   . exact bm cx
   . exact bm dB
   . exact bm dC
   . exact bm b8
   . exact ⟨rfl,rfl⟩
   . exact bm b7
   . exact bm dz
   . exact ⟨rfl,rfl⟩
   . exact ⟨rfl,rfl⟩
  have fg:aZ bR (.av [.agg [.str H Q,bf,aK,cA,aC,aA,ag,aH,.str C L,aG,cQ,.str I R,.str K S],.int .i64 0]) bD=some (.av [.agg [.str H Q,aO,aP,aS,aW,aY,a7,aH,.str C L,aG,cG,.str I R,.str K S],.int .i64 0],dH):=by refine Yz ?_;simp only [cD,Yu g,Go.aj.wC]
  refine .inl ⟨_,(by rw [cI];exact ⟨_,0,rfl,rfl,dT,.inl ⟨rfl,eY,aO,aP,aS,aW,aY,a7,aH,aG,cG,cO,fK,fJ,cz,rfl,⟨cq,cr,by rw [eZ,eW];exact cu,cx,dB⟩,⟨dC,eU⟩,⟨b8,fq.2⟩,⟨b7,fo.2⟩,by rw [e0];exact dz,dS⟩⟩),_,_,dH,rfl,fg,gV b6 fL ?_⟩;refine fR _ 20 20 _ (aT _) ?_;show ([aa.str H Q,aO,aP,aS,aW,aY,a7,aH,.str C L,aG,cG,.str I R,.str K S].all (D 18)&&_)=true;rw [ba.2 λcf bO=>(dT cf bO).2];rfl
 simp -implicitDefEqProofs only [go_sem,hF,ee.ok,ef.ok,eg.ok,eh.ok,ei.ok,ej.ok,X.ok,b8.J,b7.J];exact eQ
end
end Go.aj
