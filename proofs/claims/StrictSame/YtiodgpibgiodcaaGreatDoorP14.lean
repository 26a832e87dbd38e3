/- A part of the proof. -/
import Derived.Test.YtiodgpibgiodcaaGreatDoorP00
import Derived.Test.YtiodgpibgiodcaaGreatDoorP07
import Derived.Test.YtiodgpibgiodcaaGreatDoorP11
import Derived.Test.YtiodgpibgiodcaaGreatDoorP13
set_option linter.all false
set_option maxHeartbeats 4000000
namespace Go.aj
open Go Go.Proofs.Tryz
set_option maxRecDepth 100000
def ans {L:Y} (e:b8 L) {a b:Nat}:L.any (isStr a b)=true↔ [aa.str a b]∈L:=by
 rw [kB];refine ⟨λ⟨f,c,d⟩=> ?_,λc=>⟨_,c,by rw [ajc];simp⟩⟩;obtain ⟨g,h,rfl,-⟩:=e f c;rw [ajc] at d;simp only [br,beq_iff_eq] at d;obtain ⟨rfl,rfl⟩:=d;exact c
def amt (kN a rop b:Y) (r:List aa):Prop:=my kN (kt r 1).1 (kt r 1).2=true/\tk kN a rop b (ah2 (dQ r))=true/\ak4 kN a (ak3 kN rop b (ah2 (dQ r))) [M r 1]=true/\
 ∀c∈(py ([dQ r].map ah2)).flatMap ak9,c=(1,36)
def amQ (kN b rop c rows:Y):Prop:=(rows.map sQ).Nodup/\ ∀a∈rows,amt kN b rop c a
def arc {ax:aa} {s:List aa} {kN I rop K cb:Y} (aN:dO ax s kN I rop K cb) {d:List aa} {dn p g dp:Y} (aS:fz d s kN I rop K cb dn p g dp)
    {N:Nat} (hT:bL ((p++g).map dQ) N) (hN:N<100000):
    bo λad n=> ∀c H,Z H->dP H c d ax->alh (amQ kN I rop K (p++g)) 66 [c] ad n H:=by
 have dF:=aS.n1;have bI: ∀e∈p++g,iz e:=λe q=>(cr.1 q).elim (aS.b9 e) (aS.hm e);have dD:(p++g).length<1048560:=uF;have ba: ∀e∈p++g,bL [dQ e] N:=λe q=>hT.one (cd.2 ⟨e,q,rfl⟩);obtain ⟨c7,bw⟩:=sm aN;obtain ⟨c9,bx⟩:=gu 13 al;obtain ⟨db,bz⟩:=gu 14 al;obtain ⟨dc,bA⟩:=gu 17 al;obtain ⟨dd,cH⟩:=dE (l:=p++g) (Q:=λe ad n=> ∀z c d (j o:Int) (h i:Nat) H,Z H->dP H c d ax->cG H 6 z [dQ e]->alh (∀u∈ [dQ e],tk kN I rop K (ah2 u)=true) 123 [c,.agg [.int .i64 j,.int .i64 o],.str h i,z] ad n H) λe q=>ang aN [dQ e] (ba e q).wt ai;obtain ⟨de,cI⟩:=dE (l:=p++g) (Q:=λe ad n=> ∀c d (j o:Int) (h i bq br:Nat) H,Z H->dP H c d ax->alh (ak4 kN I (ak3 kN rop K (ah2 (dQ e))) [.str bq br]=true) 128 [c,.agg [.int .i64 j,.int .i64 o],.str h i,.agg (dQ e),.str bq br] ad n H) λe q=>amY aN ((ba e q).wt _ (bs.2 rfl));obtain ⟨df,cJ⟩:=dE (l:=p++g) (Q:=λe ad n=> ∀z H,Z H->cG H 6 z [dQ e]-> ∃aj,(F aj ((eW ((py ([dQ e].map ah2)).flatMap ak9)).map iu)/\eC (eW ((py ([dQ e].map ah2)).flatMap ak9))/\(eW ((py ([dQ e].map ah2)).flatMap ak9)).length<=N)/\ ∀f,az G (X G R ad n) 130 [z] H f= .ok aj f H) λe q=>apF [dQ e] N ab (ba e q);obtain ⟨dg,cK⟩:=oZ 1048560 al;have dy:=aS;obtain ⟨dL,bu,b6,dI,b5,dS,dU,ec,cT,-,dz,bP,-,bK,q,-,-⟩:=aS.eq;have bf: [p,g].flatten=p++g:=ai;obtain ⟨c8,bZ⟩:=(Ds (.A [[b6],[b5]] true) [[b6],[b5]] [p,g] (.inr ⟨_,rfl⟩) (wG bP bK) rfl ai (by rw [bf];exact λe q=>(bI e q).row) (by rw [bf];unfold b7;omega) (by rw [bf];omega)).val;rw [bf] at bZ;obtain ⟨ds,dV,dW,dX,dY,dZ⟩:=aN.val;have dG:=aN.same;refine ⟨c7+c9+db+dc+dd+de+df+dg+c8+(p++g).length+N+2,λad n dC bh c H E aR=> ?_⟩;obtain ⟨n,rfl⟩:=bY n;have bw:=λh i H E f=>bw ad n ab ab (h,i) trivial H f E;have bx:=λh i j o H E f=>bx ad n ab ab h i j o H f E;have bz:=λh i j o H E f=>bz ad n ab ab h i j o H f E;have bA:=λh i j o H E f=>bA ad n ab ab h i j o H f E;have cP:=aR;obtain ⟨id,D,du,dN,rfl,bg,cR,cQ⟩:=aR;have cN:=dP.te (ax:=ax) cQ;obtain ⟨cc,bn,cu⟩:=bZ ad n ab ab H E;have cO:=A3 bP bK H;have dB:=bg;obtain ⟨dT,dt,dM,dw,ea,rfl,-⟩:=aN.bT.eq;rw [cT] at bg;simp only [bl,a6] at bg;obtain ⟨L,bD⟩: ∃L,L=amQ kN I rop K (p++g):=⟨_,rfl⟩;rw [<-bD];have bC:L↔((p++g).map sQ).Nodup/\ ∀e∈p++g,amt kN I rop K e:=by rw [bD];rfl
 clear bD;have bU: ∀(c:Int) (aR:c≠0) h i j o aZ r,U H r-> ¬L->ak (alG L) (alF L) H (fin G [] (.aK (.iface 78 (.agg [.int .i64 c,.str h i,.int .i64 j,.int .i64 o])) aZ r [])):=λc aR h i j o aZ r bR bh=>by simp only [go_sem];exact ak.al7 E bR aR bh
 have ca: ∀aj,fA aj-> ∀aZ r,U H r-> ¬L->ak (alG L) (alF L) H (fin G [] (.aK aj aZ r [])):=λaj aC aZ r bR bh=>by simp only [go_sem];exact ak.amw E bR aC bh
 refine ama (aL.at (m:=89) rfl rfl rfl rfl rfl rfl rfl rfl ?_);simp only [go_sem,bg,cR,bP.O,bK.O,cO,bH,cu,bn.O,bn.len];have hF:=trivial;generalize cM:a1 _ _ _ _ _ _ _ _ _ _=bt;revert bt;refine cv [0,19] (λs=> [(2,s.1)]) (λs=>s.2) (λv s=>bd H.n 9 1 v s.2 (((p++g).take v).map sQ) s.1/\(Z s.2/\U H s.2)/\(((p++g).take v).map sQ).Nodup/\ ∀e∈(p++g).take v,amt kN I rop K e) (p++g).length (.V,H) ⟨bd.nil,⟨E,U.refl _⟩,ai,ai⟩ ?_ ?_
 . rintro v ⟨aj,w⟩ f cV ⟨aC,⟨av,M⟩,bj,bk⟩ hF;simp only at aC av M hF|-;obtain ⟨z,aX⟩: ∃e,(p++g)[v]? =some e:=⟨(p++g)[v],by simp only [lj cV]⟩;have aO:=aV aX;have c1:=λe (q:e∈(p++g).take (v+1))=>tT aX q;have aH: ¬amt kN I rop K z-> ¬L:=λaU bB=>aU ((bC.1 bB).2 z aO);have b1: ¬(((p++g).take (v+1)).map sQ).Nodup-> ¬L:=λaU bB=>aU (((bC.1 bB).1).sublist ((aos _ _).map _));have bm:b8 (((p++g).take v).map sQ):=λe q=>by obtain ⟨cf,bS,rfl⟩:=cd.1 q;obtain ⟨cp,cq,cg,ao,aq,rfl,⟨B,C,rfl,b4⟩,-⟩:=bI cf (hQ bS);exact ⟨B,C,rfl,b4⟩
   have c0:=aC.cw (qK bm);have bG:=cP.up E.1 M;have aB:=λz j o h i=>cH ad n ab ab _ aO z (.ptr id D 0 14) d j o h i w av bG;have aD:=λj o h i bq br=>cI ad n ab ab _ aO (.ptr id D 0 14) d j o h i bq br w av bG;have aJ:=λz=>cJ ad n ab ab _ aO z w av;have cA:=λh i=>cK ad n ab ab aj _ h i w bm da av c0;have ct:=λh i f=>bw h i w av f;have cx:=λh i j o f=>bx h i j o w av f;have cy:=λh i j o f=>bz h i j o w av f;have cz:=λh i j o f=>bA h i j o w av f;have c3:=(ba z aO).wt _ (bs.2 rfl);have bE:=jc c3 w;obtain ⟨dH,dx,dv,dR,cE,cU,cS,-⟩:=bG;cases cE;have a7:((p++g).take (v+1)).map sQ=((p++g).take v).map sQ++ [sQ z]:=by rw [fg,aX];simp
   obtain ⟨cp,cq,cg,ao,aq,rfl,⟨B,C,rfl,b4⟩,⟨aw,aA,rfl,-⟩,cL,⟨ao,rfl⟩,⟨aq,rfl⟩⟩:=bI z aO;obtain ⟨af,ag,P,S,T,ae,ah,u,dK,dJ,rfl,c5,c4⟩:=cL.t;simp only [bl,a6] at aX;have cB:dQ ([.str B C,.str aw aA]++ [.int .i64 af,.int .i64 ag,.str P S,.str T ae,ah,u]++ [.int .i64 ao,.int .i64 aq])= [.int .i64 af,.int .i64 ag,.str P S,.str T ae,ah,u]:=rfl;rw [cB] at aB aD aJ bE;have cC:sQ ([.str B C,.str aw aA]++ [.int .i64 af,.int .i64 ag,.str P S,.str T ae,ah,u]++ [.int .i64 ao,.int .i64 aq])= [.str B C]:=rfl;rw [cC] at a7;rw [a7] at b1;have b2:=ans (a:=B) (b:=C) bm;have bc:amt kN I rop K ([.str B C,.str aw aA]++ [.int .i64 af,.int .i64 ag,.str P S,.str T ae,ah,u]++ [.int .i64 ao,.int .i64 aq])↔my kN aw aA=true/\tk kN I rop K (ah2 [.int .i64 af,.int .i64 ag,.str P S,.str T ae,ah,u])=true/\ak4 kN I (ak3 kN rop K (ah2 [.int .i64 af,.int .i64 ag,.str P S,.str T ae,ah,u])) [.str aw aA]=true/\
    ∀y∈(py ([[.int .i64 af,.int .i64 ag,.str P S,.str T ae,ah,u]].map ah2)).flatMap ak9,y=(1,36):=Iff.rfl
   rw [propext bc] at aH;simp only [bs,forall_eq] at aB;simp only [fS,rG] at aJ aH bc;generalize ah2 [.int .i64 af,.int .i64 ag,.str P S,.str T ae,ah,u]=aI at aB aD aJ aH bc;refine au.bM (λf r=>w=r/\ ∃bV,aM 90 [(21,.int .i64 (v:Nat)),(20,.int .i64 ((p++g).length:Nat)),(0,.ptr id D 0 14),(2,aj),(19,cc),(4,.W bV [.str B C,.str aw aA,.int .i64 af,.int .i64 ag,.str P S,.str T ae,ah,u,.int .i64 ao,.int .i64 aq])] f) ?_ ?_
   . simp only [go_sem,hF,bn.O,bn.a_ (k:=10) aX rfl,c5.J,c4.J];exact an.mk ⟨rfl,_,by simp only [go_sem,hF];trivial⟩
   clear hF;rintro f _ ⟨rfl,bV,hF⟩;refine au.bF hF (λaF f r=>w=r/\ ∃bW,aM 90 [(5,.W bW [.int .i64 ao,.int .i64 aq])] f/\aF f) ?_ ?_
   . simp only [go_sem,hF];exact an.mk ⟨rfl,_,by simp only [go_sem,hF];trivial⟩
   clear hF;rintro f _ ⟨rfl,bW,hF⟩;refine au.bM (λf r=>(w=r/\((((p++g).take v).map sQ++ [[aa.str B C]]).Nodup/\my kN aw aA=true))/\aM 90 [(21,.int .i64 (v:Nat)),(20,.int .i64 ((p++g).length:Nat)),(0,.ptr id D 0 14),(2,aj),(19,cc),(4,.W bV [.str B C,.str aw aA,.int .i64 af,.int .i64 ag,.str P S,.str T ae,ah,u,.int .i64 ao,.int .i64 aq]),(5,.W bW [.int .i64 ao,.int .i64 aq])] f) ?_ ?_
   . simp only [go_sem,hF,aC.O,cA];refine an.aE ?_ ?_<;>intro a8<;>simp only [go_sem,hF,a8,cy]
     . exact an.stop rfl (bU 14 al _ _ _ _ _ _ M (b1 λar=>(anI.1 ar).2.2 _ (b2.1 a8) _ (bs.2 rfl) rfl))
     simp only [go_sem,hF,cU,cS,cN,ds,ct];refine an.aE ?_ ?_<;>intro D<;>simp only [go_sem,hF,D,cx]
     . exact an.mk ⟨⟨rfl,anI.2 ⟨bj,ai,λcf bS ed c6 bu=>by rw [bs.1 c6] at bu;subst bu;rw [b2.2 bS] at a8;cases a8⟩,D⟩,ay⟩
     . exact an.stop rfl (bU 13 al _ _ _ _ _ _ M (aH λar=>by rw [ar.1] at D;cases D))
   clear hF;rintro f _ ⟨⟨rfl,ch,cj⟩,hF⟩;refine au.bF hF (λaF f r=>(w=r/\tk kN I rop K aI=true)/\aF f) ?_ ?_
   . have aB:=aB (.A [[.int .i64 af,.int .i64 ag,.str P S,.str T ae,ah,u]] true) ao aq B C (.inl (.inr ⟨_,rfl⟩));simp only [go_sem,hF,bE,bH];rcases aB with ⟨aG,aB⟩|⟨cF,⟨bJ,aG⟩,aB⟩
     . simp only [go_sem,aB];exact an.mk ⟨⟨rfl,aG⟩,ay⟩
     . simp only [go_sem,aB];exact an.stop rfl (ca _ bJ _ _ M (aH λar=>aG ar.2.1))
   clear hF;rintro f _ ⟨⟨rfl,ck⟩,hF⟩;refine au.bF hF (λaF f r=>(w=r/\ak4 kN I (ak3 kN rop K aI) [.str aw aA]=true)/\aF f) ?_ ?_
   . have aD:=aD ao aq B C aw aA;simp only [go_sem,hF];rcases aD with ⟨aG,aD⟩|⟨cF,⟨bJ,aG⟩,aD⟩
     . simp only [go_sem,aD];exact an.mk ⟨⟨rfl,aG⟩,ay⟩
     . simp only [go_sem,aD];exact an.stop rfl (ca _ bJ _ _ M (aH λar=>aG ar.2.2.1))
   clear hF;rintro f _ ⟨⟨rfl,cm⟩,hF⟩;refine au.bF hF (λaF f r=>(w=r/\ ∀y∈(py ([aI])).flatMap ak9,y=(1,36))/\aF f) ?_ ?_
   . obtain ⟨eb,⟨aY,dj,dh⟩,aJ⟩:=aJ (.A [[.int .i64 af,.int .i64 ag,.str P S,.str T ae,ah,u]] true) (.inl (.inr ⟨_,rfl⟩));have bN: ∀y,y∈eW ((py [aI]).flatMap ak9)↔y∈(py [aI]).flatMap ak9:=λy=>aal _ y;have bO: ¬(∀y∈(py [aI]).flatMap ak9,y=(1,36))-> ¬L:=λaU=>aH λar=>aU ar.2.2.2;simp only [<-bN] at bO;generalize eW ((py [aI]).flatMap ak9)=aP at aY dj dh bO bN;simp only [go_sem,hF,bE,bH,aJ,aY.O,aY.len];generalize cM:a1 _ _ _ _ _ _ _ _ _ _=bt;revert bt;refine dA [21,20,0,2,19,4,5,72] (λv=> ∀y∈aP.take v,y=(1,36)) (aP.map iu).length ai (hlf:=da) (hN:=da) ?_ ?_
     . intro bp dq f cW bb hF;obtain ⟨⟨dk,dm⟩,bQ⟩: ∃e,aP[bp]? =some e:=⟨aP[bp]'(by simpa using cW),ai⟩;have cZ:(aP.map iu)[bp]? =some (iu (dk,dm)):=by rw [hO,bQ];rfl
       have cX:=aV bQ;have c2:=λe (q:e∈aP.take (bp+1))=>apM bQ q;simp only [go_sem,hF,aY.O,aY.a_ (k:=1) cZ rfl,iu];refine au.aE ?_ ?_<;>intro D<;>simp only [go_sem,hF,D,cz]
       all_goals first
        |exact au.next () rfl (λe q=>by rcases c2 e q with q|rfl;exact bb e q;simpa using D) ay
        |exact au.stop rfl (by simp only [go_sem];exact an.stop rfl (bU 17 al _ _ _ _ _ _ M (bO λar=>by have:=ar _ cX;simp at D this;exact D this.1 this.2)))
     . intro dq f bb hF;rw [di,bX] at bb;simp only [go_sem];exact an.mk ⟨⟨rfl,λy cY=>bb y ((bN y).2 cY)⟩,ay⟩
   clear hF;rintro f _ ⟨⟨rfl,cn⟩,hF⟩;obtain ⟨dr,r,cD,b3,b0⟩:=aC.app (x:= .A [[.str B C]] true) (b:=16) (k:=1) oe nI rfl rfl al al av M.n bm.rows (aQ:= [[.str B C]]) rfl (λu aW=>by rw [bs.1 aW];exact ⟨rfl,λaj aC=>by rw [bs.1 aC];exact ⟨rfl,rfl⟩⟩)
    (by simp only [di,h6,cl,h5];unfold b7;omega) og
   simp only [go_sem,hF,aC.O,b3.O,cD];exact au.next (dr,r) rfl ⟨by rw [a7];exact b3,⟨b0.tidy,b0.up H (aT _) M⟩,by rw [a7];exact ch,λu aW=>by rcases c1 u aW with aW|rfl;exact bk u aW;exact bc.2 ⟨cj,ck,cm,cn⟩⟩ ay
 . rintro ⟨aj,w⟩ f ⟨aC,⟨av,M⟩,bj,bk⟩ hF;rw [bX] at bj bk;simp only at M|-;simp only [go_sem];exact ak.ame E M (bC.2 ⟨bj,bk⟩)
def alJ (kN c rop d p a:Y) (x:List aa) (e:Y):Prop:=(ak5 p a (kt x 0).1 (kt x 0).2).2.2=true/\((ak5 p a (kt x 0).1 (kt x 0).2).2.1=true↔kt x 1≠(0,0))/\(∀f∈e,Es f x=false)/\(alU kN c rop d (ah2 (dd x))/\(cu x).length<=1)/\
 (∀b∈cu x,tk kN c rop d (ah2 b)=true)/\ ∀b∈ [dd x]++cu x,ak4 kN c (ak3 kN rop d (ah2 b)) [.str (ak5 p a (kt x 0).1 (kt x 0).2).1.1 (ak5 p a (kt x 0).1 (kt x 0).2).1.2]=true
def arq {ax:aa} {s:List aa} {kN B rop C bX:Y} (aC:dO ax s kN B rop C bX) {d:List aa} {c5 p P c6:Y} (cC:fz d s kN B rop C bX c5 p P c6)
    {x:List aa} (bs:lG x) {N:Nat} (hT:bL (dd x::cu x) N) (hN:N<100000):
    bo λad n=> ∀c aA D H,Z H->dP H c d ax->F aA D->(∀y∈D,lG y)->D.length<ad->D.length<1048560->alh (alJ kN B rop C p P x D) 132 [c,.agg x,aA] ad n H:=by
 obtain ⟨dz,dI,j,ao,aw,az,rfl,⟨k,o,rfl,-⟩,⟨T,V,rfl,-⟩,aF,⟨g,af,bP,-⟩,⟨u,rfl⟩,⟨w,rfl⟩⟩:=id bs;have bI:dd ([.str k o,.str T V]++j++ [ao,.int .i64 u,.int .i64 w])=j:=by unfold dd;rw [fu,qh ai];simp [aF.len]
 have bJ:cu ([.str k o,.str T V]++j++ [ao,.int .i64 u,.int .i64 w])=g:=by obtain ⟨bB,bC,bw,bx,bz,bA,bD,av,bT,c1,a7,-,-⟩:=aF.ea;obtain ⟨rfl,-⟩:=a7;exact bm af
 rw [bI,bJ] at hT;have cH:=hT.len;simp only [cl] at cH;obtain ⟨cq,dj⟩:=hT.g_ (dF ..);obtain ⟨cS,cf⟩:=apC (ax:=ax) cC;obtain ⟨cT,cg⟩:=(apx aC cq ab).val;obtain ⟨cU,ch⟩:=ang aC g bP ab;obtain ⟨cV,cj⟩:=dE (l:=j::g) (Q:=λb ad n=> ∀c d (aw az:Int) (h i bU bW:Nat) H,Z H->dP H c d ax->alh (ak4 kN B (ak3 kN rop C (ah2 b)) [.str bU bW]=true) 128 [c,.agg [.int .i64 aw,.int .i64 az],.str h i,.agg b,.str bU bW] ad n H) λb aG=>amY aC (hT.wt b aG);obtain ⟨cX,ck⟩:=gu 13 al;obtain ⟨cY,cm⟩:=gu 15 al;obtain ⟨cZ,cn⟩:=gu 14 al;obtain ⟨c0,cp⟩:=gu 16 al;obtain ⟨c8,dK,dM,dN,dQ,dR⟩:=aC.val;have dt:=aC.same;have cr:=wI (LW aF.same);refine ⟨cS+cT+cU+cV+cX+cY+cZ+c0+g.length+5,λad n ds aW c aA D H ah ar bh bO cx dn=> ?_⟩;obtain ⟨n,rfl⟩: ∃c2,n=c2+4:=⟨n-4,ab⟩;have bu:=bs.row;obtain ⟨I,bg⟩: ∃I,I=alJ kN B rop C p P ([.str k o,.str T V]++j++ [ao,.int .i64 u,.int .i64 w]) D:=⟨_,rfl⟩;rw [<-bg];have K:I↔(ak5 p P k o).2.2=true/\((ak5 p P k o).2.1=true↔(T,V)≠(0,0))/\(∀y∈D,Es y ([.str k o,.str T V]++j++ [ao,.int .i64 u,.int .i64 w])=false)/\(alU kN B rop C (ah2 j)/\g.length<=1)/\(∀b∈g,tk kN B rop C (ah2 b)=true)/\
   ∀b∈ [j]++g,ak4 kN B (ak3 kN rop C (ah2 b)) [.str (ak5 p P k o).1.1 (ak5 p P k o).1.2]=true:=by
  rw [bg];unfold alJ;rw [bI,bJ];rfl
 clear bg;generalize bt: [.str k o,.str T V]++j++ [ao,.int .i64 u,.int .i64 w]=x at*;have E:Z (H.push (.cells (q 85) (q 85) 0 x)):=ah.push (ba.2 λR aH=>fR _ 20 20 R al (bu.2 R aH).2);have L:U H (H.push (.cells (q 85) (q 85) 0 x)):=(U.refl H).push _;generalize bf:H.push (.cells (q 85) (q 85) 0 x)=f at*;have bQ:f.n=H.n+1:=by rw [<-bf];rfl
 have z:f.get H.n=some (.cells (q 85) (q 85) 0 x):=by rw [<-bf];exact dL _ _
 have bj:=ar.up ah.1 L;have aB:=λh i=>cf ad (n+3) ab ab c h i f E bj;obtain ⟨_,⟨dc,rfl,dm⟩,bG⟩:=cg ad (n+3) ab ab f E;have ae:=λh i=>ch ad (n+3) ab ab ao c d u w h i f E bj af.cw;have b6:=λh i a=>ck ad (n+3) ab ab h i u w f a E;have b7:=λh i a=>cm ad (n+3) ab ab h i u w f a E;have b8:=λh i a=>cn ad (n+3) ab ab h i u w f a E;have b9:=λh i a=>cp ad (n+3) ab ab h i u w f a E;have cB:=I8 aA (Ye H) D (λy=>Es y x) bh (λy aj=>(bO y aj).row.1) ab rfl (λ_=>rfl) ad (n+1) cx f E (λy aj a=>by simp only [eg,a6,bl];have:=Yf x y bs (bO y aj) ad n f E (by rw [bQ,tD];exact z) a;rw [bQ,tD] at this;exact this);have cy:=ar;obtain ⟨id,bb,dh,dG,rfl,dq,dp,cD⟩:=ar;have cv:=dP.te (ax:=ax) cD;have cz:=bj;obtain ⟨dv,bK,di,dH,cb,cF,cE,-⟩:=cz;cases cb;have bN:=jc aF f;obtain ⟨bB,bC,bw,bx,bz,bA,bD,av,bT,c1,a7,-,-⟩:=aF.ea;have aS:=a7.eq;obtain ⟨-,-,-,-,-,bS,du,-,-⟩:=a7;have a8: ∀(c:Int) (ar:c≠0) h i aw az aR e,U H e-> ¬I->ak (alG I) (alF I) H (fin G [] (.aK (.iface 78 (.agg [.int .i64 c,.str h i,.int .i64 aw,.int .i64 az])) aR e [])):=λc ar h i aw az aR e bq aW=>by simp only [go_sem];exact ak.al7 ah bq ar aW
 have c4: ∀R,fA R-> ∀aR e,U H e-> ¬I->ak (alG I) (alF I) H (fin G [] (.aK R aR e [])):=λR aH aR e bq aW=>by simp only [go_sem];exact ak.amw ah bq aH aW
 generalize alU kN B rop C (ah2 j)=c3 at*;refine ama (aL.at (m:=92) rfl rfl rfl rfl rfl (by simp only [aO,bh.aD];rfl) rfl rfl ?_);have hF:=trivial;refine ak.np [0,2,6] (λS a e=>f=e/\M a 4= .ptr H.n (q 85) 0 11/\S a) ?_ ?_
 . have ct:x.all J=true:=ba.2 λR aH=>(bu.2 R aH).1;have cQ:=bu.1;simp only [go_sem,ct,cQ,bf];exact an.mk ⟨rfl,dC⟩
 rintro a _ ⟨rfl,hF⟩;rw [aS] at bt;simp only [bl,a6] at bt;rw [<-bt] at z;rw [aS] at cr bG bN;refine ak.bM (λa e=>f=e/\aM 95 [(0,.ptr id bb 0 14),(4,.ptr H.n (q 85) 0 11),(2,aA),(6,.W 0 [.int .i64 u,.int .i64 w])] a) ?_ ?_
 . simp only [go_sem,hF,z];exact an.mk ⟨rfl,ay⟩
 clear hF;rintro a _ ⟨rfl,hF⟩;have aB:=aB k o;generalize ak5 p P k o=b5 at aB K;obtain ⟨⟨aJ,aP⟩,bV,ok⟩:=b5;simp only at aB K;refine ak.bF hF (λS a e=>f=e/\aM 95 [(7,.str aJ aP),(8,.bool bV),(9,.bool ok)] a/\S a) ?_ ?_
 . simp only [go_sem,hF,z,aB];exact an.mk ⟨rfl,ay⟩
 clear hF;rintro a _ ⟨rfl,hF⟩;refine ak.bM (λa e=>(f=e/\ok=true/\(bV=true↔(T,V)≠(0,0))/\(∀y∈D,Es y x=false)/\c3/\g.length<=1)/\aM 95 [(0,.ptr id bb 0 14),(4,.ptr H.n (q 85) 0 11),(6,.W 0 [.int .i64 u,.int .i64 w]),(7,.str aJ aP)] a) ?_ ?_
 . simp only [go_sem,hF];refine an.aE ?_ ?_<;>intro bK<;>simp only [go_sem,hF,bK,z,b6]
   all_goals try exact an.stop rfl (a8 13 al _ _ _ _ _ _ L λr=>by have:=(K.1 r).1;simp_all)
   refine an.aE ?_ ?_<;>intro bc<;>simp only [go_sem,hF,bc,z,b7]
   all_goals try exact an.stop rfl (a8 15 al _ _ _ _ _ _ L λr=>by have:=(K.1 r).2.1;simp at bc;grind)
   simp only [go_sem,hF,bh.O,cB];refine an.aE ?_ ?_<;>intro bd<;>simp only [go_sem,hF,bd,z,b8]
   all_goals try exact an.stop rfl (a8 14 al _ _ _ _ _ _ L λr=>by obtain ⟨y,aj,bE⟩:=kB.1 bd;rw [(K.1 r).2.2.1 y aj] at bE;cases bE)
   simp only [go_sem,hF,cF,cE,cv,c8,z,bG]
   iterate 3 all_goals try (refine an.aE ?_ ?_<;>intro cd<;>simp only [go_sem,hF,cd,z,af.O,af.len,b9])
   all_goals first
    |exact an.stop rfl (a8 16 al _ _ _ _ _ _ L λr=>by
     have:=(K.1 r).2.2.2.1
     simp_all;try omega)
    |exact an.mk ⟨⟨rfl,de,by simp at bc;grind,λy aj=>by simpa using CP.1 bd y aj,by simp_all;try omega⟩,ay⟩
 clear hF;rintro a _ ⟨⟨rfl,b0,b1,b2,b3⟩,hF⟩;refine ak.bF hF (λS a e=>(f=e/\ ∀b∈g,tk kN B rop C (ah2 b)=true)/\S a) ?_ ?_
 . have ae:=ae k o;simp only [go_sem,hF,z,af.O];rcases ae with ⟨X,ae⟩|⟨cc,⟨bk,X⟩,ae⟩
   . simp only [go_sem,ae];exact an.mk ⟨⟨rfl,X⟩,ay⟩
   . simp only [go_sem,ae];exact an.stop rfl (c4 _ bk _ _ L λr=>X (K.1 r).2.2.2.2.1)
 clear hF;rintro a _ ⟨⟨rfl,b4⟩,hF⟩;have aY: ∀b∈ [j]++g,aN b:=hT.wt;rw [aS] at aY;obtain ⟨c7,e,ca,cN,bn⟩:=pq (n0:=H.n) (c:=1) (H:=f) (rows:= [[.int .i64 bB,.int .i64 bC,.str bw bx,.str bz bA,bD,av]]) (aQ:=g) (v:= .A [[.int .i64 bB,.int .i64 bC,.str bw bx,.str bz bA,bD,av]] true) (x:=ao) (.inr (.inl rfl)) E L.n (λb ag=>aY b (hP _ ag)) af.cw bP da ab;have br:=bn.up H (aT _) L;have aX:=cN.cw (λb ag=>(aY b ag).len);have cA:=cy.up ah.1 br;have cG:=bn.other _ _ z (by simp [cW]);refine ak.bF hF (λS a bY=>e=bY/\aM 95 [(81,c7),(82,.int .i64 ((g.length+1:Nat):Int)),(83,.int .i64 0)] a/\S a) ?_ ?_
 . simp only [go_sem,hF,z,bN,bH,af.O,ca,aX.O,aX.len];exact an.mk ⟨rfl,ay⟩
 clear hF;rintro a _ ⟨rfl,hF⟩;simp only [go_sem];generalize dk:a1 _ _ _ _ _ _ _ _ _ _=bZ;revert bZ;refine dA [0,4,6,7,81] (λaI=> ∀b∈([j]++g).take aI,ak4 kN B (ak3 kN rop C (ah2 b)) [.str aJ aP]=true) (g.length+1) ai ?_ ?_
 . intro aI s a dr aU hF;obtain ⟨x,aZ⟩: ∃b,([j]++g)[aI]? =some b:=⟨([j]++g)[aI]'da,ai⟩;have aG:=aV aZ;have aq:=cj ad (n+3) ab ab x aG (.ptr id bb 0 14) d u w k o aJ aP e bn.tidy cA;have cP:=hT.wt x aG;have cM:=λb (ag:b∈([j]++g).take (aI+1))=>tT aZ ag;have cJ:=λr=>(K.1 r).2.2.2.2.2 x aG;generalize cI:ak4 kN B (ak3 kN rop C (ah2 x)) [.str aJ aP]=dy at*;rw [aS] at aZ;obtain ⟨dD,cK,cL,bR,-⟩:=aX.at (λb ag=>(aY b ag).len) aZ;obtain ⟨dx,dB,c9,df,db,dg,dJ,dS,bT,dw,cO,bS,cR⟩:=cP.t;rw [cO] at bR aq;simp only [go_sem,hF,aX.O,cK,cL,bR,bS.J,cR.J,cG];rcases aq with ⟨X,aq⟩|⟨cc,⟨bk,X⟩,aq⟩
   . simp only [go_sem,aq];exact au.next () rfl (λav bp=>by rcases cM av bp with bp|rfl;exact aU av bp;rw [cI,X]) ay
   . simp only [go_sem,aq];exact au.stop rfl (by simp only [go_sem];exact ak.amw ah br bk λr=>X (cJ r))
 . intro s a aU hF;rw [fT ai] at aU;simp only [go_sem];exact ak.ame ah br (K.2 ⟨b0,b1,b2,b3,b4,aU⟩)
def aoI (kN d rop e f:Y) (cs:Y) (n:Nat):Prop:= ∀b<n,∀a c,cs[b]? =some a->f[b]? =some c->tk kN d rop e (ah2 a)=true/\ak4 kN d (ak3 kN rop e (ah2 a)) [M c 1]=true
def anV (kN a rop b c:Y) (cs:Y):Prop:=aoI kN a rop b c cs cs.length
def anj (kN e rop g b:Y) (d:Nat×Nat) (r:List aa):Prop:=(∀a∈f (M r 3),d≠(0,0)/\(cC a).length=b.length)/\(∀a∈f (M r 3),anV kN e rop g b (cC a))/\
 (∀c∈f (M r 4),(f (M r 1)).any (KL (kt c 0).1 (kt c 0).2)=true)/\(f (M r 4)).Nodup
def aro {ax:aa} {s:List aa} {kN v rop w cg:Y} (aF:dO ax s kN v rop w cg) {d:List aa} {c2 p E c4:Y} (bC:fz d s kN v rop w cg c2 p E c4)
    {r:List aa} (o:lI r):bo λad n=> ∀c (ao aq:Int) H,Z H->dP H c d ax->alh (anj kN v rop w E (kt d 8) r) 135 [c,.agg [.int .i64 ao,.int .i64 aq],.agg r] ad n H:=by
 obtain ⟨dI,bP,aB,ch,bU,ar,av,rfl,⟨aX,aY,rfl,-⟩,⟨aU,bd,b5,di⟩,⟨dr,ba,-,-⟩,⟨C,V,bN,dk⟩,⟨B,P,aQ,dd⟩,⟨cb,rfl⟩,⟨cc,rfl⟩⟩:=o;have dg:=bC.n1;have b6: ∀f∈(C.map cC).flatten,aN f:=λf T=>by obtain ⟨D,cH,T⟩:=kD.1 T;obtain ⟨r,o,rfl⟩:=cd.1 cH;obtain ⟨c,rfl,⟨c3,ag,aw,-⟩⟩:=bN r o;rw [show cC [c]=c3 from bm ag] at T;exact aw f T
 obtain ⟨cQ,ag⟩:=dE (l:=(C.map cC).flatten) (Q:=λf ad n=> ∀y c d (ar av:Int) (D F:Nat) H,Z H->dP H c d ax->cG H 6 y [f]->alh (∀r∈ [f],tk kN v rop w (ah2 r)=true) 123 [c,.agg [.int .i64 ar,.int .i64 av],.str D F,y] ad n H) λf T=>ang aF [f] (λy cM=>by rw [bs.1 cM];exact b6 f T) ai;obtain ⟨cR,aw⟩:=dE (l:=(C.map cC).flatten) (Q:=λr ad n=> ∀c d (ar av:Int) (D F ca bO:Nat) H,Z H->dP H c d ax->alh (ak4 kN v (ak3 kN rop w (ah2 r)) [.str ca bO]=true) 128 [c,.agg [.int .i64 ar,.int .i64 av],.str D F,.agg r,.str ca bO] ad n H) λf T=>amY aF (b6 f T);obtain ⟨cS,cr⟩:=gu 15 al;obtain ⟨cT,ct⟩:=gu 13 al;obtain ⟨cU,cu⟩:=gu 14 al;obtain ⟨cV,cx⟩:=oZ 1048560 al;refine ⟨cQ+cR+cS+cT+cU+cV+1048570,λad n df bc c ao aq H aA aP=> ?_⟩;obtain ⟨n,rfl⟩: ∃c1,n=c1+4:=⟨n-4,ab⟩;have bY:=aP;obtain ⟨id,bx,c8,dQ,rfl,aR,bD,dc⟩:=aP;obtain ⟨dS,c7,dN,db,dV,rfl,-⟩:=aF.bT.eq;obtain ⟨dJ,bt,dM,ds,dB,dR,dT,dW,b0,-,b1,dh,⟨bk,bn,rfl,-⟩,bb,dj,-,-⟩:=bC.eq;rw [b0] at aR;simp only [bl,a6] at aR;have cF:kt d 8=(bk,bn):=by rw [b0];rfl
 obtain ⟨I,bz⟩: ∃I,I=anj kN v rop w E (kt d 8) [.str aX aY,bP,aB,ch,bU,.int .i64 cb,.int .i64 cc]:=⟨_,rfl⟩;rw [<-bz];have aO:I↔(∀R∈C,(bk,bn)≠(0,0)/\(cC R).length=E.length)/\(∀R∈C,anV kN v rop w E (cC R))/\(∀s∈B,aU.any (KL (kt s 0).1 (kt s 0).2)=true)/\B.Nodup:=by rw [bz,cF,<-bm V,<-bm P,<-bm bd];rfl
 clear bz;have bQ: ∀(c:Int) (aP:c≠0) D F ar av aW x,U H x-> ¬I->ak (alG I) (alF I) H (fin G [] (.aK (.iface 78 (.agg [.int .i64 c,.str D F,.int .i64 ar,.int .i64 av])) aW x [])):=λc aP D F ar av aW x bL bc=>by simp only [go_sem];exact ak.al7 aA bL aP bc
 have cf: ∀bS,fA bS-> ∀aW x,U H x-> ¬I->ak (alG I) (alF I) H (fin G [] (.aK bS aW x [])):=λbS cL aW x bL bc=>by simp only [go_sem];exact ak.amw aA bL cL bc
 refine ama (aL.at (m:=116) rfl rfl rfl rfl rfl rfl rfl rfl ?_);refine ak.bM (λe x=>H=x/\aM 119 [(0,.ptr id bx 0 14),(4,.W 0 [.int .i64 ao,.int .i64 aq]),(5,.W 0 [.str aX aY,bP,aB,ch,bU,.int .i64 cb,.int .i64 cc])] e) ?_ ?_
 . simp only [go_sem,bd.J,ba.J,V.J,P.J];exact an.mk ⟨rfl,dC⟩
 rintro e _ ⟨rfl,hF⟩;refine ak.bF hF (λaI e x=>(H=x/\ ∀r∈C,(bk,bn)≠(0,0)/\(cC r).length=E.length)/\aI e) ?_ ?_
 . simp only [go_sem,hF,V.O,V.len];generalize a8:a1 _ _ _ _ _ _ _ _ _ _=af;revert af;refine dA [0,4,5,17] (λg=> ∀r∈C.take g,(bk,bn)≠(0,0)/\(cC r).length=E.length) C.length ai ?_ ?_
   . intro g s e az i hF;obtain ⟨y,u⟩:=bA az;have aT:=λr (o:r∈C.take (g+1))=>tT u o;have S:=λh=>(aO.1 h).1 y (aV u);obtain ⟨aZ,rfl,⟨ah,N,bZ,cB⟩⟩:=bN y (aV u);have aD:cC [aZ]=ah:=bm N;rw [aD] at S;have ck:=λD F e=>cr ad (n+3) ab ab D F ao aq H e aA;simp only [go_sem,hF,V.O,V.a_ (k:=1) u rfl,N.J,aR,bD]
     iterate 3 all_goals try (refine au.aE ?_ ?_<;>intro K<;>simp only [go_sem,hF,K,ck,N.O,N.len,aR,bD,bb.O,bb.len])
     all_goals first
      |exact au.stop rfl (by simp only [go_sem];exact an.stop rfl (bQ 15 al _ _ _ _ _ _ (U.refl _) λh=>by have:=S h;simp_all;try omega))
      |exact au.next () rfl (λr o=>by
       rcases aT r o with o|rfl
       . exact i r o
       . rw [aD];refine ⟨de,?_⟩;simp at*;omega) ay
   . intro s e i hF;rw [bX] at i;simp only [go_sem];exact an.mk ⟨⟨rfl,i⟩,ay⟩
 clear hF;rintro e _ ⟨⟨rfl,bW⟩,hF⟩;refine ak.bF hF (λaI e x=>(H=x/\ ∀R∈C,anV kN v rop w E (cC R))/\aI e) ?_ ?_
 . simp only [go_sem,hF,V.O,V.len];generalize a8:a1 _ _ _ _ _ _ _ _ _ _=af;revert af;refine dA [0,4,5,47] (λg=> ∀R∈C.take g,anV kN v rop w E (cC R)) C.length ai ?_ ?_
   . intro g s e az i hF;obtain ⟨y,u⟩:=bA az;have aG:=aV u;have aT:=λr (o:r∈C.take (g+1))=>tT u o;have S:=λh=>(aO.1 h).2.1 y aG;have cI:=(bW y aG).2;obtain ⟨aZ,rfl,⟨ah,N,bZ,cB⟩⟩:=bN y aG;have aD:cC [aZ]=ah:=bm N;rw [aD] at cI S;have b2: ∀f∈ah,f∈(C.map cC).flatten:=λf T=>kD.2 ⟨ah,cd.2 ⟨[aZ],aG,aD⟩,T⟩;simp only [go_sem,hF,V.O,V.a_ (k:=1) u rfl,N.J,N.O,N.len];generalize a8:a1 _ _ _ _ _ _ _ _ _ _=af;revert af;refine dA [0,4,5,47,48,49,54] (λg=>aoI kN v rop w E ah g) ah.length (λaB ba=>absurd ba (aiZ _)) ?_ ?_
     . intro aH c5 e b3 bB hF;obtain ⟨f,bf⟩:=bA b3;obtain ⟨br,aS⟩: ∃r,E[aH]? =some r:=⟨E[aH]'ab,ai⟩;have bK:=aV bf;have b7:=bZ f bK;have bI:I->tk kN v rop w (ah2 f)=true/\ak4 kN v (ak3 kN rop w (ah2 f)) [M br 1]=true:=λh=>S h aH b3 f br bf aS;have b9:tk kN v rop w (ah2 f)=true/\ak4 kN v (ak3 kN rop w (ah2 f)) [M br 1]=true->aoI kN v rop w E ah (aH+1):=λb1 aB ba c6 cY ag aw=>by
        rcases qk aB aH with aF|aF
        . exact bB aB aF c6 cY ag aw
        . obtain rfl:aB=aH:=ab;rw [bf] at ag;rw [aS] at aw;cases ag;cases aw;exact b1
       have cz:=jc b7 H;have aJ:=ag ad (n+3) ab ab f (b2 f bK) (.A [f] true) (.ptr id bx 0 14) d ao aq aX aY H aA bY (.inl (.inr ⟨_,rfl⟩));obtain ⟨dD,bO,dw,cZ,c0,rfl,⟨cW,cX,rfl,-⟩,⟨bp,bq,rfl,-⟩,cJ,⟨cZ,rfl⟩,⟨c0,rfl⟩⟩:=bC.hm br (aV aS);have a7:=aw ad (n+3) ab ab f (b2 f bK) (.ptr id bx 0 14) d ao aq aX aY bp bq H aA bY;have cE: ∀cj,M ([aa.str cW cX,.str bp bq]++cj) 1= .str bp bq:=λ_=>rfl;rw [fu,cE] at bI b9;obtain ⟨mk,dF,dX,dY,dZ,eb,dH,dG,dz,dy,aG,-,-⟩:=cJ.ea;obtain ⟨rfl,-⟩:=aG;simp only [bl,a6] at aS;simp only [bs,forall_eq] at aJ;generalize tk kN v rop w (ah2 f)=c9 at*;generalize ak4 kN v (ak3 kN rop w (ah2 f)) [.str bp bq]=dx at*;obtain ⟨dv,dK,dm,dn,dp,dq,dU,bR,du,dt,rfl,cO,cN⟩:=b7.t;simp only [go_sem,hF,N.O,N.a_ (k:=6) bf rfl,cO.J,cN.J,cz,bH];rcases aJ with ⟨bu,aJ⟩|⟨cq,⟨bG,bu⟩,aJ⟩<;>simp only [go_sem,hF,aJ]
       rotate_left
       . exact au.stop rfl (by simp only [go_sem];exact au.stop rfl (by simp only [go_sem];exact an.stop rfl (cf _ bG _ _ (U.refl _) λh=>bu (bI h).1)))
       simp only [go_sem,hF,aR,bD,bb.O,bb.a_ (k:=10) aS rfl];rcases a7 with ⟨bw,a7⟩|⟨cq,⟨bG,bw⟩,a7⟩<;>simp only [go_sem,a7]
       rotate_left
       . exact au.stop rfl (by simp only [go_sem];exact au.stop rfl (by simp only [go_sem];exact an.stop rfl (cf _ bG _ _ (U.refl _) λh=>bw (bI h).2)))
       exact au.next () rfl (b9 ⟨bu,bw⟩) ay
     . intro c5 e bB hF;simp only [go_sem];exact au.next () rfl (λR bE=>by rcases aT R bE with bE|rfl;exact i R bE;rw [aD];exact bB) ay
   . intro s e i hF;rw [bX] at i;simp only [go_sem];exact an.mk ⟨⟨rfl,i⟩,ay⟩
 clear hF;rintro e _ ⟨⟨rfl,cK⟩,hF⟩;refine ak.bF hF.2 (λaI e x=>((Z x/\U H x)/\ ∀s∈B,aU.any (KL (kt s 0).1 (kt s 0).2)=true)/\aI e) ?_ ?_
 . simp only [go_sem,hF,P.O,P.len];generalize a8:a1 _ _ _ _ _ _ _ _ _ _=af;revert af;refine cv [4,5,86] (λ_=> []) (λz=>z) (λg z=>(Z z/\U H z)/\ ∀s∈B.take g,aU.any (KL (kt s 0).1 (kt s 0).2)=true) B.length H ⟨⟨aA,U.refl _⟩,ai⟩ ?_ ?_
   . rintro g z e az ⟨⟨bh,bg⟩,i⟩ hF;obtain ⟨y,u⟩:=bA az;have aT:=λr (o:r∈B.take (g+1))=>tT u o;have S:=λh=>(aO.1 h).2.2.1 y (aV u);obtain ⟨X,ae,rfl,-⟩:=aQ y (aV u);have bj:Z (z.push (.cells (q 9) (q 9) 0 [.str X ae])):=bh.push rfl;have b8:U H (z.push (.cells (q 9) (q 9) 0 [.str X ae])):=bg.push _;have cl:=λD F e=>ct ad (n+3) ab ab D F ao aq (z.push (.cells (q 9) (q 9) 0 [.str X ae])) e bj;have cA:=I8 bP (.fn (.func 198) [] [.ptr z.n (q 9) 0 1]) aU (KL X ae) bd (λaC aj=>(b5 aC aj).row.1) ab rfl (λ_=>rfl) ad (n+1) ab (z.push (.cells (q 9) (q 9) 0 [.str X ae])) bj (λaC aj e=>by simp only [eg,a6,bl];exact Wr aC (b5 aC aj) X ae ad n _ bj z.n (dL _ _) e);simp only [go_sem,hF,P.O,P.a_ (k:=1) u rfl,bd.O,cA];refine au.aE ?_ ?_<;>intro K<;>simp only [go_sem,hF,K,cl]
     all_goals first
      |exact au.stop rfl (by simp only [go_sem];exact an.stop rfl (bQ 13 al _ _ _ _ _ _ b8 λh=>by have ag:aU.any (KL X ae)=true:=S h;rw [ag] at K;cases K))
      |exact au.next _ rfl ⟨⟨bj,b8⟩,λbR bJ=>by rcases aT bR bJ with bJ|rfl;exact i bR bJ;exact K⟩ ay
   . rintro z e ⟨cy,i⟩ hF;rw [bX] at i;simp only [go_sem];exact an.mk ⟨⟨cy,i⟩,ay⟩
 clear hF;rintro e z ⟨⟨⟨bh,bg⟩,cD⟩,hF⟩;have cm:=λD F e=>cu ad (n+3) ab ab D F ao aq z e bh;simp only [go_sem,hF,P.O,P.len];generalize a8:a1 _ _ _ _ _ _ _ _ _ _=af;revert af;refine dA [4,5,102] (λg=>(B.take g).Nodup) B.length ai ?_ ?_
 . rintro g _ e az i hF;obtain ⟨y,u⟩:=bA az;have bV:B.take (g+1)=B.take g++ [y]:=by rw [fg,u];rfl
   have S:I->(B.take (g+1)).Nodup:=λh=>(aO.1 h).2.2.2.sublist (aos _ _);rw [bV] at S;obtain ⟨X,ae,rfl,-⟩:=aQ y (aV u);obtain ⟨aC,cp,aj⟩:=P.fG (k:=1) (qK aQ) (j:=g) ab;have cn:=cx ad (n+3) ab ab aC (B.take g) X ae z (λr o=>aQ r (hQ o)) da bh aj.cw;simp only [go_sem,hF,P.O,P.a_ (k:=1) u rfl,cp,aj.O,cn];have b4:=ans (a:=X) (b:=ae) (L:=B.take g) λr o=>aQ r (hQ o);refine au.aE ?_ ?_<;>intro K<;>simp only [go_sem,hF,K,cm]
   . exact au.stop rfl (by simp only [go_sem];exact bQ 14 al _ _ _ _ _ _ bg λh=>(anI.1 (S h)).2.2 _ (b4.1 K) _ (bs.2 rfl) rfl)
   . exact au.next () rfl (by show (B.take (g+1)).Nodup;rw [bV];exact anI.2 ⟨i,ai,λaC aj cj cP bt=>by rw [bs.1 cP] at bt;subst bt;rw [b4.2 aj] at K;cases K⟩) ay
 . intro s e i hF;rw [bX] at i;simp only [go_sem];exact ak.ame aA bg (aO.2 ⟨bW,cK,cD,i⟩)
def alL (kN a rop b p d:Y) (i:Nat×Nat) (r:List aa) (h:Y):Prop:=([M r 0]∉h/\f (M r 1)≠ [])/\(∀c g,(f (M r 1))[c]? =some g->alJ kN a rop b p d g ((f (M r 1)).take c))/\alY ((pf r).map ah2)/\
 al6 ((Ly r).map ah2) ((Lz r++f (M r 2)++Lx r).map ah2)/\(∀e∈f (M r 2),tk kN a rop b (ah2 e)=true/\ak4 kN a (ak3 kN rop b (ah2 e)) [.str 4 1819242306]=true)/\anj kN a rop b d i r
def ars {ax:aa} {s:List aa} {kN u rop w dI:Y} (aZ:dO ax s kN u rop w dI) {d:List aa} {e8 p aC e9:Y} (df:fz d s kN u rop w dI e8 p aC e9)
    {r:List aa} (ae:lI r) {N:Nat} (hT:bL (pf r) N) (hN:N<50000):bo λad n=> ∀c bk S H,Z H->dP H c d ax->cG H 1 bk S->b8 S->S.length<=1048560->alh (alL kN u rop w p aC (kt d 8) r S) 68 [c,.agg r,bk] ad n H:=by
 obtain ⟨e1,eo⟩:=aro aZ df ae;obtain ⟨e5,av,z,aJ,aY,bh,bj,rfl,⟨aj,ao,rfl,-⟩,⟨e,aI,cN,fx⟩,⟨C,ar,dj,fv⟩,⟨y,bq,eP,fB⟩,⟨fj,ey,fs,fr⟩,⟨D,rfl⟩,⟨E,rfl⟩⟩:=ae;have c5:pf [.str aj ao,av,z,aJ,aY,.int .i64 D,.int .i64 E]=e.map dd++((e.map cu).flatten++C++(y.map cC).flatten):=by show (f av).map dd++(((f av).map cu).flatten++f z++((f aJ).map cC).flatten)=_;rw [bm aI,bm ar,bm bq]
 rw [c5] at hT;have eC:=hT.len;simp only [bD,di] at eC;have cq:=hT.left;have bc:=hT.right;have cJ:=bc.left.left;have fl:=bc.left.right;have c8:=bc.right;have dh: [(e.map cu).flatten,C,(y.map cC).flatten].flatten=(e.map cu).flatten++C++(y.map cC).flatten:=ai;obtain ⟨eS,ed⟩:=dE (l:=e) (Q:=λo ad n=> ∀c bk S H,Z H->dP H c d ax->F bk S->(∀cl∈S,lG cl)->S.length<ad->S.length<1048560->alh (alJ kN u rop w p aC o S) 132 [c,.agg o,bk] ad n H) λo bG=>arq aZ df (cN o bG) (N:=N+N) ((cq.one (cd.2 ⟨o,bG,rfl⟩)).app (cJ.flat (cd.2 ⟨o,bG,rfl⟩))) ab;obtain ⟨eU,ef⟩:=dE (l:=(u5 (e.map cu).flatten).flatMap λo=>(u5 (y.map cC).flatten).map λfg=>(o,fg)) (Q:=λI ad n=>F I.1 (e.map cu).flatten->F I.2 (y.map cC).flatten-> ∀H,Z H->
   ∃bI,F bI ((e.map cu).flatten++C++(y.map cC).flatten)/\ ∀g,az G (X G R ad n) 133 [.A [[I.1],[z],[I.2]] true] H g= .ok bI g H) λI _=>by
  by_cases bx:F I.1 (e.map cu).flatten/\F I.2 (y.map cC).flatten
  . have dm:=bc.len;have fm:=(I7 (.A [[I.1],[z],[I.2]] true) [[I.1],[z],[I.2]] [(e.map cu).flatten,C,(y.map cC).flatten] (.inr ⟨_,rfl⟩) (Zn bx.1 ar bx.2) rfl ai (by rw [dh];exact aN.rows bc.wt) (by rw [dh];unfold b7;omega) ah).val
    simp_all
  simp_all;exact ⟨0,λ_ _ _ _=>trivial⟩
 obtain ⟨eV,eg⟩:=apD (e.map dd++((e.map cu).flatten++C++(y.map cC).flatten)) N ab hT;obtain ⟨eW,eh⟩:=apB (e.map dd) ((e.map cu).flatten++C++(y.map cC).flatten) N N ab ab cq bc;obtain ⟨eX,ei⟩:=dE (l:=C) (Q:=λq ad n=> ∀o c d (bh bj:Int) (aA aB:Nat) H,Z H->dP H c d ax->cG H 6 o [q]->alh (∀r∈ [q],tk kN u rop w (ah2 r)=true) 123 [c,.agg [.int .i64 bh,.int .i64 bj],.str aA aB,o] ad n H) λq dp=>ang aZ [q] ah ai;obtain ⟨eY,ej⟩:=dE (l:=C) (Q:=λr ad n=> ∀c d (bh bj:Int) (aA aB dy dB:Nat) H,Z H->dP H c d ax->alh (ak4 kN u (ak3 kN rop w (ah2 r)) [.str dy dB]=true) 128 [c,.agg [.int .i64 bh,.int .i64 bj],.str aA aB,.agg r,.str dy dB] ad n H) λq dp=>amY aZ (dj q dp);obtain ⟨eZ,ek⟩:=gu 14 al;obtain ⟨e0,en⟩:=gu 15 al;obtain ⟨eT,ee⟩:=oZ 1048560 al;refine ⟨eS+eU+eV+eW+eX+eY+eZ+e0+e1+eT+1048570,λad n fw cx c bk S H aS bV cK db eu=> ?_⟩;obtain ⟨n,rfl⟩: ∃e4,n=e4+4:=⟨n-4,ab⟩;have dc:=bV;obtain ⟨id,aP,fi,fE,rfl,ft,fq,fp⟩:=bV;obtain ⟨aX,cI⟩: ∃aX,aX=alL kN u rop w p aC (kt d 8) [.str aj ao,av,z,aJ,aY,.int .i64 D,.int .i64 E] S:=⟨_,rfl⟩;rw [<-cI];have bb:aX↔([.str aj ao]∉S/\e≠ [])/\(∀h o,e[h]? =some o->alJ kN u rop w p aC o (e.take h))/\alY ((e.map dd++((e.map cu).flatten++C++(y.map cC).flatten)).map ah2)/\
   al6 ((e.map dd).map ah2) (((e.map cu).flatten++C++(y.map cC).flatten).map ah2)/\(∀q∈C,tk kN u rop w (ah2 q)=true/\ak4 kN u (ak3 kN rop w (ah2 q)) [.str 4 1819242306]=true)/\
   anj kN u rop w aC (kt d 8) [.str aj ao,av,z,aJ,aY,.int .i64 D,.int .i64 E]:=by
  rw [cI,<-c5,<-bm bq,<-bm ar,<-bm aI];rfl
 clear cI;generalize alY ((e.map dd++((e.map cu).flatten++C++(y.map cC).flatten)).map ah2)=dN at*;generalize al6 ((e.map dd).map ah2) (((e.map cu).flatten++C++(y.map cC).flatten).map ah2)=dM at*;generalize anj kN u rop w aC (kt d 8) [.str aj ao,av,z,aJ,aY,.int .i64 D,.int .i64 E]=fh at*;have dD: ∀(c:Int) (bV:c≠0) aA aB bh bj cj i,U H i-> ¬aX->ak (alG aX) (alF aX) H (fin G [] (.aK (.iface 78 (.agg [.int .i64 c,.str aA aB,.int .i64 bh,.int .i64 bj])) cj i [])):=λc bV aA aB bh bj cj i cP cx=>by simp only [go_sem];exact ak.al7 aS cP bV cx
 have ch: ∀bI,fA bI-> ∀cj i,U H i-> ¬aX->ak (alG aX) (alF aX) H (fin G [] (.aK bI cj i [])):=λbI eK cj i cP cx=>by simp only [go_sem];exact ak.amw aS cP eK cx
 have dT:=λaA aB g=>ek ad (n+3) ab ab aA aB D E H g aS;have dU:=λaA aB g=>en ad (n+3) ab ab aA aB D E H g aS;have dS:=λaA aB=>ee ad (n+3) ab ab bk S aA aB H db eu aS cK;refine ama (aL.at (m:=114) rfl rfl rfl rfl rfl (by simp only [aO,cK.aD];rfl) rfl rfl ?_);have hF:=trivial;refine ak.np [0,2,6] (λK g i=>H=i/\M g 4= .W 0 [.str aj ao,av,z,aJ,aY,.int .i64 D,.int .i64 E]/\K g) ?_ ?_
 . simp only [go_sem,aI.J,ar.J,bq.J,ey.J];exact an.mk ⟨rfl,dC⟩
 rintro g _ ⟨rfl,hF⟩;refine ak.np [0,4,2] (λK g i=>H=i/\M g 6= .W 0 [.int .i64 D,.int .i64 E]/\K g) ?_ ?_
 . simp only [go_sem,hF];exact an.mk ⟨rfl,ay⟩
 clear hF;rintro g _ ⟨rfl,hF⟩;have dn:=ans (a:=aj) (b:=ao) db;refine ak.np [0,4,6] (λK g i=>(H=i/\ [aa.str aj ao]∉S/\e≠ [])/\K g) ?_ ?_
 . simp only [go_sem,hF,cK.O,dS];refine an.aE ?_ ?_<;>intro cn<;>simp only [go_sem,hF,cn,dT]
   all_goals try exact an.stop rfl (dD 14 al _ _ _ _ _ _ (U.refl _) λL=>(bb.1 L).1.1 (dn.1 cn))
   rw [<-Bool.not_eq_true,dn] at cn;simp only [go_sem,hF,aI.O,aI.len];refine an.aE ?_ ?_<;>intro cp<;>simp only [go_sem,hF,cp,dU]
   all_goals first
    |exact an.stop rfl (dD 15 al _ _ _ _ _ _ (U.refl _) λL=>(bb.1 L).1.2 (by simpa using cp))
    |exact an.mk ⟨⟨rfl,cn,λaZ=>by rw [aZ] at cp;simp at cp⟩,ay⟩
 clear hF;rintro g _ ⟨⟨rfl,eD,eE⟩,hF⟩;refine ak.bF hF (λK g i=>H=i/\aM 117 [(7,.V),(8,.V),(9,.V)] g/\K g) ?_ ?_
 . simp only [go_sem];exact an.mk ⟨rfl,ay⟩
 clear hF;rintro g _ ⟨rfl,hF⟩;refine ak.np [0,4,6] (λK g i=> ∃P aq,((bd H.n 35 6 e.length i (e.map dd) P/\bd H.n 35 6 (e.map cu).flatten.length i (e.map cu).flatten aq/\cc P aq/\Z i/\U H i)/\ ∀h o,e[h]? =some o->alJ kN u rop w p aC o (e.take h))/\M g 7=P/\M g 8=aq/\M g 9= .V/\K g) ?_ ?_
 . simp only [go_sem,hF,aI.O,aI.len];generalize c7:a1 _ _ _ _ _ _ _ _ _ _=bK;revert bK;refine hz _ _ _ _ (σ:=aa×aa×af) (λs=> [(0,.ptr id aP 0 14),(4,.W 0 [.str aj ao,av,z,aJ,aY,.int .i64 D,.int .i64 E]),(6,.W 0 [.int .i64 D,.int .i64 E]),(7,s.1),(8,s.2.1),(9,.V),(40,av)]) (λs=>s.2.2) (λh s=>bd H.n 35 6 h s.2.2 ((e.take h).map dd) s.1/\bd H.n 35 6 ((e.take h).map cu).flatten.length s.2.2 ((e.take h).map cu).flatten s.2.1/\cc s.1 s.2.1/\(Z s.2.2/\U H s.2.2)/\ ∀z<h,∀o,e[z]? =some o->alJ kN u rop w p aC o (e.take z)) 117 e.length (.V,.V,H) rfl rfl (λ_=>rfl) rfl
    ⟨bd.nil,bd.nil,cc.nil,⟨aS,U.refl _⟩,λz ar=>absurd ar (aiZ _)⟩ ay ab ab ?_ ?_
   . rintro h ⟨P,aq,ba⟩ g b0 ⟨B,ag,bZ,⟨bz,bf⟩,aF⟩ hF;simp only at B ag bZ bz bf hF|-;obtain ⟨o,aw⟩:=bA b0;have bw:=λL=>(bb.1 L).2.1 h o aw;have b5:alJ kN u rop w p aC o (e.take h)-> ∀z<h+1,∀o,e[z]? =some o->alJ kN u rop w p aC o (e.take z):=λcM z ar cl b4=>by
      rcases qk z h with aZ|aZ
      . exact aF z aZ cl b4
      . obtain rfl:z=h:=ab;rw [aw] at b4;cases b4;exact cM
     have b1:=aV aw;have eR:=cN o b1;have cT:=Wo dd aw;have cU:=HH cu aw;have bE: ∀r∈(e.take h).map dd,aN r:=λr ae=>cq.wt r ah;have cQ: ∀r∈((e.take h).map cu).flatten,aN r:=λr ae=>cJ.wt r (by grind);have dk:((e.take h).map cu).flatten.length+(cu o).length<=(e.map cu).flatten.length:=by rw [<-bD,<-cU];simp only [List.length_flatten,tB];exact si _ _ _
     obtain ⟨ff,ec,du⟩:=aI.fG (k:=11) (λcl b4=>(cN cl b4).row.1) (j:=h) ab;have bn:=ed ad (n+3) ab ab o b1 (.ptr id aP 0 14) ff (e.take h) ba bz (dc.up aS.1 bf) du ah ah ah;generalize alJ kN u rop w p aC o (e.take h)=dR at*;obtain ⟨e5,fF,c1,cD,cA,cB,rfl,⟨cX,cZ,rfl,-⟩,⟨cY,c0,rfl,-⟩,bU,⟨dx,cz,eQ,-⟩,⟨cA,rfl⟩,⟨cB,rfl⟩⟩:=eR;have c4:dd ([.str cX cZ,.str cY c0]++c1++ [cD,.int .i64 cA,.int .i64 cB])=c1:=by unfold dd;rw [fu,qh ai];simp [bU.len]
     have c9:=jc bU ba;obtain ⟨cf,cg,b6,b9,ca,cb,ck,I,e3,e2,dt,-,-⟩:=bU.ea;have c6:=dt.eq;obtain ⟨-,-,-,-,-,cS,cR,-,-⟩:=dt;rw [c6] at aw b1 cT cU dk bn c4 c9 bU;clear c6;have dV:cu ([.str cX cZ,.str cY c0]++ [.int .i64 cf,.int .i64 cg,.str b6 b9,.str ca cb,ck,I]++ [cD,.int .i64 cA,.int .i64 cB])=dx:=bm cz;rw [c4] at cT;rw [dV] at cU dk;simp only [bl,a6] at aw bn;obtain ⟨fb,bJ,dW,b2,ct⟩:=pq (n0:=H.n) (c:=h) (H:=ba) (rows:=(e.take h).map dd) (aQ:= [[.int .i64 cf,.int .i64 cg,.str b6 b9,.str ca cb,ck,I]]) (v:=P) (x:= .A [[.int .i64 cf,.int .i64 cg,.str b6 b9,.str ca cb,ck,I]] true) B bz bf.n bE (.inl (.inr ⟨_,rfl⟩)) (λr ae=>by rw [bs.1 ae];exact bU) da da;have eL:=ag.bS ct bZ;have dg:=bZ.grow ag ct;have a7:=ct.up H (aT _) bf;obtain ⟨fc,aU,dX,eM,cv⟩:=pq (n0:=H.n) (c:=((e.take h).map cu).flatten.length) (H:=bJ) (rows:=((e.take h).map cu).flatten) (aQ:=dx) (v:=aq) (x:=cD) eL ct.tidy a7.n cQ cz.cw eQ ab ab;have fy:=b2.bS cv dg.symm;have ew:=(dg.symm.grow b2 cv).symm;have a8:=cv.up H (aT _) a7;refine au.bM (λg i=>ba=i/\ ∃dJ,aM 117 [(42,.int .i64 (h:Nat)),(41,.int .i64 (e.length:Nat)),(0,.ptr id aP 0 14),(4,.W 0 [.str aj ao,av,z,aJ,aY,.int .i64 D,.int .i64 E]),(6,.W 0 [.int .i64 D,.int .i64 E]),(7,P),(8,aq),(9,.V),(40,av),(10,.int .i64 (h:Nat)),(11,.W dJ [.str cX cZ,.str cY c0,.int .i64 cf,.int .i64 cg,.str b6 b9,.str ca cb,ck,I,cD,.int .i64 cA,.int .i64 cB])] g) ?_ ?_
     . simp only [go_sem,hF,aI.O,aI.a_ (k:=11) aw rfl,cS.J,cR.J,cz.J];exact an.mk ⟨rfl,_,by simp only [go_sem,hF];trivial⟩
     clear hF;rintro g _ ⟨rfl,dJ,hF⟩;refine au.bF hF (λK g i=>(ba=i/\dR)/\K g) ?_ ?_
     . simp only [go_sem,hF,aI.O,ec,du.O];rcases bn with ⟨T,bn⟩|⟨bT,⟨aG,T⟩,bn⟩
       . simp only [go_sem,bn];exact an.mk ⟨⟨rfl,T⟩,ay⟩
       . simp only [go_sem,bn];exact an.stop rfl (an.stop rfl (ch _ aG _ _ bf λL=>T (bw L)))
     clear hF;rintro g _ ⟨⟨rfl,eG⟩,hF⟩;simp only [go_sem,hF,B.O,ag.O,cz.O,c9,bH,dW,dX,b2.O,eM.O];refine au.next (fb,fc,aU) rfl ⟨?_,?_,ew,⟨cv.tidy,a8⟩,b5 eG⟩ ay
     . rw [cT];omega
     grind
   . rintro ⟨P,aq,ba⟩ g ⟨cV,cW,dF,⟨dG,dH⟩,aF⟩ hF;simp only at cV cW dF dG dH hF;rw [bX] at cV cW;simp only [go_sem];exact an.mk ⟨P,aq,⟨⟨cV,cW,dF,dG,dH⟩,λh o bG=>aF h (e6.1 bG).1 o bG⟩,ay⟩
 clear hF;rintro g ba ⟨P,aq,⟨⟨B,ag,bZ,bz,bf⟩,eF⟩,hF⟩;have bE:=cq.wt;have cQ:=cJ.wt;refine ak.np [0,4,6,7,8] (λK g i=> ∃bg,(bd H.n 35 6 e.length i (e.map dd) P/\bd H.n 35 6 (e.map cu).flatten.length i (e.map cu).flatten aq/\bd H.n 35 6 (y.map cC).flatten.length i (y.map cC).flatten bg/\cc bg P/\cc bg aq/\Z i/\U H i)/\M g 9=bg/\K g) ?_ ?_
 . simp only [go_sem,hF,bq.O,bq.len];generalize c7:a1 _ _ _ _ _ _ _ _ _ _=bK;revert bK;refine hz _ _ _ _ (σ:=aa×af) (λs=> [(0,.ptr id aP 0 14),(4,.W 0 [.str aj ao,av,z,aJ,aY,.int .i64 D,.int .i64 E]),(6,.W 0 [.int .i64 D,.int .i64 E]),(7,P),(8,aq),(9,s.1),(65,aJ)]) (λs=>s.2) (λh s=>bd H.n 35 6 e.length s.2 (e.map dd) P/\bd H.n 35 6 (e.map cu).flatten.length s.2 (e.map cu).flatten aq/\bd H.n 35 6 ((y.take h).map cC).flatten.length s.2 ((y.take h).map cC).flatten s.1/\cc s.1 P/\cc s.1 aq/\Z s.2/\U H s.2) 117 y.length (.V,ba) rfl rfl (λ_=>rfl) rfl
    ⟨B,ag,bd.nil,cc.nil.symm,cc.nil.symm,bz,bf⟩ ay ab ab ?_ ?_
   . rintro h ⟨bg,bJ⟩ g b0 ⟨B,ag,bp,bW,bY,b3,a7⟩ hF;simp only at B ag bp bW bY b3 a7 hF|-;obtain ⟨o,aw⟩:=bA b0;have b1:=aV aw;have dz:=HH cC aw;have eO: ∀r∈((y.take h).map cC).flatten,aN r:=λr ae=>c8.wt r (by grind);have eB:((y.take h).map cC).flatten.length+(cC o).length<=(y.map cC).flatten.length:=by rw [<-bD,<-dz];simp only [List.length_flatten,tB];exact si _ _ _
     obtain ⟨cm,rfl,⟨c2,cr,ev,fo⟩⟩:=eP o b1;have eb:cC [cm]=c2:=bm cr;rw [eb] at dz eB;obtain ⟨fe,aU,cH,eN,aH⟩:=pq (n0:=H.n) (c:=((y.take h).map cC).flatten.length) (H:=bJ) (rows:=((y.take h).map cC).flatten) (aQ:=c2) (v:=bg) (x:=cm) bp b3 a7.n eO cr.cw ev ab ab;simp only [go_sem,hF,bq.O,bq.a_ (k:=1) aw rfl,cr.J,cr.O,bp.O,cH,eN.O];exact au.next (fe,aU) rfl ⟨B.bS aH bW,ag.bS aH bY,ah,bW.grow B aH,bY.grow ag aH,aH.tidy,aH.up H (aT _) a7⟩ ay
   . rintro ⟨bg,bJ⟩ g aF hF;simp only at aF hF;rw [bX] at aF;simp only [go_sem];exact an.mk ah
 clear hF B ag bz bf;rintro g bJ ⟨bg,⟨B,ag,bp,bW,bY,b3,a7⟩,hF⟩;have dm:=bc.len;simp only [bD] at dm;refine ak.bM (λg i=> ∃bt,(F bt ((e.map cu).flatten++C++(y.map cC).flatten)/\bd H.n 35 6 e.length i (e.map dd) P/\Z i/\U H i)/\aM 117 [(0,.ptr id aP 0 14),(4,.W 0 [.str aj ao,av,z,aJ,aY,.int .i64 D,.int .i64 E]),(6,.W 0 [.int .i64 D,.int .i64 E]),(7,P),(8,bt)] g) ?_ ?_
 . obtain ⟨dK,dL,aU,dY,dv,dw,bB,a8,ez⟩:=O_ b3 ag ar bp bY.symm (aN.rows cQ) (aN.rows c8.wt);have a8:=a8 H (aT _) a7;obtain ⟨bt,br,bN⟩:=ef ad (n+3) ab ab (dK,dL) (fC.2 ⟨dK,GB dv,cd.2 ⟨dL,GB dw,rfl⟩⟩) dv dw aU bB;have b2:bd H.n 35 6 e.length aU (e.map dd) P:=B.at λid e7 c3 aP=>ez id e7 aP (λbN=>bZ id c3 bN) (λbN=>bW id bN c3);simp only [go_sem,hF,ag.O,bp.O,ar.O,dY,bH,bN,br.O];exact an.mk ⟨bt,⟨br,b2,bB,a8⟩,ay⟩
 clear hF B ag bp b3 a7;rintro g aU ⟨bt,⟨br,B,bB,a8⟩,hF⟩;refine ak.bF hF (λK g i=>((cG i 6 P (e.map dd)/\Z i/\U H i)/\dN)/\K g) ?_ ?_
 . obtain ⟨cm,aW,⟨de,bC,aR⟩,dZ⟩:=Uj (ad:=ad) (n:=n+2) bB (B.cw λr ae=>(bE r ae).len) bE ah ah;obtain ⟨fa,dQ,cH,ds,aH⟩:=pq (n0:=aU.n) (c:=(e.map dd).length) (H:=aW) (rows:=e.map dd) (aQ:=(e.map cu).flatten++C++(y.map cC).flatten) (v:=cm) (x:=bt) de bC aR.n bE br.cw bc.wt ah ah;have eJ:=aH.up aU (aT _) aR;have dr:=aH.up H a8.n (a8.trans aR);have eH:=(B.cw λr ae=>(bE r ae).len).up bB.1 eJ;have bO:=eg ad (n+3) ab ab D E fa dQ aH.tidy (ds.cw λr ae=>(hT.wt r ae).len);simp only [go_sem,hF,B.O,dZ,de.O,br.O,cH,ds.O];rcases bO with ⟨T,bO⟩|⟨bT,⟨aG,T⟩,bO⟩
   . simp only [go_sem,bO];exact an.mk ⟨⟨⟨eH,aH.tidy,dr⟩,T⟩,ay⟩
   . simp only [go_sem,bO];exact an.stop rfl (ch _ aG _ _ dr λL=>T (bb.1 L).2.2.1)
 clear hF B bB a8;rintro g aW ⟨⟨⟨B,bC,aR⟩,er⟩,hF⟩;have cL:=dc.up aS.1 aR;refine ak.np [0,4,6] (λK g i=>(aW=i/\dM)/\K g) ?_ ?_
 . have bP:=eh ad (n+3) ab ab D E P bt aW bC B br.cw;simp only [go_sem,hF,B.O,br.O];rcases bP with ⟨T,bP⟩|⟨bT,⟨aG,T⟩,bP⟩
   . simp only [go_sem,bP];exact an.mk ⟨⟨rfl,T⟩,ay⟩
   . simp only [go_sem,bP];exact an.stop rfl (ch _ aG _ _ aR λL=>T (bb.1 L).2.2.2.1)
 clear hF;rintro g _ ⟨⟨rfl,ep⟩,hF⟩;refine ak.bF hF (λK g i=>(aW=i/\ ∀q∈C,tk kN u rop w (ah2 q)=true/\ak4 kN u (ak3 kN rop w (ah2 q)) [.str 4 1819242306]=true)/\K g) ?_ ?_
 . simp only [go_sem,hF,ar.O,ar.len];generalize c7:a1 _ _ _ _ _ _ _ _ _ _=bK;revert bK;refine dA [0,4,6,93] (λh=> ∀q∈C.take h,tk kN u rop w (ah2 q)=true/\ak4 kN u (ak3 kN rop w (ah2 q)) [.str 4 1819242306]=true) C.length ai ?_ ?_
   . intro h s g b0 aF hF;obtain ⟨q,cO⟩:=bA b0;have cy:=aV cO;have eI:=λr (ae:r∈C.take (h+1))=>tT cO ae;have bw:=λL=>(bb.1 L).2.2.2.2.1 q cy;have b5:tk kN u rop w (ah2 q)=true/\ak4 kN u (ak3 kN rop w (ah2 q)) [.str 4 1819242306]=true-> ∀q∈C.take (h+1),tk kN u rop w (ah2 q)=true/\ak4 kN u (ak3 kN rop w (ah2 q)) [.str 4 1819242306]=true:=λcM I bx=>by
      rcases eI I bx with bx|rfl
      . exact aF I bx
      . exact cM
     have dq:=dj q cy;have et:=jc dq aW;have bu:=ei ad (n+3) ab ab q cy (.A [q] true) (.ptr id aP 0 14) d D E aj ao aW bC cL (.inl (.inr ⟨_,rfl⟩));have bQ:=ej ad (n+3) ab ab q cy (.ptr id aP 0 14) d D E aj ao 4 1819242306 aW bC cL;simp only [bs,forall_eq] at bu;generalize tk kN u rop w (ah2 q)=fk at bw b5 bu;generalize ak4 kN u (ak3 kN rop w (ah2 q)) [.str 4 1819242306]=fD at bw b5 bQ;obtain ⟨cf,cg,b6,b9,ca,cb,ck,I,e3,e2,rfl,cS,cR⟩:=dq.t;simp only [go_sem,hF,ar.O,ar.a_ (k:=6) cO rfl,cS.J,cR.J,et,bH];rcases bu with ⟨cE,bu⟩|⟨bT,⟨aG,cE⟩,bu⟩<;>simp only [go_sem,hF,bu]
     rotate_left
     . exact au.stop rfl (by simp only [go_sem];exact an.stop rfl (ch _ aG _ _ aR λL=>cE (bw L).1))
     rcases bQ with ⟨cF,bQ⟩|⟨bT,⟨aG,cF⟩,bQ⟩<;>simp only [go_sem,bQ]
     rotate_left
     . exact au.stop rfl (by simp only [go_sem];exact an.stop rfl (ch _ aG _ _ aR λL=>cF (bw L).2))
     exact au.next () rfl (b5 ⟨cE,cF⟩) ay
   . intro s g aF hF;rw [bX] at aF;simp only [go_sem];exact an.mk ⟨⟨rfl,aF⟩,ay⟩
 clear hF;rintro g _ ⟨⟨rfl,eA⟩,hF⟩;have bR:=eo ad (n+3) ab ab (.ptr id aP 0 14) D E aW bC cL;simp only [go_sem,hF];rcases bR with ⟨T,bR⟩|⟨bT,⟨aG,T⟩,bR⟩
 . simp only [go_sem,bR];exact ak.ame aS aR (bb.2 ⟨⟨eD,eE⟩,eF,er,ep,eA,T⟩)
 . simp only [go_sem,bR];exact ak.amw aS aR aG λL=>T (bb.1 L).2.2.2.2.2
def alo (a H:af) (v:aa) (rows:Y) (B:Nat):Prop:=bd a.n 9 1 rows.length H rows v/\b8 rows/\rows.length<=B/\Z H/\U a H
def alo.O {a H v R B} (b:alo a H v R B) (t):O t v=v:=b.1.O t
def alo.nl {a H v R B} (b:alo a H v R B):aD v=true:=b.1.aD
def alo.app {c H v R B} (e:alo c H v R B) {x:aa} {aQ:Y} (r:cG H 1 x aQ) (f:b8 aQ) (t:B+aQ.length<1048560):
    ∃a H',cI G 22 22 v x H=some (a,H')/\alo c H' a (R++aQ) (B+aQ.length):=by
 obtain ⟨o,i,u,m,h⟩:=e;obtain ⟨a,H',l,q,g⟩:=o.app (x:=x) (b:=16) (k:=1) oe nI rfl rfl al al m h.n i.rows (r.elems (qK f)) f.rows (by unfold b7;omega) ab;exact ⟨a,H',l,by rw [bD];exact q,λj e=>(cr.1 e).elim (i j) (f j),uF,g.tidy,g.up c ab h⟩
def alo.mono {b H v R B C} (a:alo b H v R B) (c:B<=C):alo b H v R C:=⟨a.1,a.2.1,eT a.2.2.1 c,a.2.2.2⟩
def alE (x:List aa):Y:=if kt x 1=(0,0) then [] else [[M x 1]]
def alz (r:List aa):Y:= [[M r 0]]++f (M r 4)++(f (M r 1)).flatMap alE
def alW (d:List aa) (p aU ahI:Y):Y:= [[M d 0],[M d 11],[M d 12]]++(if kt d 8=(0,0) then [] else [[M d 8]])++(p++aU).map sQ++ahI.flatMap alz
def amb (r:List aa):Prop:=(f (M r 1)).length<=20/\(f (M r 2)).length<=20/\(f (M r 3)).length<=20/\(f (M r 4)).length<=20
def amT (d:List aa) (ahJ p aU ahI:Y):Prop:=((p.length<=12/\aU.length<=12/\ahI.length<=300/\ahJ.length<=300)/\ ∀e∈ahJ,(ali e).length<=20)/\(∀b∈ahI,amb b)/\
 (∀a∈alW d p aU ahI,isName (kt a 0).1 (kt a 0).2=true)/\ ∀c∈m1 ahJ p aU ahI,aln (ah2 c)=true
section
variable {d:List aa} {s:List aa} {kN aw rop ao aJ ahJ p aU ahI:Y} (aX:fz d s kN aw rop ao aJ ahJ p aU ahI)
include aX
theorem arp:dt 105 [.agg d] (λv=>F v (alW d p aU ahI)/\b8 (alW d p aU ahI)/\(alW d p aU ahI).length<1048560) bQ:=by
 have cZ:=aX.n1;have cY:=aX.iN;have bb: ∀j∈p++aU,iz j:=λj i=>(cr.1 i).elim (aX.b9 j) (aX.hm j);obtain ⟨c8,bB,aS,c6,aR,cx,c9,da,ag,⟨bn,bo,rfl,bk⟩,bV,aq,⟨P,Q,rfl,b6⟩,aj,i,⟨bq,br,rfl,ca⟩,⟨bu,bw,rfl,cb⟩⟩:=aX.eq;obtain ⟨cy,bx,cu,bL,cA,rfl,cE,cF,cG,cH,cI⟩:=aX.bT.eq;have aH: [p,aU].flatten=p++aU:=ai;obtain ⟨ck,aZ⟩:=(Ds (.A [[aS],[aR]] true) [[aS],[aR]] [p,aU] (.inr ⟨_,rfl⟩) (wG aq aj) rfl ai (by rw [aH];exact λj i=>(bb j i).row) (by rw [aH];unfold b7;grind) ah).val;rw [aH] at aZ;obtain ⟨aA,aG⟩: ∃az,az= [[M d 0],[M d 11],[M d 12]]:=⟨_,rfl⟩;obtain ⟨q,ae⟩: ∃az,az=aA++(if kt d 8=(0,0) then [] else [[M d 8]]):=⟨_,rfl⟩;have a7:alW d p aU ahI=q++(p++aU).map sQ++ahI.flatMap alz:=by rw [ae,aG];rfl
 have bf:kt d 8=(P,Q):=by rw [ag];rfl
 have bc:M d 8= .str P Q:=by rw [ag];rfl
 have bP:aA= [[.str bn bo],[.str bq br],[.str bu bw]]:=by rw [aG,ag];rfl
 rw [bf,bc] at ae;rw [a7];clear aG a7 bf bc;refine aL.run (m:=74) rfl rfl rfl rfl rfl rfl rfl rfl (ck+1048570) λcp cq bY cX n bj=> ?_;rw [ag];simp only [bl,a6];have av: ∀ {Y aC},T Y aC/\Y<4611686018427387904->b8 [[.str Y aC]]:=λaF j i=>by rw [bs.1 i];exact ⟨_,_,rfl,aF⟩
 refine ak.bM (λb l=>n=l/\aM 75 [(1,.W 0 [.str bn bo,cy,bx,cu,bL,cA,bB,aS,.str P Q,aR,cx,.str bq br,.str bu bw])] b) ?_ ?_
 . simp only [go_sem,cE.J,cF.J,cG.J,cH.J,cI.J,bV.J,aq.J,aj.J,i.J];exact an.mk ⟨rfl,dC⟩
 rintro b _ ⟨rfl,hF⟩;refine ak.bF hF (λu b l=> ∃v,alo n l v aA 3/\aM 75 [(3,v)] b/\u b) ?_ ?_
 . simp only [go_sem,hF];rw [bP];exact an.mk ⟨_,⟨.inr (.inl rfl),λj i=>by
    simp only [b2,dG,or_false] at i;rcases i with rfl|rfl|rfl
    . exact ⟨_,_,rfl,bk⟩
    . exact ⟨_,_,rfl,ca⟩
    . exact ⟨_,_,rfl,cb⟩,ai,bj,U.refl _⟩,ay⟩
 clear hF;rintro b e ⟨v,a,hF⟩;refine ak.np [1] (λu b l=> ∃v,alo n l v q 4/\M b 3=v/\u b) ?_ ?_
 . obtain ⟨z,B,C,o⟩:=a.app (x:= .A [[.str P Q]] true) (aQ:= [[.str P Q]]) (.inl (.inr ⟨_,rfl⟩)) (av b6) ai;simp only [go_sem,hF];refine an.aE ?_ ?_<;>intro D<;>simp only [go_sem,hF,D,a.O,C,o.O]
   all_goals first
    |exact an.mk ⟨z,by rw [ae,if_neg (by simpa using D)];exact o,ay⟩
    |exact an.mk ⟨v,by rw [ae,if_pos (by simpa using D),fw];exact a.mono al,ay⟩
 clear hF a;rintro b e ⟨v,a,hF⟩;refine ak.np [1] (λu b l=> ∃v,alo n l v (q++(p++aU).map sQ) (4+(p.length+aU.length))/\M b 3=v/\u b) ?_ ?_
 . have bR:Z e/\U n e:=a.2.2.2;obtain ⟨S,H,bC⟩:=aZ cp cq ab ab e bR.1;have bS:=A3 aq aj e;simp only [go_sem,hF,aq.O,aj.O,bS,bH,bC,H.O,H.len];generalize a8:a1 _ _ _ _ _ _ _ _ _ _=K;revert K;refine cv (σ:=aa×af) [1,30] (λs=> [(3,s.1)]) (λs=>s.2) (λc s=>alo n s.2 s.1 (q++((p++aU).take c).map sQ) (4+c)) (p++aU).length (v,e) (by simpa using a) (hlf:=ah) (hN:=ah) ?_ ?_
   . rintro c ⟨v,e⟩ b bd a hF;simp only at a hF|-;obtain ⟨I,w⟩: ∃j,(p++aU)[c]? =some j:=de;rw [bD] at bd;have ad:((p++aU).take (c+1)).map sQ=((p++aU).take c).map sQ++ [sQ I]:=by rw [fg,w];simp
     obtain ⟨cP,cQ,cJ,bz,bA,rfl,⟨g,h,rfl,b5⟩,⟨cL,cM,rfl,-⟩,bN,⟨bz,rfl⟩,⟨bA,rfl⟩⟩:=bb I (aV w);obtain ⟨z,B,C,o⟩:=a.app (x:= .A [[.str g h]] true) (aQ:= [[.str g h]]) (.inl (.inr ⟨_,rfl⟩)) (av b5) ah;obtain ⟨cn,ct,cf,cg,ch,cj,cz,aW,cm,cl,rfl,aK,aI⟩:=bN.t;simp only [bl,a6] at w;simp only [go_sem,hF,H.O,H.a_ (k:=10) w rfl,aK.J,aI.J,a.O,C,o.O];exact au.next (z,B) rfl (by show alo n B z (q++((p++aU).take (c+1)).map sQ) (4+c+1);rw [ad,<-fu];exact o) ay
   . rintro ⟨v,e⟩ b a hF;simp only at a hF;rw [bX,bD] at a;simp only [go_sem];exact an.mk ⟨v,a,ay⟩
 clear hF a;rintro b e ⟨v,a,hF⟩;refine ak.bM (λb l=> ∃v,alo n l v (q++(p++aU).map sQ++ahI.flatMap alz) (4+(p.length+aU.length)+(ahI.map ju).sum)/\aM 75 [(3,v)] b) ?_ ?_
 . simp only [go_sem,hF,i.O,i.len];generalize a8:a1 _ _ _ _ _ _ _ _ _ _=K;revert K;refine cv (σ:=aa×af) [43] (λs=> [(3,s.1)]) (λs=>s.2) (λc s=>alo n s.2 s.1 (q++(p++aU).map sQ++(ahI.take c).flatMap alz) (4+(p.length+aU.length)+((ahI.take c).map ju).sum)) ahI.length (v,e) (by simpa using a) (hlf:=(by have:=nV ahI;omega)) (hN:=(by have:=nV ahI;omega)) ?_ ?_
   . rintro c ⟨v,e⟩ b bd a hF;simp only at a hF|-;obtain ⟨I,w⟩: ∃j,ahI[c]? =some j:=de;have b0:=uu ju w;have cW:=wR ju ahI (c+1);have ad:=kR alz w;obtain ⟨c7,R,aN,S,G,Y,aC,rfl,⟨g,h,rfl,b4⟩,⟨y,E,bZ,c0⟩,⟨c5,bW,cU,cT⟩,⟨db,H,c2,bk⟩,⟨r,L,bU,cS⟩,⟨aO,rfl⟩,⟨aP,rfl⟩⟩:=aX.bh I ah;have bE:ju [.str g h,R,aN,S,G,.int .i64 aO,.int .i64 aP]=1+r.length+y.length:=by show 1+(f G).length+(f R).length=_;rw [bm E,bm L]
     have bG:alz [.str g h,R,aN,S,G,.int .i64 aO,.int .i64 aP]= [[.str g h]]++r++y.flatMap alE:=by show [[.str g h]]++f G++(f R).flatMap alE=_;rw [bm E,bm L]
     rw [bG] at ad;rw [bE] at b0;generalize cR:4+(p.length+aU.length)+((ahI.take c).map ju).sum=ax at*;have bK:q++(p++aU).map sQ++(ahI.take (c+1)).flatMap alz=q++(p++aU).map sQ++(ahI.take c).flatMap alz++ [[.str g h]]++r++y.flatMap alE:=by rw [ad];simp only [fu]
     generalize q++(p++aU).map sQ++(ahI.take c).flatMap alz=aB at*;refine au.np [45,44,43] (λu b l=>e=l/\ ∃bp,M b 3=v/\M b 7= .W bp [.str g h,R,aN,S,G,.int .i64 aO,.int .i64 aP]/\u b) ?_ ?_
     . simp only [go_sem,hF,i.O,i.a_ (k:=7) w rfl,E.J,bW.J,H.J,L.J];exact an.mk ⟨rfl,_,by simp only [go_sem,hF];trivial⟩
     clear hF;rintro b _ ⟨rfl,bp,hF⟩;obtain ⟨z,B,C,o⟩:=a.app (x:= .A [[.str g h]] true) (aQ:= [[.str g h]]) (.inl (.inr ⟨_,rfl⟩)) (av b4) ah;obtain ⟨bt,aY,bJ,ba⟩:=o.app (x:=G) (aQ:=r) L.cw bU ah;refine au.np [45,44,43,7] (λu b l=>aY=l/\M b 3=bt/\u b) ?_ ?_
     . simp only [go_sem,hF,L.O,a.O,C,o.O,bJ,ba.O];exact an.mk ⟨rfl,ay⟩
     clear hF;rintro b _ ⟨rfl,hF⟩;simp only [go_sem,hF,E.O,E.len];generalize a8:a1 _ _ _ _ _ _ _ _ _ _=K;revert K;refine cv [45,44,43,58] (λs=> [(3,s.1)]) (λs=>s.2) (λc s=>alo n s.2 s.1 (aB++ [[.str g h]]++r++(y.take c).flatMap alE) (ax+1+r.length+c)) y.length (bt,aY) (by simpa using ba) ?_ ?_
     . rintro N ⟨v,e⟩ b cV a hF;simp only at a hF|-;obtain ⟨I,ar⟩: ∃j,y[N]? =some j:=ah;obtain ⟨cN,cO,cK,dd,cB,cC,rfl,⟨dc,df,rfl,-⟩,⟨V,X,rfl,cc⟩,bO,⟨c4,cd,c3,-⟩,⟨cB,rfl⟩,⟨cC,rfl⟩⟩:=bZ I (aV ar);obtain ⟨cn,ct,cf,cg,ch,cj,cz,aW,cm,cl,rfl,aK,aI⟩:=bO.t;have aD:=kR alE ar;have bI: ∀aW cD,alE (aW:: .str V X::cD)=if (V,X)=(0,0) then [] else [[.str V X]]:=λ_ _=>rfl
       simp only [bl,a6,bI] at aD;obtain ⟨z,B,C,o⟩:=a.app (x:= .A [[.str V X]] true) (aQ:= [[.str V X]]) (.inl (.inr ⟨_,rfl⟩)) (av cc) ah;simp only [bl,a6] at ar;simp only [go_sem,hF,E.O,E.a_ (k:=11) ar rfl,aK.J,aI.J,cd.J];refine au.aE ?_ ?_<;>intro D<;>simp only [go_sem,hF,D,a.O,C,o.O]
       all_goals first
        |exact au.next (z,B) rfl (by show alo n B z (aB++ [[.str g h]]++r++(y.take (N+1)).flatMap alE) (ax+1+r.length+N+1);rw [aD,if_neg (by simpa using D),<-fu];exact o) ay
        |exact au.next (v,e) rfl (by show alo n e v (aB++ [[.str g h]]++r++(y.take (N+1)).flatMap alE) (ax+1+r.length+(N+1));rw [aD,if_pos (by simpa using D),fw];exact a.mono ab) ay
     . rintro ⟨v,e⟩ b a hF;simp only at a hF;simp only [go_sem];rw [bX,<-bK] at a;exact au.next (v,e) rfl (a.mono ab) ay
   . rintro ⟨v,e⟩ b a hF;simp only at a hF;rw [bX] at a;simp only [go_sem];exact an.mk ⟨v,a,ay⟩
 clear hF a;rintro b e ⟨v,a,hF⟩;simp only [go_sem,hF,a.O,a.nl,dX,if_true];obtain ⟨b3,bg,bY,c1,b1⟩:=a;exact ak.W al bj bg.rows b3 (aT _) b1 λS aF=>⟨aF,bg,ab⟩
end
def arh {r} (b:aN r):K 108 [.agg r] (.bool (!aln (ah2 r))):=by
 obtain ⟨i,a⟩:=apA b;refine C.run (m:=5) rfl rfl rfl rfl rfl rfl rfl rfl i λj k o q f c=> ?_;have a:=λl=>a j k ab ab f l c;generalize aln (ah2 r)=n at*;obtain ⟨A,B,u,v,w,x,E,D,z,y,rfl,h,g⟩:=b.t;simp only [go_sem,h.J,g.J,a];exact e.mk rfl c (U.refl _)
def arf {d:List aa} {s:List aa} {kN aw rop ao aJ ahJ p aU ahI:Y} (aX:fz d s kN aw rop ao aJ ahJ p aU ahI):dt 62 [.agg d] (λw=> ∃b,w= .bool b/\(b=true↔amT d ahJ p aU ahI)) bQ:=by
 have cA:=aX.n1;have cz:=aX.iN;have cq: ∀a∈p++aU,iz a:=λa e=>(cr.1 e).elim (aX.b9 a) (aX.hm a);obtain ⟨bf,aH⟩:=abw;have av:=YT aX;have cD:=K8 ahJ p aU ahI;obtain ⟨bg,aI⟩:=C.all (l:=m1 ahJ p aU ahI) (f:=108) (g:=λa=> [.agg a]) (v:=λa=> .bool (!aln (ah2 a))) λa e=>arh (av a e);obtain ⟨bj,aK⟩:=(arp aX).val;obtain ⟨bk,aN⟩:=(akv aX (z:=0) .mk (.inl ⟨rfl,rfl⟩)).val;obtain ⟨cN,aF,bJ,cG,bz,bV,cO,cQ,aT,⟨bG,bH,rfl,-⟩,A,ae,⟨bp,bq,rfl,-⟩,Z,e,⟨bW,bY,rfl,-⟩,⟨b4,b5,rfl,-⟩⟩:=aX.eq;obtain ⟨bZ,az,bK,aG,b3,rfl,ca,cb,cc,cd,cf⟩:=aX.bT.eq;refine aL.run (m:=74) rfl rfl rfl rfl rfl rfl rfl rfl (bf+bg+bj+bk+1048570) λD u cw cx j x=> ?_;obtain ⟨u,rfl⟩: ∃bB,u=bB+2:=⟨u-2,ab⟩;obtain ⟨b1,⟨aq,ad,cy⟩,R⟩:=aK D (u+2) ab ab j x;obtain ⟨b2,ar,S⟩:=aN D (u+2) ab ab j x;have aA:=Du b1 (.fn (.func 102) [] []) (alW d p aU ahI) (λa=> !isName (kt a 0).1 (kt a 0).2) aq (qK ad) ab rfl (λ_=>rfl) (λa e cP=>by obtain ⟨I,b,rfl,-⟩:=ad a e;rfl) D u ab j x (λa e h=>by obtain ⟨I,b,rfl,aZ,-⟩:=ad a e;simp only [eg,a6,fw,jj];exact aH D u ab ab (I,b) aZ j h x);have aB:=Ut b2 (.fn (.func 108) [] []) (m1 ahJ p aU ahI) (λa=> !aln (ah2 a)) ar (λa e=>(av a e).len) ab rfl (λ_=>rfl) D u ab j x (λa e h=>by simp only [eg,a6,fw];exact aI D u ab ab a e j h x);obtain ⟨F,V⟩: ∃F,F=amT d ahJ p aU ahI:=⟨_,rfl⟩;rw [<-V];have K:F↔((p.length<=12/\aU.length<=12/\ahI.length<=300/\ahJ.length<=300)/\ ∀n∈ahJ,(ali n).length<=20)/\(∀a∈ahI,amb a)/\(alW d p aU ahI).any (λa=> !isName (kt a 0).1 (kt a 0).2)=false/\(m1 ahJ p aU ahI).any (λa=> !aln (ah2 a))=false:=by rw [V];unfold amT;simp
 clear V;generalize alW d p aU ahI=bI at*;generalize m1 ahJ p aU ahI=b0 at*;generalize bI.any (λa=> !isName (kt a 0).1 (kt a 0).2)=cn at*;generalize b0.any (λa=> !aln (ah2 a))=cp at*;have ag: ∀ {o},¬F->U j o->ak (λw=> ∃b,w= .bool b/\(b=true↔F)) bQ j (.ret (.bool false) o):=λy aY=>ak.mk ⟨_,rfl,by simpa using y⟩ rfl x aY;rw [aT] at R S|-;simp only [bl,a6] at R S|-;refine ak.bM (λh o=>j=o/\aM 75 [(1,.W 0 [.str bG bH,bZ,az,bK,aG,b3,aF,bJ,.str bp bq,bz,bV,.str bW bY,.str b4 b5])] h) ?_ ?_
 . simp only [go_sem,ca.J,cb.J,cc.J,cd.J,cf.J,A.J,ae.J,Z.J,e.J];exact an.mk ⟨rfl,dC⟩
 rintro h _ ⟨rfl,hF⟩;refine ak.bF hF (λE h o=>(j=o/\p.length<=12/\aU.length<=12/\ahI.length<=300/\ahJ.length<=300)/\E h) ?_ ?_
 . simp only [go_sem,hF,ae.O,ae.len]
   iterate 5 all_goals try (refine an.aE ?_ ?_<;>intro i<;>(first|have G:=of_decide_eq_true i|have G:=of_decide_eq_false i|skip)<;>simp only [go_sem,hF,i,Z.O,Z.len,A.O,A.len,e.O,e.len])
   all_goals first
    |exact an.mk ⟨⟨rfl,ab⟩,ay⟩
    |exact an.stop rfl (by simp only [go_sem,hF];exact ag (λy=>by have:=(K.1 y).1.1;omega) (U.refl _))
 clear hF;rintro h _ ⟨⟨rfl,ah⟩,hF⟩;refine ak.bF hF (λE h o=>(j=o/\ ∀n∈ahJ,(ali n).length<=20)/\E h) ?_ ?_
 . simp only [go_sem,hF,A.O,A.len];generalize aQ:a1 _ _ _ _ _ _ _ _ _ _=Q;revert Q;refine dA [1,31] (λB=> ∀n∈ahJ.take B,(ali n).length<=20) ahJ.length ai ?_ ?_
   . rintro B _ h X r hF;obtain ⟨n,q⟩:=bA X;have N:=λa (e:a∈ahJ.take (B+1))=>tT q e;have H:=λT=>(K.1 T).1.2 n (aV q);obtain ⟨cj,ck,af,I,b,rfl,aO,aR,⟨bc,t,aW,-⟩,⟨bE,rfl⟩,⟨cM,rfl⟩⟩:=aX.kx n (aV q);obtain ⟨bn,bC,br,bt,bs,bu,b7,cg,cH,cJ,aP,-,-⟩:=aO.ea;obtain ⟨bo,bD,bN,bS,bO,bU,b8,ch,cI,cK,aS,-,-⟩:=aR.ea;obtain ⟨rfl,a7,ba⟩:=aP.c;obtain ⟨rfl,a8,bb⟩:=aS.c;simp only [bl,a6] at q N H;have aj: ∀bR,ali [.int .i64 bn,.int .i64 bC,.str br bt,.str bs bu,b7,cg,.int .i64 bo,.int .i64 bD,.str bN bS,.str bO bU,b8,ch,af,.int .i64 bE,bR]=bc:=λ_=>bm t;rw [aj] at H;simp only [go_sem,hF,A.O,A.a_ (k:=15) q rfl,a7.J,ba.J,a8.J,bb.J,t.J,t.O,t.len];refine au.aE ?_ ?_<;>intro i<;>(first|have G:=of_decide_eq_true i|have G:=of_decide_eq_false i)<;>simp only [go_sem,i]
     all_goals first
      |exact au.next () rfl (λa e=>by rcases N a e with e|rfl;exact r a e;rw [aj];omega) ay
      |exact au.stop rfl (by simp only [go_sem];exact an.stop rfl (by simp only [go_sem,hF];exact ag (λy=>by have:=H y;omega) (U.refl _)))
   . intro s h r hF;rw [bX] at r;simp only [go_sem];exact an.mk ⟨⟨rfl,r⟩,ay⟩
 clear hF;rintro h _ ⟨⟨rfl,cl⟩,hF⟩;refine ak.bF hF (λE h o=>(j=o/\ ∀a∈ahI,amb a)/\E h) ?_ ?_
 . simp only [go_sem,hF,e.O,e.len];generalize aQ:a1 _ _ _ _ _ _ _ _ _ _=Q;revert Q;refine dA [1,43] (λB=> ∀a∈ahI.take B,amb a) ahI.length ai (hlf:=(by have:=nV ahI;omega)) (hN:=(by have:=nV ahI;omega)) ?_ ?_
   . rintro B _ h X r hF;obtain ⟨n,q⟩:=bA X;have N:=λa (e:a∈ahI.take (B+1))=>tT q e;have H:=λT=>(K.1 T).2.1 n (aV q);obtain ⟨cL,bL,af,w,aC,I,b,rfl,⟨ah,ax,rfl,-⟩,⟨bP,M,cC,cB⟩,⟨bd,t,aW,cv⟩,⟨b6,P,cF,cE⟩,⟨aD,L,cu,ct⟩,⟨bw,rfl⟩,⟨bx,rfl⟩⟩:=aX.bh n (aV q);have al:amb [.str ah ax,bL,af,w,aC,.int .i64 bw,.int .i64 bx]↔(bP.length<=20/\bd.length<=20/\b6.length<=20/\aD.length<=20):=by rw [<-bm P,<-bm t,<-bm M,<-bm L];rfl
     simp only [go_sem,hF,e.O,e.a_ (k:=7) q rfl,M.J,t.J,P.J,L.J,M.O,M.len,t.O,t.len,P.O,P.len,L.O,L.len];refine au.aE ?_ ?_<;>intro i<;>(first|have G:=of_decide_eq_true i|have G:=of_decide_eq_false i)<;>simp only [go_sem,i]
     all_goals first
      |exact au.next () rfl (λa e=>by rcases N a e with e|rfl;exact r a e;exact al.2 ab) ay
      |exact au.stop rfl (by simp only [go_sem];exact an.stop rfl (by simp only [go_sem,hF];exact ag (λy=>by have:=al.1 (H y);omega) (U.refl _)))
   . intro s h r hF;rw [bX] at r;simp only [go_sem];exact an.mk ⟨⟨rfl,r⟩,ay⟩
 clear hF;rintro h _ ⟨⟨rfl,cm⟩,hF⟩;simp only [go_sem,hF,R,aq.O,aA];refine ak.aE ?_ ?_<;>intro i<;>simp only [go_sem,hF,i,S,ar.O,aB]
 all_goals exact ak.mk ⟨_,rfl,by rw [K];simp_all⟩ rfl x (U.refl _)
def alN (p:Prop) (v:aa):Prop:= ∃a,v= .bool a/\(a=true↔p)
def ak.box {N:aa->Prop} {b:Bool} {p:Prop} {H H':af} (d:Z H) (c:U H H') (a:b=true↔p):ak (alN p) N H (.ret (.bool b) H'):=ak.mk ⟨b,rfl,a⟩ rfl d c
def aoY {p:Prop} {f:Nat} {args:List aa} {ad n:Nat} {H:af} (a:(∃v,alN p v/\ ∀tm,az G (X G R ad n) f args H tm= .ok v tm H)\/(∃v,bQ v/\ ∀tm,az G (X G R ad n) f args H tm= .aK v H)):
    ∃b:Bool,(b=true↔p)/\ ∀tm,az G (X G R ad n) f args H tm= .ok (.bool b) tm H:=by
 rcases a with ⟨v,⟨b,rfl,d⟩,c⟩|⟨v,a,-⟩
 . exact ⟨b,d,c⟩
 . exact a.elim
def ana (c:Nat):Int:=match hp c 3 6039330 with
 | .int _ a=>a
 |_=>0
def amc (l m:Nat):Prop:=l≠0/\l<=20/\ ∀a<l,33<=en m a/\en m a<=126/\qd (en m a)=false/\ana (en m a)<0
def aq9 (l m:Nat) (B:T l m):dt 249 [.str l m] (alN (amc l m)) bQ:=by
 obtain ⟨E,i⟩:=C.all (l:=List.range l) (f:=171) (g:=λa=> [.int .u8 (en m a:Nat)]) (v:=λa=> .bool (qd (en m a))) λa _=>Dv _;obtain ⟨F,e⟩:=C.all (l:=List.range l) (f:=313) (g:=λa=> [.str 3 6039330,.int .u8 (en m a:Nat)]) (v:=λa=>hp (en m a) 3 6039330) λa _=>UA _ _ _ (Pk _ _);refine aL.run (m:=35) rfl rfl rfl rfl rfl rfl rfl rfl (E+F+22) λt u J K r h=> ?_;have i:=λa d j=>i t u ab ab a d r j h;have e:=λa d j=>e t u ab ab a d r j h;have x:(l==0&&m==0)=decide (l=0):=by rw [jU];simp;exact B.zero
 simp only [go_sem,x];refine ak.aE ?_ ?_<;>intro c<;>simp only [go_sem,c]
 . exact ak.box h (U.refl _) (by simp at c;simp [amc,c])
 have y:l≠0:=by simpa using c
 refine ak.aE ?_ ?_<;>intro o<;>simp only [go_sem,o]
 . exact ak.box h (U.refl _) (by simp at o;simp only [amc];simp;omega)
 have z:l<=20:=by simp at o;omega
 generalize I:a1 _ _ _ _ _ _ _ _ _ _=w;revert w;have hF:=trivial;refine dA [0] (λb=> ∀a<b,33<=en m a/\en m a<=126/\qd (en m a)=false/\ana (en m a)<0) l (λa d=>absurd d (aiZ _)) ?_ ?_
 . intro b H j k p hF;obtain ⟨a,d⟩:=CB (en m b) 3 6039330;have i:=i b (h9.2 k);have e:=e b (h9.2 k);have s:ana (en m b)=a:=by unfold ana;rw [d]
   have A: ¬(33<=en m b/\en m b<=126/\qd (en m b)=false/\a<0)-> ¬amc l m:=λc n=>c (by have:=n.2.2 b k;rwa [s] at this);have D:(33<=en m b/\en m b<=126/\qd (en m b)=false/\a<0)-> ∀a<b+1,33<=en m a/\en m a<=126/\qd (en m a)=false/\ana (en m a)<0:=λc G q=>by
    rcases aov.1 q with q|rfl
    . exact p G q
    . rw [s];exact c
   rw [d] at e;simp only [go_sem,hF,k]
   iterate 4 all_goals try (refine au.aE ?_ ?_<;>intro n<;>simp only [go_sem,hF,n,i,e])
   all_goals first
    |exact au.next () rfl (D (by simp_all;try omega)) ay
    |exact au.stop rfl (by simp only [go_sem,hF];exact ak.box h (U.refl _) (by simpa using A (by simp_all;try omega)))
 . intro H j p hF;simp only [go_sem,hF];exact ak.box h (U.refl _) (by simpa using ⟨y,z,p⟩)
def aq7 (M:Nat) (L:M<4611686018427387904):bo λad n=> ∀x y rows aQ H,b8 rows->b8 aQ->rows.length<=M->aQ.length<4611686018427387904->Z H->cG H 1 x rows->F y aQ->
    ∃b:Bool,(b=true↔rows=aQ)/\ ∀tm,az G (X G R ad n) 250 [x,y] H tm= .ok (.bool b) tm H:=by
 refine ⟨M+2,λad n N S x y rows aQ H p C P Q j d f=> ?_⟩;obtain ⟨n,rfl⟩:=bY n;refine aoY (aL.at (m:=24) rfl rfl rfl rfl rfl (by simp only [aO,d.aD,f.aD];rfl) rfl rfl ?_);simp only [go_sem,d.O,d.len,f.O,f.len];refine ak.aE ?_ ?_<;>intro a<;>simp only [go_sem,a,d.O,d.len]
 . exact ak.box j (U.refl _) (by simp at a;simp;rintro rfl;exact a rfl)
 have v:rows.length=aQ.length:=by simp at a;omega
 generalize K:a1 _ _ _ _ _ _ _ _ _ _=q;revert q;have hF:=trivial;refine dA [0,1] (λc=>rows.take c=aQ.take c) rows.length ai ?_ ?_
 . intro c D tm u h hF;obtain ⟨g,e⟩:=bA u;obtain ⟨l,i⟩: ∃g,aQ[c]? =some g:=⟨aQ[c]'ab,ai⟩;obtain ⟨V,o,z,T,A⟩:=d.at p.len e;have r:rows.take (c+1)=rows.take c++ [g]:=by rw [fg,e];rfl
   have s:aQ.take (c+1)=aQ.take c++ [l]:=by rw [fg,i];rfl
   have w:g≠l->rows≠aQ:=λt a=>by rw [a,i] at e;cases e;exact t rfl
   obtain ⟨E,b,rfl,-⟩:=p g (aV e);obtain ⟨I,J,rfl,-⟩:=C l (aV i);have B:=A _ rfl;simp only [go_sem,hF,d.O,o,z,CI o,B,f.O,f.a_ (k:=1) i rfl];refine au.aE ?_ ?_<;>intro a<;>simp only [go_sem,a]
   all_goals first
    |exact au.next () rfl (by show rows.take (c+1)=aQ.take (c+1);rw [r,s,h];simp at a;rw [a.1,a.2]) ay
    |exact au.stop rfl (by simp only [go_sem,hF];exact ak.box j (U.refl _) (by simpa using w de))
 . intro D tm h hF;simp only [go_sem,hF];rw [bX,v,bX] at h;exact ak.box j (U.refl _) (by simpa using h)
def aoP {f t el k:Nat} {d:List aa->Prop} {a:List aa->aa} (l:List aa->aa->Bool) (i:(f=111/\t=219/\el=9/\k=1)/\d=oy/\a=ie\/(f=182/\t=275/\el=3/\k=1)/\d=ox/\a=ic\/(f=110/\t=218/\el=166/\k=2)/\d=gd/\a=ib)
    (hT:n G t=some ⟨1,false,.mp el 4⟩) (J: ∀ {r},d r->hr G 20 el (a r)=true) (V: ∀ {r s},d r->d s->eF G 20 el (a r) (a s)=some (l r (a s))) (len: ∀ {r},d r->r.length=k) (T: ∀ {r s},d r->d s->l r (a s)=false->s≠r) (S: ∀ {r s},d r->d s->l r (a s)=true->s=r)
    (M:Nat) (aq:M<4611686018427387904): ∃I,∀ad n,I<=ad->I<=n-> ∀x rows H,(∀r∈rows,d r)->rows.length<=M->Z H->cG H k x rows->
    ∃b:Bool,(b=true↔rows.Pairwise (· ≠ ·))/\ ∀tm,az G (X G R ad n) f [x] H tm= .ok (.bool b) tm H:=by
 refine ⟨M+2,λad n ar aw x rows H p av E q=> ?_⟩;obtain ⟨n,rfl⟩:=bY n;have ae: ∀r∈rows,r.length=k:=λr o=>len (p r o);refine aoY ?_;rcases i with ⟨⟨rfl,rfl,rfl,rfl⟩,y,v⟩|⟨⟨rfl,rfl,rfl,rfl⟩,y,v⟩|⟨⟨rfl,rfl,rfl,rfl⟩,y,v⟩
 all_goals
  refine aL.at (m:=18) rfl rfl rfl rfl rfl (by simp only [aO,q.aD];rfl) rfl rfl ?_;simp only [go_sem,q.O,q.len];generalize ao:a1 _ _ _ _ _ _ _ _ _ _=K;revert K;refine hz _ _ _ _ (σ:=List aa) (λ_=> [(3,.map H.n),(7,x)]) (λz=>H.push (.map false z (iw z.length))) (λc z=>z=(rows.take c).map a/\(rows.take c).Pairwise (· ≠ ·)) 19 rows.length [] rfl rfl (λ_=>rfl) rfl ⟨ai,ai⟩
   dC ab ab ?_ ?_
  . rintro c _ tm Y ⟨rfl,w⟩ hF;obtain ⟨r,D⟩:=bA Y;have e:=p r (aV D);obtain ⟨ax,ah,aj,al,an⟩:=(q.up E.1 ((U.refl H).push (.map false ((rows.take c).map a) (iw ((rows.take c).map a).length)))).at ae D;have j: ∀g∈(rows.take c).map a,eF G 20 _ (a r) g=some (l r g):=λg W=>by obtain ⟨s,i,rfl⟩:=cd.1 W;exact V e (p s (hQ i))
    have B:(rows.take (c+1))=rows.take c++ [r]:=by rw [fg,D];rfl
    have af:((rows.take c).map a).any (l r)=false->(rows.take (c+1)).Pairwise (· ≠ ·):=λo=>by rw [B];refine rH.2 ⟨w,List.pairwise_singleton ..,λs i F j=> ?_⟩;obtain rfl:=bs.1 j;exact T e (p s (hQ i)) (by simpa using CP.1 o _ (List.mem_map_of_mem i))
    have ag:((rows.take c).map a).any (l r)=true-> ¬rows.Pairwise (· ≠ ·):=λo h=>by obtain ⟨_,i,P⟩:=kB.1 o;obtain ⟨F,j,rfl⟩:=cd.1 i;have h:=h.sublist (aos (c+1) rows);rw [B] at h;exact (rH.1 h).2.2 F j r (bs.2 rfl) (S e (p F (hQ j)) P)
    have A:=DZ G (H:=H) (qO G hT) z4 (J e) j;have u:=λtm=>EA G (H:=H) (tm:=tm) (qO G hT) (J e) (by
     subst y v
     first
      |(obtain ⟨g,rfl⟩:=e;rfl)
      |(obtain ⟨g,b,rfl,-⟩:=e;rfl)
      |(obtain ⟨g,b,L,N,rfl,-⟩:=e;rfl)) j
    have Q:(rows.take c).map a++ [a r]=(rows.take (c+1)).map a:=by rw [B,vR];rfl
    rw [Q] at u;subst y v
    first
     |obtain ⟨g,rfl⟩:=e
     |obtain ⟨g,b,rfl,-⟩:=e
     |obtain ⟨g,b,L,N,rfl,-⟩:=e
    simp only [ie,ic,ib,jj] at A u
    first
     |have C:=an _ rfl
     |have C:=al
    simp only [di] at C A u;simp only [go_sem,hF,q.O,ah,aj,C,A];refine au.aE ?_ ?_<;>intro h<;>simp only [go_sem,hF,h]
    . refine au.stop rfl ?_;simp only [go_sem,hF];exact ak.box E ((U.refl _).push _) (by simpa using ag h)
    . simp only [u _ h,go_sem];exact au.next ((rows.take (c+1)).map _) (by simp only [di]) ⟨rfl,af h⟩ ay
  . rintro _ tm ⟨rfl,w⟩ hF;rw [bX] at w;simp only [go_sem,hF];exact ak.box E ((U.refl _).push _) (by simpa using w)
def aqw {r s} (a:oy r) (g:oy s) (e:eqStr r (ie s)=true):s=r:=by
 obtain ⟨b,c,rfl,-⟩:=a;obtain ⟨d,f,rfl,-⟩:=g;simp [eqStr,ie,cU,jj] at e;simp [e]
def aqv {r s} (a:ox r) (g:ox s) (e:vd r (ic s)=true):s=r:=by
 obtain ⟨b,rfl⟩:=a;obtain ⟨c,rfl⟩:=g;simp [vd,ic,isInt,jj] at e;simp [e]
def aqu {r s} (a:gd r) (g:gd s) (e:vc r (ib s)=true):s=r:=by
 obtain ⟨b,d,h,j,rfl,-⟩:=a;obtain ⟨c,f,i,k,rfl,-⟩:=g;simp [vc,ib,IS] at e;simp [e]
def arw:=aoP eqStr (.inl ⟨⟨rfl,rfl,rfl,rfl⟩,rfl,rfl⟩) FO JJ Q2 Lu Q5 aqw
def arv:=aoP vd (.inr (.inl ⟨⟨rfl,rfl,rfl,rfl⟩,rfl,rfl⟩)) FQ JI Q1 Ls Q4 aqv
def aru:=aoP vc (.inr (.inr ⟨⟨rfl,rfl,rfl,rfl⟩,rfl,rfl⟩)) FN JH Q0 EJ Q3 aqu
def amO (q:List aa):Prop:=(kt q 1=(0,0)↔(amc (kt q 0).1 (kt q 0).2\/isName (kt q 0).1 (kt q 0).2=true/\(kt q 0).1<=20))/\ ¬(kt q 1≠(0,0)/\kt q 0≠(0,0))
def anY (q:List aa):Y:=if kt q 1=(0,0) then [] else [[M q 1]]
def am3 (a args:Y):Prop:=a= []\/(∀b∈a,amO b)/\a.length<=20/\a.flatMap anY=args
theorem arl {r} (E:xh r):dt 183 [.agg r] (alN (am3 (f (M r 3)) (f (M r 1)))) bQ:=by
 obtain ⟨aM,aO,ax,aN,aP,bP,⟨⟨q,aw,j,aJ,aK,rfl,an,bu,⟨p,t,bN,aH⟩⟩,-,-,-,-,br,bo,-,-⟩⟩:=E;have bC:f (M [.str aM aO,q,.str aN aP,aw,.int .i64 aJ,.int .i64 aK,j] 3)=p:=bm t;have bD:f (M [.str aM aO,q,.str aN aP,aw,.int .i64 aJ,.int .i64 aK,j] 1)=ax:=bm an;rw [bC,bD];obtain ⟨bE,ad⟩:=aL.j8 (l:=p) (f:=249) (g:=λa=> [M a 0]) (S:=λa=>alN (amc (kt a 0).1 (kt a 0).2)) λa u=>by obtain ⟨q,s,ba,bb,rfl,ad,-⟩:=aH a u;exact aq9 q s ad
 obtain ⟨bF,bg⟩:=C.all (l:=p) (f:=103) (g:=λa=> [M a 0]) (v:=λa=> .bool (match a with| [.str q s,.str _ _]=>isName q s|_=>false)) λa u=>by obtain ⟨q,s,ba,bb,rfl,ad,-⟩:=aH a u;exact qn q s ad
 obtain ⟨bG,bh⟩:=aq7 1048560 al;refine aL.run (m:=65) rfl rfl rfl rfl rfl rfl rfl rfl (bE+bF+bG+p.length+1) λav L bM bn Q I=> ?_;have bx:=I;simp only [go_sem,an.J,bu.J,t.J,t.O,t.len];refine ak.aE ?_ ?_<;>intro i<;>simp only [go_sem,i,t.O,t.len]
 . exact ak.box I (U.refl _) (by simp at i;simp [am3,i])
 have aY:p≠ []:=λo=>by rw [o] at i;simp at i
 generalize bL:a1 _ _ _ _ _ _ _ _ _ _=a8;revert a8;refine hz _ _ _ _ (σ:=Y×aa×af) (λbI=> [(1,.W 0 [.str aM aO,q,.str aN aP,aw,.int .i64 aJ,.int .i64 aK,j]),(3,bI.2.1),(12,aw)]) (λj=>j.2.2)
  (λK j=>(j.1.length<=K/\j.1=(p.take K).flatMap anY/\ ∀a∈p.take K,amO a)/\b8 j.1/\bd Q.n 9 1 j.1.length j.2.2 j.1 j.2.1/\Z j.2.2/\U Q j.2.2) 66 p.length ([],.V,Q) rfl rfl (λ_=>rfl) rfl ⟨⟨aT _,ai,ai⟩,(λ_ o=>by cases o),bd.nil,I,U.refl Q⟩ dC ab ab ?_ ?_
 . rintro K ⟨N,ag,D⟩ P bl ⟨⟨aF,ae,aq⟩,w,y,B,z⟩ hF;simp only at aF w y B z hF|-;obtain ⟨a,ar⟩:=bA bl;have ao:=aV ar;have aZ:=λr (E:r∈p.take (K+1))=>tT ar E;have aC:=kR anY ar;obtain ⟨aA,aD,ah⟩: ∃s,(s=true↔amc (kt a 0).1 (kt a 0).2)/\ ∀P,az G (X G R av L) 249 [M a 0] D P= .ok (.bool s) P D:=by obtain ⟨ag,⟨s,rfl,bj⟩,bc⟩:=ad av L ab ab a ao D B;exact ⟨s,bj,bc⟩
   have T:=λP=>bg av L ab ab a ao D P B;obtain ⟨c,h,d,e,rfl,bO,bz,-,bw⟩:=aH a ao;have aj:=y.cw w.len;obtain ⟨bJ,a7,bf,a6,aW⟩:=y.app (x:= .A [[.str d e]] true) (b:=16) (k:=1) oe nI rfl rfl al al B z.n w.rows (aQ:= [[.str d e]]) rfl (λa u=>by rw [bs.1 u];exact ⟨rfl,λag y=>by rw [bs.1 y];exact ⟨rfl,rfl⟩⟩)
    (by simp only [cl,h5];unfold b7;omega) og
   have bp:b8 (N++ [[.str d e]]):=λr E=>(cr.1 E).elim (w r) λE=>⟨d,e,bs.1 E,bz,bw⟩;simp only [jj] at ah T;have aX:amO [.str c h,.str d e]↔((d,e)=(0,0)↔(amc c h\/isName c h=true/\c<=20))/\ ¬((d,e)≠(0,0)/\(c,h)≠(0,0)):=Iff.rfl;have bt:amc (kt [.str c h,.str d e] 0).1 (kt [.str c h,.str d e] 0).2=amc c h:=rfl;have bq:anY [.str c h,.str d e]=if (d,e)=(0,0) then [] else [[.str d e]]:=rfl
   rw [bt] at aD;rw [bq] at aC;have aG:amO [.str c h,.str d e]↔(((d==0&&e==0)==(aA||(isName c h&&decide ((c:Int)<=20))))&&((d==0&&e==0)||(c==0&&h==0)))=true:=by have ah:((d==0&&e==0)=true)↔(d,e)=(0,0):=ai;have T:((c==0&&h==0)=true)↔(c,h)=(0,0):=ai;have aB:(decide ((c:Int)<=20)=true)↔c<=20:=da;rw [aX,<-aD];simp only [ne_eq];rw [<-ah,<-T,<-aB];generalize (d==0&&e==0)=aU;generalize (c==0&&h==0)=aS;generalize decide ((c:Int)<=20)=aR;generalize isName c h=L;cases aU<;>cases aS<;>cases aR<;>cases L<;>cases aA<;>decide
   have H: ¬amO [.str c h,.str d e]-> ¬am3 p ax:=λo i=>i.elim (λi=>aY i) λi=>o (i.1 _ ao);rw [aG] at H;have F:amO [.str c h,.str d e]-> ∀a∈p.take (K+1),amO a:=λo a u=>by
    rcases aZ a u with u|rfl
    . exact aq a u
    . exact o
   rw [aG] at F;clear aG aX aD aZ;generalize aI:(d==0&&e==0)=aU at H F;generalize bB:(c==0&&h==0)=aS at H F;generalize I:decide ((c:Int)<=20)=aR at H F;generalize bn:isName c h=bH at H F T;cases aU<;>cases aS<;>cases aR<;>cases bH<;>cases aA
   all_goals
    simp only [go_sem,hF,t.O,t.a_ (k:=2) ar rfl,ah,T,aI,bB,I,aj.O,a6.O,bf]
    first
     |exact au.next (N,ag,D) rfl ⟨⟨by show N.length<=_;omega,by rw [aC,if_pos (by simpa using aI),fw];exact ae,F rfl⟩,w,y,B,z⟩ ay
     |exact au.next (N++ [[.str d e]],bJ,a7) rfl ⟨⟨da,by rw [aC,if_neg (by simpa using aI),<-ae],F rfl⟩,bp,by simpa using a6,aW.tidy,aW.up Q (aT _) z⟩ ay
     |exact au.stop rfl (by simp only [go_sem,hF];exact ak.box bx z (by simpa using H al))
 . rintro ⟨N,ag,D⟩ P ⟨⟨aF,ae,aq⟩,w,y,B,z⟩ hF;simp only at aF w y B z hF|-;have aj:=y.cw w.len;obtain ⟨bK,bk,aB⟩:=bh av L ab ab ag q N ax D w br ab bo B aj an;simp only [go_sem,hF,t.O,t.len];refine ak.aE ?_ ?_<;>intro i<;>simp only [go_sem,i,hF,aj.O,an.O,aB]
   all_goals exact ak.box I z (by
    rw [bX] at ae aq;unfold am3;rw [<-ae,or_iff_right aY]
    first
     |(rw [bk];have:=of_decide_eq_true i;exact ⟨λo=>⟨aq,ab,o⟩,λo=>o.2.2⟩)
     |(have:=of_decide_eq_false i;simp;intro _ o;omega))
set_option maxHeartbeats 2000000
def alT (kN:Y) (r:List aa):Bool:=match r with
 | [.str a b]=>my kN a b
 |_=>false
def amG (kN aw:Y) (r:List aa):Bool:=match r with
 | [.str a b,.str c d]=> !(a==3&&b==7958081)&&(my kN a b&&(kN.any (isStr c d)&& !(mj kN aw c d).any (isStr a b)))
 |_=>false
def anb (n:Nat) (r:List aa):Bool:=match r with
 | [.int _ a]=>decide (a>=1)&&decide (a<=n)
 |_=>false
def anZ (i:Int) (a:Bool):Prop:=(0<=i/\i<=20)/\(a=true\/i=0)
def ant (i j:Int):Prop:=(0<=j/\j<=2)/\(0<i\/j=0)
def aml (kN:Y) (r:List aa):Prop:=((isName (e_ (kt r 0).1 (kt r 0).2) (fL (kt r 0).1 (kt r 0).2)=true/\uT (kt r 0).1 (kt r 0).2=false)/\(f (M r 1)).length<=8/\(f (M r 1)).all (alT kN)=true/\kN.any (isStr (kt r 2).1 (kt r 2).2)=true)/\
 anZ (aly r 4) (decide (0<(f (M r 3)).length))/\ant (aly r 4) (aly r 5)/\(ak7 r).all (anb (f (M r 1)).length)=true/\(ak7 r).Pairwise (· ≠ ·)/\am3 (f (M r 3)) (f (M r 1))
def amj (kN:Y) (r:List aa):Prop:=((isName (kt r 0).1 (kt r 0).2=true/\uT (kt r 0).1 (kt r 0).2=false)/\(f (M r 1)).length<=8/\(f (M r 1)).all (alT kN)=true/\my kN (kt r 2).1 (kt r 2).2=true)/\
 (f (M r 3)).length=0/\aly r 4=0/\aly r 5=0/\(ak7 r).length=0
section
variable {ax:aa} {s:List aa} {kN aw rop ao aJ:Y} (ag:dO ax s kN aw rop ao aJ)
include ag
theorem are {r} (D:gd r):dt 117 [ax,.agg r] (alN (amG kN aw r=true)) bQ:=by
 obtain ⟨c,d,a,b,rfl,-⟩:=D;obtain ⟨F,e⟩:=sm ag;obtain ⟨H,v⟩:=oZ 1048562 al;obtain ⟨an,aq,N,ar,au,av⟩:=ag.val;have x:=ag.abs a b;have W:=ag.bT.n;have E:=ag.same;obtain ⟨j,p,u,ae,aA,ad,az,y,g,R,hF⟩:=ag;have i:=g.look a b;have z: ∀f,iM G 134 (.ck p u) (.str a b) false f=some (jX false .V (c2 (cU a b) p u 0)):=λf=>tP (cK:=0) G xj lA rfl z22 g.k g.l;have ah:=wI g.same;have ai:=wI (i.same (qI x.1));generalize jX false .V (c2 (cU a b) p u 0)=J at*;obtain ⟨L,P,af,Q,ay,rfl,o,X,Y,Z,aa⟩:=j.eq;have aj:=wI (o.same (qI j.so));simp only [bl,a6] at y;refine aL.run (m:=35) rfl rfl rfl rfl rfl (by simp only [aO,N];rfl) rfl rfl (F+H) λq t S T f h=> ?_;have e:=λI K M=>e q t ab ab (I,K) trivial f M h;have B:=v q t ab ab L kN a b f j.so ab h o.cw;have C:=v q t ab ab J (mj kN aw a b) c d f x.1 ab h i.cw;simp only at e;rw [y] at e E|-;have w:amG kN aw [.str c d,.str a b]=(!(c==3&&d==7958081)&&(my kN c d&&(kN.any (isStr a b)&& !(mj kN aw a b).any (isStr c d)))):=rfl;rw [w];clear w;have e:=e c d;generalize kN.any (isStr a b)=aB at*;generalize (mj kN aw a b).any (isStr c d)=aC at*;generalize my kN c d=aD at*;simp -implicitDefEqProofs only [go_sem]
 iterate 4 all_goals try (refine ak.aE ?_ ?_<;>intro A<;>simp -implicitDefEqProofs only [go_sem,A,e,B,C,z,o.O,i.O])
 all_goals exact ak.box h (U.refl _) de
theorem arj {r} (w:c6 r):dt 120 [ax,.agg r] (alN (aml kN r)) bQ:=by
 obtain ⟨c,d,j,A,B,u,p⟩:=id w;obtain ⟨bh,aS⟩:=Ji c d p.s1;obtain ⟨bj,aT⟩:=qn (e_ c d) (fL c d) (by unfold e_ fL;split;exact T.mod _ _;exact p.c5);obtain ⟨bk,aU⟩:=Dq c d;obtain ⟨bn,aV⟩:=sm ag;obtain ⟨bo,aW⟩:=oZ 1048562 al;obtain ⟨bp,aX⟩:=arv u.length (by have:=p.rS;omega);obtain ⟨bq,aY⟩:=(arl w).val;obtain ⟨bZ,b0,bt,b1,b2,b3⟩:=ag.val;have bL:=ag.bT.n;have bf:=ag.same;have af:=ag.bT;have bK:=w.ok;have ae:=p.rs;have aA:=p.hS;obtain ⟨-,bU,b5,bW,b7,bV,b6,ad,bE,bG,hF⟩:=ag;obtain ⟨br,bC,bX,bD,b4,rfl,aq,bO,bP,bR,bS⟩:=af.eq;have bY:=wI (aq.same (qI af.so));simp only [bl,a6] at ad;refine aL.run (m:=106) rfl rfl rfl rfl rfl (by simp only [aO,bt];rfl) rfl rfl (bh+bj+bk+bn+bo+bp+bq+j.length+u.length+10) λi e bH bI g ai=> ?_;obtain ⟨e,rfl⟩: ∃H,e=H+4:=⟨e-4,ab⟩;have t:Z (g.push (.cells (q 52) (q 52) 0 r)):=ai.push (ba.2 λbs bN=>fR _ 20 20 bs al ah);have aB:U g (g.push (.cells (q 52) (q 52) 0 r)):=(U.refl g).push _;generalize W:g.push (.cells (q 52) (q 52) 0 r)=b at*;have o:b.get g.n=some (.cells (q 52) (q 52) 0 r):=by rw [<-W];exact dL _ _
 have aG:=λa=>aS i (e+4) ab ab b a t;have aH:=λa=>aT i (e+4) ab ab b a t;have aI: ∀a,az G (X G R i (e+4)) 179 [.str c d] b a= .ok (.bool (uT c d)) a b:=λa=>aU i (e+4) ab ab b a t;have aN:=aW i (e+4) ab ab br kN A B b af.so ab t aq.cw;obtain ⟨_,⟨bB,rfl,ay⟩,aP⟩:=aY i (e+4) ab ab b t;have bd:=w;obtain ⟨v,N,C,k,D,rfl,E,F,⟨I,L,bJ,-⟩⟩:=p.eq;have ar:f (M [.str c d,v,.str A B,N,.int .i64 k,.int .i64 D,C] 1)=j:=bm E;have au:f (M [.str c d,v,.str A B,N,.int .i64 k,.int .i64 D,C] 3)=I:=bm L;have aC:ak7 [.str c d,v,.str A B,N,.int .i64 k,.int .i64 D,C]=u:=bm F;obtain ⟨Q,Y⟩: ∃Q,Q=aml kN [.str c d,v,.str A B,N,.int .i64 k,.int .i64 D,C]:=⟨_,rfl⟩;rw [<-Y];have z:Q↔((isName (e_ c d) (fL c d)=true/\uT c d=false)/\j.length<=8/\j.all (alT kN)=true/\kN.any (isStr A B)=true)/\anZ k (decide (0<I.length))/\ant k D/\u.all (anb j.length)=true/\u.Pairwise (· ≠ ·)/\am3 I j:=by rw [Y,<-ar,<-au,<-aC];rfl
 rw [ar,au] at ay;clear Y ar au aC;have aK: ∀a,az G (X G R i (e+4)) 114 [v,.fn (.func 118) [ax] []] b a= .ok (.bool (j.all (alT kN))) a b:=
  y9 v (.fn (.func 118) [ax] []) j _ E (oy.r aA) (by have:=p.zk;omega) (by simp [aD]) (λ_=>rfl) rfl rfl i e ab b t (by show ([ax].all (y b.n 19)&& [].all (y b.n 19))=true;grind) (λP _ aj r w a=>by obtain ⟨v,aF,rfl,-⟩:=aA r w;simp only [eg,a6,fw,bl,jj];exact aV i e ab ab (v,aF) trivial P a aj)
 have aQ: ∀a,az G (X G R i (e+4)) 181 [C,.fn (.func 180) [] [.ptr g.n (q 52) 0 7]] b a= .ok (.bool (u.all (anb j.length))) a b:=
  U8 C (.fn (.func 180) [] [.ptr g.n (q 52) 0 7]) u _ F (ox.r ae) (by have:=p.rS;omega) rfl (λ_=>rfl) rfl rfl i e ab b t (by
    have a1:Nat.blt g.n b.n=true:=h_ (by rw [<-W];simp [lq]);show (true&& [aa.ptr g.n (q 52) 0 7].all (y b.n 19))=true;simp only [aO,jm,y,a1];rfl) (λP bg aj r w a=>by
   obtain ⟨k,rfl⟩:=ae r w;simp only [eg,a6,bl,jj];obtain ⟨H,bc⟩: ∃H,e=H+1:=⟨e-1,ab⟩;rw [bc];exact TN bd p k i H P aj g.n (bg.get t.1 o) a)
 have av:=aK;rw [ad] at av bf;have V:=aX i (e+4) ab ab C u b ae ab t F.cw;obtain ⟨bA,a7,V⟩:=V;refine ak.bM (λa h=>b=h/\aM 108 [(0,ax),(3,.ptr g.n (q 52) 0 7)] a) ?_ ?_
 . simp -implicitDefEqProofs only [go_sem,E.J,F.J,L.J,W];exact an.mk ⟨rfl,w0⟩
 rintro a _ ⟨rfl,hF⟩;refine ak.bF hF (λl a h=>b=h/\aM 108 [(5,.str (e_ c d) (fL c d))] a/\l a) ?_ ?_
 . simp -implicitDefEqProofs only [go_sem,hF,o,aG];exact an.mk ⟨rfl,dm⟩
 clear hF;rintro a _ ⟨rfl,hF⟩;generalize isName (e_ c d) (fL c d)=bu at*;generalize uT c d=bw at*;generalize j.all (alT kN)=bx at*;generalize kN.any (isStr A B)=bz at*;refine ak.np [0,3] (λl a h=>(b=h/\(bu=true/\bw=false)/\j.length<=8/\bx=true/\bz=true)/\l a) ?_ ?_
 . simp -implicitDefEqProofs only [go_sem,hF,aH]
   iterate 5 all_goals try (refine an.aE ?_ ?_<;>intro x<;>simp -implicitDefEqProofs only [go_sem,hF,x,o,aI,E.O,E.len,av,aN,ad,aq.O])
   all_goals first
    |exact an.stop rfl (by simp -implicitDefEqProofs only [go_sem,hF];exact ak.box ai aB (by rw [z];simp_all;try omega))
    |exact an.mk ⟨⟨rfl,by simp_all;try omega⟩,dm⟩
 clear hF;rintro a _ ⟨⟨rfl,aZ⟩,hF⟩;rw [and_iff_right aZ] at z;refine ak.bF hF (λl a h=>b=h/\aM 108 [(7,.bool (decide (0<I.length)))] a/\l a) ?_ ?_
 . simp -implicitDefEqProofs only [go_sem,hF,o,L.O,L.len];exact an.mk ⟨rfl,by simp -implicitDefEqProofs only [go_sem,hF];try simp⟩
 clear hF;generalize decide (0<I.length)=aR at*;rintro a _ ⟨rfl,hF⟩;refine ak.bM (λa h=>b=h/\ ∃S,aM 108 [(0,ax),(3,.ptr g.n (q 52) 0 7),(8,.bool S)] a/\(S=true↔anZ k aR)) ?_ ?_
 . simp -implicitDefEqProofs only [go_sem,hF,o]
   iterate 7 all_goals try (refine an.aE ?_ ?_<;>intro x<;>simp -implicitDefEqProofs only [go_sem,hF,x,o])
   all_goals exact an.mk ⟨rfl,_,by simp -implicitDefEqProofs only [go_sem,hF];trivial,by unfold anZ;clear z hF;simp_all;try omega⟩
 clear hF;rintro a _ ⟨rfl,S,hF,a8⟩;refine ak.bF hF (λl a h=>b=h/\ ∃K,(aM 108 [(9,.bool K)] a/\l a)/\(K=true↔ant k D)) ?_ ?_
 . simp -implicitDefEqProofs only [go_sem,hF,o]
   iterate 7 all_goals try (refine an.aE ?_ ?_<;>intro x<;>simp -implicitDefEqProofs only [go_sem,hF,x,o])
   all_goals exact an.mk ⟨rfl,_,by simp -implicitDefEqProofs only [go_sem,hF];trivial,by unfold ant;clear z hF;simp_all;try omega⟩
 clear hF;rintro a _ ⟨rfl,K,hF,bb⟩;rw [<-a8,<-bb] at z;refine ak.np [0,3,8] (λl a h=>b=h/\M a 9= .bool K/\M a 10= .fn (.func 180) [] [.ptr g.n (q 52) 0 7]/\l a) ?_ ?_
 . simp -implicitDefEqProofs only [go_sem,hF];exact an.mk ⟨rfl,dm⟩
 clear hF;rintro a _ ⟨rfl,hF⟩;simp -implicitDefEqProofs only [go_sem,hF];rw [<-a7,<-ay] at z;generalize u.all (anb j.length)=b8 at*
 iterate 5 all_goals try (refine ak.aE ?_ ?_<;>intro x<;>simp -implicitDefEqProofs only [go_sem,hF,x,o,F.O,aQ,V,aP])
 all_goals exact ak.box ai aB (by rw [z];simp_all)
theorem ari {r} (F:c6 r):dt 121 [ax,.agg r] (alN (amj kN r)) bQ:=by
 obtain ⟨b,c,j,h,i,I,w⟩:=id F;obtain ⟨al,af⟩:=qn b c w.c5;obtain ⟨aq,ah⟩:=Dq b c;obtain ⟨ar,L⟩:=sm ag;obtain ⟨av,aF,P,aG,ay,aH⟩:=ag.val;have N:=w.hS;refine aL.run (m:=55) rfl rfl rfl rfl rfl (by simp only [aO,P];rfl) rfl rfl (al+aq+ar+j.length+10) λo e aA aB d t=> ?_;obtain ⟨e,rfl⟩: ∃au,e=au+4:=⟨e-4,ab⟩;have Z:=λa=>af o (e+4) ab ab d a t;have aa: ∀a,az G (X G R o (e+4)) 179 [.str b c] d a= .ok (.bool (uT b c)) a d:=λa=>ah o (e+4) ab ab d a t;have K:=λb c a=>L o (e+4) ab ab (b,c) trivial d a t;simp only at K;obtain ⟨g,u,v,k,l,rfl,q,z,⟨H,x,aC,-⟩⟩:=w.eq;have Q:f (M [.str b c,g,.str h i,u,.int .i64 k,.int .i64 l,v] 1)=j:=bm q;have S:f (M [.str b c,g,.str h i,u,.int .i64 k,.int .i64 l,v] 3)=H:=bm x;have T:ak7 [.str b c,g,.str h i,u,.int .i64 k,.int .i64 l,v]=I:=bm z;obtain ⟨B,E⟩: ∃B,B=amj kN [.str b c,g,.str h i,u,.int .i64 k,.int .i64 l,v]:=⟨_,rfl⟩;rw [<-E];have D:B↔((isName b c=true/\uT b c=false)/\j.length<=8/\j.all (alT kN)=true/\my kN h i=true)/\H.length=0/\k=0/\l=0/\I.length=0:=by rw [E,<-Q,<-S,<-T];rfl
 clear E Q S T;have ad: ∀a,az G (X G R o (e+4)) 114 [g,.fn (.func 118) [ax] []] d a= .ok (.bool (j.all (alT kN))) a d:=
  y9 g (.fn (.func 118) [ax] []) j _ q (oy.r N) (by have:=w.zk;omega) (by simp [aD]) (λ_=>rfl) rfl rfl o e ab d t (by show ([ax].all (y d.n 19)&& [].all (y d.n 19))=true;rw [aO,ay d.n 18];rfl) (λY _ aj r F a=>by obtain ⟨g,p,rfl,-⟩:=N r F;simp only [eg,a6,fw,bl,jj];exact L o e ab ab (g,p) trivial Y a aj)
 refine ak.bM (λa A=>d=A/\aM 57 [(0,ax),(3,.W 0 [.str b c,g,.str h i,u,.int .i64 k,.int .i64 l,v])] a) ?_ ?_
 . simp only [go_sem,q.J,z.J,x.J];exact an.mk ⟨rfl,dC⟩
 rintro a _ ⟨rfl,hF⟩;refine ak.bF hF (λV a A=>d=A/\ ∃p,(aM 57 [(5,.bool p)] a/\V a)/\(p=true↔H.length=0/\k=0/\l=0/\I.length=0)) ?_ ?_
 . simp only [go_sem,hF,x.O,x.len]
   iterate 4 all_goals try (refine an.aE ?_ ?_<;>intro C<;>simp only [go_sem,hF,C,z.O,z.len])
   all_goals exact an.mk ⟨rfl,_,by simp only [go_sem,hF];trivial,by clear D hF;simp_all;try omega⟩
 clear hF;rintro a _ ⟨rfl,p,hF,ai⟩;rw [<-ai] at D;generalize isName b c=aI at*;generalize uT b c=aK at*;generalize j.all (alT kN)=aN at*;have ae:=K h i;generalize my kN h i=aP at*;simp only [go_sem,hF,Z]
 iterate 6 all_goals try (refine ak.aE ?_ ?_<;>intro C<;>simp only [go_sem,hF,C,aa,q.O,q.len,ad,ae,av,P])
 all_goals exact ak.box t (U.refl _) (by rw [D];simp_all;try omega)
end
open Classical in
theorem aod {P:List aa->Prop} {f:Nat} {g:List aa->List aa} {rows:Y} {ad n:Nat} {H:af} (h: ∀r∈rows,∃b,(b=true↔P r)/\ ∀tm,az G (X G R ad n) f (g r) H tm= .ok (.bool b) tm H): ∃p:List aa->Bool,(∀r∈rows,∀tm,az G (X G R ad n) f (g r) H tm= .ok (.bool (p r)) tm H)/\(rows.all p=true↔ ∀r∈rows,P r):=by
 have key: ∃p:List aa->Bool,∀r∈rows,(p r=true↔P r)/\ ∀tm,az G (X G R ad n) f (g r) H tm= .ok (.bool (p r)) tm H:=by refine ⟨λr=>if bh: ∃b,(b=true↔P r)/\ ∀tm,az G (X G R ad n) f (g r) H tm= .ok (.bool b) tm H then bh.choose else false,λr bh=> ?_⟩;have:=h r bh;simp only [dif_pos this];exact this.choose_spec
 obtain ⟨p,bc⟩:=key;exact ⟨p,λr bh=>(bc r bh).2,by rw [ba];exact ⟨λh r bh=>(bc r bh).1.1 (h r bh),λh r bh=>(bc r bh).1.2 (h r bh)⟩⟩
def amU (r:List aa):Bool:=match r with
 | [.str a b]=>isName a b&& !eD.any (isStr a b)
 |_=>false
def anU (rop b:Y):Y:=(rop.map λa=> [M a 0])++(b.map λa=> [M a 0])
def amd (kN b rop c d:Y):Prop:=(kN.length<=40/\b.length<=200/\rop.length+c.length<=200/\b.Pairwise (· ≠ ·)/\d.Pairwise (· ≠ ·))/\(kN.Pairwise (· ≠ ·)/\kN.all amU=true/\(anU rop c).Pairwise (· ≠ ·))/\
 (∀a∈b,amG kN b a=true)/\d.all (alT kN)=true/\(∀a∈rop,aml kN a)/\ ∀a∈c,amj kN a
def ara {s:List aa} {kN w rop o D} (u:oz s kN w rop o D):dt 64 [.agg s] (alN (amd kN w rop o D)) bQ:=by
 have cI:=u.n;obtain ⟨ct,ao⟩:=aru 1048560 al;obtain ⟨cu,N⟩:=arw 1048560 al;obtain ⟨cv,b1⟩:=Vp;obtain ⟨aA,aG,ax,ar,aB,cj,V,ah,Y,ae,aq⟩:=u.eq;obtain ⟨cx,b2⟩:bo λh e=>rop.length<=1000-> ∀c,Z c-> ∃K p,(bd c.n 9 1 rop.length p (rop.map λa=> [M a 0]) K/\Z p/\U c p)/\ ∀d,az G (X G R h e) 115 [ax] c d= .ok K d p:=by
  by_cases af:rop.length<=1000
  . obtain ⟨aQ,aJ⟩:=Ju ax rop Y u.op af;exact ⟨aQ,λh e ao N _ c v=>aJ h e ao N c v trivial⟩
  . exact ⟨0,λ_ _ _ _ B=>absurd B af⟩
 obtain ⟨cy,b3⟩:bo λh e=>o.length<=1000-> ∀c,Z c-> ∃K p,(bd c.n 9 1 o.length p (o.map λa=> [M a 0]) K/\Z p/\U c p)/\ ∀d,az G (X G R h e) 115 [ar] c d= .ok K d p:=by
  by_cases af:o.length<=1000
  . obtain ⟨aQ,aJ⟩:=Ju ar o ae u.cP af;exact ⟨aQ,λh e ao N _ c v=>aJ h e ao N c v trivial⟩
  . exact ⟨0,λ_ _ _ _ B=>absurd B af⟩
 obtain ⟨cz,b4⟩:=(Dw u).val;obtain ⟨cA,b5⟩:=dE (l:=uV s kN w rop o) (Q:=λi h e=>dO i s kN w rop o D->(∀a∈w,∀c,Z c-> ∃z,(z=true↔amG kN w a=true)/\ ∀d,az G (X G R h e) 117 [i,.agg a] c d= .ok (.bool z) d c)/\
   (∀a∈rop,∀c,Z c-> ∃z,(z=true↔aml kN a)/\ ∀d,az G (X G R h e) 120 [i,.agg a] c d= .ok (.bool z) d c)/\
   (∀a∈o,∀c,Z c-> ∃z,(z=true↔amj kN a)/\ ∀d,az G (X G R h e) 121 [i,.agg a] c d= .ok (.bool z) d c)/\
   (∀av aw c d,Z c->az G (X G R h e) 118 [i,.str av aw] c d= .ok (.bool (my kN av aw)) d c)) λi _=>by
  by_cases C:dO i s kN w rop o D
  . obtain ⟨bA,bX⟩:=aL.j8 (l:=w) (f:=117) (g:=λa=> [i,.agg a]) (S:=λa=>alN (amG kN w a=true)) λa j=>are C (u.be a j);obtain ⟨bB,bY⟩:=aL.j8 (l:=rop) (f:=120) (g:=λa=> [i,.agg a]) (S:=λa=>alN (aml kN a)) λa j=>arj C (u.op a j);obtain ⟨bC,bZ⟩:=aL.j8 (l:=o) (f:=121) (g:=λa=> [i,.agg a]) (S:=λa=>alN (amj kN a)) λa j=>ari C (u.cP a j);obtain ⟨bE,b0⟩:=sm C;refine ⟨bA+bB+bC+bE,λh e br bs _=>⟨λa j c v=> ?_,λa j c v=> ?_,λa j c v=> ?_,λav aw c d v=>b0 h e ab ab (av,aw) trivial c d v⟩⟩
    . obtain ⟨K,⟨z,rfl,C⟩,aj⟩:=bX h e ab ab a j c v;exact ⟨z,C,aj⟩
    . obtain ⟨K,⟨z,rfl,C⟩,aj⟩:=bY h e ab ab a j c v;exact ⟨z,C,aj⟩
    . obtain ⟨K,⟨z,rfl,C⟩,aj⟩:=bZ h e ab ab a j c v;exact ⟨z,C,aj⟩
  . exact ⟨0,λ_ _ _ _ B=>absurd B C⟩
 subst cj;refine aL.run (m:=86) rfl rfl rfl rfl rfl rfl rfl rfl (ct+cu+cv+cx+cy+cz+cA+1048570) λh e cH af c v=> ?_;obtain ⟨e,rfl⟩: ∃cB,e=cB+4:=⟨e-4,ab⟩;obtain ⟨aW,aZ,bL⟩:=ao h (e+4) ab ab aG w c u.be ab v ah.cw;obtain ⟨aX,a1,bN⟩:=N h (e+4) ab ab aB D c u.bJ ab v aq.cw;obtain ⟨aY,a7,bO⟩:=N h (e+4) ab ab aA kN c u.so ab v V.cw;have bP: ∀d,az G (X G R h (e+4)) 114 [aA,.fn (.func 112) [] []] c d= .ok (.bool (kN.all amU)) d c:=
  y9 aA (.fn (.func 112) [] []) kN _ V (oy.r u.so) ab rfl (λ_=>rfl) rfl rfl h e ab c v rfl (λaC _ aN a j d=>by obtain ⟨aF,z,rfl,cq,-⟩:=u.so a j;simp only [eg,a6,fw,jj];exact b1 h e ab ab (aF,z) cq aC d aN)
 obtain ⟨ai,aH⟩: ∃ai,ai=amd kN w rop o D:=⟨_,rfl⟩;rw [<-aH];have T:ai↔(kN.length<=40/\w.length<=200/\rop.length+o.length<=200/\aW=true/\aX=true)/\(aY=true/\kN.all amU=true/\(anU rop o).Pairwise (· ≠ ·))/\(∀a∈w,amG kN w a=true)/\D.all (alT kN)=true/\(∀a∈rop,aml kN a)/\ ∀a∈o,amj kN a:=by rw [aH,aZ,a1,a7];rfl
 clear aH aZ a1 a7;have aR: ∀ {p},¬ai->U c p->ak (alN ai) bQ c (.ret (.bool false) p):=λB ck=>ak.box v ck (by simpa using B);generalize kN.all amU=cF at*;refine ak.bM (λd p=>c=p/\aM 87 [(1,.W 0 [aA,aG,ax,ar,aB])] d) ?_ ?_
 . simp only [go_sem,V.J,ah.J,Y.J,ae.J,aq.J];exact an.mk ⟨rfl,dC⟩
 rintro d _ ⟨rfl,hF⟩;have cn:IntKind.i64.wrap ((rop.length:Int)+(o.length:Int))=(rop.length:Int)+(o.length:Int):=wrap64 _ ab ab;refine ak.bF hF (λL d p=>(c=p/\kN.length<=40/\w.length<=200/\rop.length+o.length<=200/\aW=true/\aX=true)/\L d) ?_ ?_
 . simp only [go_sem,hF,V.O,V.len]
   iterate 6 all_goals try (refine an.aE ?_ ?_<;>intro F<;>(first|have bW:=of_decide_eq_true F|have bW:=of_decide_eq_false F|skip)<;>simp only [go_sem,hF,F,ah.O,ah.len,Y.O,Y.len,ae.O,ae.len,aq.O,bL,bN,cn])
   all_goals first
    |exact an.stop rfl (by simp only [go_sem,hF];exact aR (λB=>by have:=(T.1 B).1;first|omega|simp_all) (U.refl _))
    |exact an.mk ⟨⟨rfl,by refine ⟨ab,ab,ab,?_⟩;simp_all⟩,ay⟩
 clear hF;rintro d _ ⟨⟨rfl,b6⟩,hF⟩;rw [and_iff_right b6] at T;refine ak.bF hF (λL d p=>c=p/\aM 87 [(3,.fn (.func 112) [] [])] d/\L d) ?_ ?_
 . simp only [go_sem];exact an.mk ⟨rfl,ay⟩
 clear hF;rintro d _ ⟨rfl,hF⟩;refine ak.np [1] (λL d p=>(Z p/\U c p/\aY=true/\cF=true/\(anU rop o).Pairwise (· ≠ ·))/\L d) ?_ ?_
 . obtain ⟨bu,bw,⟨bj,bm,bf⟩,bR⟩:=b2 h (e+4) ab ab ab c v;obtain ⟨aV,bx,⟨bk,cp,aK⟩,bS⟩:=b3 h (e+4) ab ab ab bw bm;have bc:b8 (rop.map λa=> [M a 0]):=Kg u.op;have au:b8 (o.map λa=> [M a 0]):=Kg u.cP;have cm:bd c.n 9 1 rop.length bx (rop.map λa=> [M a 0]) bu:=bj.at λid cJ _ F=>aK.get bm.1 F;obtain ⟨cE,bz,bV,bh,aI⟩:=cm.app (x:=aV) (b:=16) (k:=1) (t:=22) oe nI rfl rfl al al cp (by have:=bf.n;have:=aK.n;omega) bc.rows ((bk.cw (qK au)).elems (qK au)) au.rows (by simp only [di];unfold b7;omega) (by simp only [di];omega);have bg:=aI.up c (aT _) (bf.trans aK);have bb:b8 ((rop.map λa=> [M a 0])++(o.map λa=> [M a 0])):=λa j=>(cr.1 j).elim (bc a) (au a);obtain ⟨cG,a8,bT⟩:=N h (e+4) ab ab cE _ bz bb (by simp only [bD,di];omega) aI.tidy (bh.cw (qK bb));simp only [go_sem,hF,V.O,bO]
   iterate 3 all_goals try (refine an.aE ?_ ?_<;>intro F<;>simp only [go_sem,hF,F,V.O,Y.O,ae.O,bP,bR,bS,bj.O,bk.O,bV,bh.O,bT])
   all_goals first
    |exact an.stop rfl (by simp only [go_sem,hF];exact aR (λB=>by have:=(T.1 B).1;simp_all) (U.refl _))
    |exact an.stop rfl (by simp only [go_sem,hF];exact aR (λB=>by have:=a8.2 (T.1 B).1.2.2;simp_all) bg)
    |exact an.mk ⟨⟨aI.tidy,bg,de,de,a8.1 de⟩,ay⟩
 clear hF;rintro d A ⟨⟨ag,cl,b9⟩,hF⟩;rw [and_iff_right b9] at T;obtain ⟨i,⟨ba,ca⟩,bU⟩:=b4 h (e+4) ab ab A ag;obtain ⟨br,bs,cC,cD⟩:=b5 h e ab ab i ca ba;obtain ⟨aU,cK,bt,bu,aV,cL⟩:=ba.val;refine ak.bF hF (λL d p=>A=p/\aM 87 [(4,i)] d/\L d) ?_ ?_
 . simp only [go_sem,hF,bU,aU];exact an.mk ⟨rfl,ay⟩
 clear hF;rintro d _ ⟨rfl,hF⟩;have E: ∀I,aD (.fn (.func I) [i] [])=true/\y A.n 20 (.fn (.func I) [i] [])=true:=λI=>⟨by simp [aD],by show ([i].all (y A.n 19)&& [].all (y A.n 19))=true;rw [aO,aV A.n 18];rfl⟩;have aP: ∀aS I,Z (A.push (.cells (q aS) (q aS) 0 [.fn (.func I) [i] []])):=λaS I=>ag.push (by show [aa.fn (.func I) [i] []].all _=true;simp only [aO,kz (mN _) 20 _ (E I).2];rfl);obtain ⟨bn,cb,cf⟩:=aod (P:=λa=>amG kN w a=true) (f:=117) (g:=λa=> [i,.agg a]) (rows:=w) (ad:=h) (n:=e) (H:=A.push (.cells (q 170) (q 170) 0 [.fn (.func 117) [i] []])) λa j=>br a j _ (aP _ _);obtain ⟨bp,cc,cg⟩:=aod (P:=aml kN) (f:=120) (g:=λa=> [i,.agg a]) (rows:=rop) (ad:=h) (n:=e) (H:=A.push (.cells (q 94) (q 94) 0 [.fn (.func 120) [i] []])) λa j=>bs a j _ (aP _ _);obtain ⟨bq,cd,ch⟩:=aod (P:=amj kN) (f:=121) (g:=λa=> [i,.agg a]) (rows:=o) (ad:=h) (n:=e) (H:=A.push (.cells (q 94) (q 94) 0 [.fn (.func 121) [i] []])) λa j=>cC a j _ (aP _ _);have bG:=Oc aG (.fn (.func 117) [i] []) w bn ah (gd.r u.be) ab (E _).1 (λ_=>rfl) rfl rfl h e ab A ag (E _).2 (λa j d=>by simp only [eg,a6,fw,bl];exact cb a j d);have bH:=F8 ax (.fn (.func 120) [i] []) rop bp Y (xh.r u.op) ab (E _).1 (λ_=>rfl) rfl rfl h e ab A ag (E _).2 (λa j d=>by simp only [eg,a6,fw,bl];exact cc a j d);have bI:=F8 ar (.fn (.func 121) [i] []) o bq ae (xh.r u.cP) ab (E _).1 (λ_=>rfl) rfl rfl h e ab A ag (E _).2 (λa j d=>by simp only [eg,a6,fw,bl];exact cd a j d);have bK: ∀d,az G (X G R h (e+4)) 114 [aB,.fn (.func 118) [i] []] A d= .ok (.bool (D.all (alT kN))) d A:=
  y9 aB (.fn (.func 118) [i] []) D _ aq (oy.r u.bJ) ab (E _).1 (λ_=>rfl) rfl rfl h e ab A ag (E _).2 (λaC _ aN a j d=>by obtain ⟨aF,z,rfl,-⟩:=u.bJ a j;simp only [eg,a6,fw,bl,jj];exact cD aF z aC d aN)
 rw [<-cf,<-cg,<-ch] at T;generalize w.all bn=cM at*;generalize rop.all bp=cN at*;generalize o.all bq=cO at*;generalize D.all (alT kN)=cQ at*;simp only [go_sem,hF,ah.O,aU,bt,bG]
 iterate 4 all_goals try (refine ak.aE ?_ ?_<;>intro F<;>simp only [go_sem,hF,F,Y.O,ae.O,aq.O,aU,bt,bH,bI,bK])
 all_goals exact ak.box v cl (by rw [T];simp_all)
def alj (r:List aa):List aa:= [M r 0]
def alM (d:List aa) (kN b rop c i h p e f:Y):Prop:=amT d h p e f/\amd kN b rop c i/\(∀a∈h,alP kN b rop c (ah2 (als a)) (ah2 (alu a)) ((ali a).map ah2))/\amQ kN b rop c (p++e)/\am5 kN b rop i p e d/\
 ∀g a,f[g]? =some a->alL kN b rop c p e (kt d 8) a ((f.take g).map alj)
def an5 (H:af) (P:Prop) (r:bP):Prop:=(∃b a,r= .ret b a []/\M b 2= .ptr H.n (q 78) 0 4/\Z a/\U H a/\a.get H.n=some (.cells (q 78) (q 78) 0 px)/\P)\/
 (∃c b a,r= .aK c b a []/\M b 2= .ptr H.n (q 78) 0 4/\Z a/\U H a/\a.get H.n=some (.cells (q 78) (q 78) 0 px)/\fA c/\ ¬P)
def aq5 {d:List aa} {s:List aa} {kN o rop u ak I p D y:Y} (L:fz d s kN o rop u ak I p D y) {N:Nat} (hT:bL (eE I p D y) N) (hN:N<50000):
    dt 36 [.agg d] (λv=> ∃c l m a b,v= .agg [.int .i64 c,.str l m,.int .i64 a,.int .i64 b]/\(c=0↔alM d kN o rop u ak I p D y)) bQ:=by
 have ef:=L.n1;have ee:=L.iN;obtain ⟨dv,bO⟩:=(arf L).val;obtain ⟨dw,bP⟩:=(ara L.bT).val;obtain ⟨dx,cO⟩:=(Dw L.bT).val;obtain ⟨dy,cP⟩:=dE (l:=uV s kN o rop u) (Q:=λE i j=>dO E s kN o rop u ak->
   (∀f∈I,∀c e,Z e->dP e c d E->alh (alP kN o rop u (ah2 (als f)) (ah2 (alu f)) ((ali f).map ah2)) 65 [c,.agg f] i j e)/\
   (∀c e,Z e->dP e c d E->alh (amQ kN o rop u (p++D)) 66 [c] i j e)/\
   (∀c e,Z e->dP e c d E->alh (am5 kN o rop ak p D d) 67 [c] i j e)/\
   (∀f∈y,∀c bt aq e,Z e->dP e c d E->cG e 1 bt aq->b8 aq->aq.length<=1048560->alh (alL kN o rop u p D (kt d 8) f aq) 68 [c,.agg f,bt] i j e)) λE _=>by
  by_cases bw:dO E s kN o rop u ak
  . obtain ⟨bg,bI⟩:=dE (l:=I) (Q:=λf i j=> ∀c e,Z e->dP e c d E->alh (alP kN o rop u (ah2 (als f)) (ah2 (alu f)) ((ali f).map ah2)) 65 [c,.agg f] i j e) λf B=>by obtain ⟨du,da⟩:=ard bw (L.kx f B) (N:=N) ((hT.left.left).flat (cd.2 ⟨f,B,rfl⟩)) ab;exact ⟨du,λi j bO bP c e aG ax=>da i j bO bP c d e aG ax⟩
    obtain ⟨cD,bJ⟩:=arc bw L (N:=N) hT.left.right ab;obtain ⟨cE,bK⟩:=arx bw L;obtain ⟨cF,bN⟩:=dE (l:=y) (Q:=λf i j=> ∀c bt aq e,Z e->dP e c d E->cG e 1 bt aq->b8 aq->aq.length<=1048560->alh (alL kN o rop u p D (kt d 8) f aq) 68 [c,.agg f,bt] i j e) λf B=>ars bw L (L.bh f B) (N:=N) (hT.right.flat (cd.2 ⟨f,B,rfl⟩)) hN;exact ⟨bg+cD+cE+cF,λi j dI dJ _=>⟨bI i j ab ab,λc e aG ax=>bJ i j ab ab c e aG ax,λc e aG ax=>bK i j ab ab c e aG ax,bN i j ab ab⟩⟩
  . exact ⟨0,λ_ _ _ _ r=>absurd r bw⟩
 obtain ⟨dz,cQ⟩:=gu 2 al;obtain ⟨dA,cR⟩:=gu 16 al;have ct:=L;obtain ⟨eJ,T,aR,et,aL,aU,eN,eQ,bj,⟨aN,aP,rfl,-⟩,ay,b3,⟨aH,aJ,rfl,-⟩,b0,B,⟨aW,aX,rfl,-⟩,⟨a7,a8,rfl,-⟩⟩:=L.eq;obtain ⟨aY,aB,aS,aC,aZ,dh,ca,cb,cc,cf,cg⟩:=L.bT.eq;subst dh;simp only [bl,a6] at bj;obtain ⟨ao,bU⟩: ∃ao,ao=alM d kN o rop u ak I p D y:=⟨_,rfl⟩;rw [<-bU];have bb:ao↔amT d I p D y/\amd kN o rop u ak/\(∀f∈I,alP kN o rop u (ah2 (als f)) (ah2 (alu f)) ((ali f).map ah2))/\amQ kN o rop u (p++D)/\am5 kN o rop ak p D d/\ ∀C f,y[C]? =some f->alL kN o rop u p D (kt d 8) f ((y.take C).map alj):=by rw [bU];rfl
 clear bU;refine ⟨dv+dw+dx+dy+dz+dA+1048570,λi j ec cx e aG=> ?_⟩;obtain ⟨j,rfl⟩:=bY j;have dB: ∀c,f36.body=some c-> ∃f,evalCode G (X G R i j) R i 36 c ([.agg d]++List.replicate 60 (.av [])) e []=mm [(61,[.ptr e.n (q 78) 0 4])] f/\an5 e ao f:=by
  intro c ax;cases ax;rw [bj];have ek:(px.all J)=true:=rfl;have S:Z (e.push (.cells (q 78) (q 78) 0 px)):=aG.push rfl;have b5:U e (e.push (.cells (q 78) (q 78) 0 px)):=(U.refl e).push _;have bW:(e.push (.cells (q 78) (q 78) 0 px)).get e.n=some (.cells (q 78) (q 78) 0 px):=dL _ _;refine QP (λg h=>h=e.push (.cells (q 78) (q 78) 0 px)/\aM 61 [(1,.W 0 [.str aN aP,aY,aB,aS,aC,aZ,T,aR,.str aH aJ,aL,aU,.str aW aX,.str a7 a8]),(2,.ptr e.n (q 78) 0 4),(3,.av [])] g) ?_ ?_
  . simp -implicitDefEqProofs only [go_sem,ca.J,cb.J,cc.J,cf.J,cg.J,ay.J,b3.J,b0.J,B.J];exact dD.mk ⟨rfl,w0⟩
  rintro g w ⟨cl,hF⟩;rw [<-cl] at S b5 bW;clear cl;refine ⟨?_,?_⟩
  . rw [evalCode];refine Eq.trans (Qz (t:=2) (by rw [hF.2.1];rfl)) ?_;rw [hF.2.1];rfl
  have df: ∀ad h,M ad 2= .ptr e.n (q 78) 0 4->Z h->U e h->h.get e.n=some (.cells (q 78) (q 78) 0 px)->ao->an5 e ao (.ret ad h []):=λad h a b c d cN=> .inl ⟨ad,h,rfl,a,b,c,d,cN⟩;have bq: ∀v,fA v-> ¬ao-> ∀ad h,M ad 2= .ptr e.n (q 78) 0 4->Z h->U w h->an5 e ao (.aK v ad h []):=λv bD cx ad h ar b6 bn=> .inr ⟨v,ad,h,rfl,ar,b6,b5.trans bn,bn.get S.1 bW,bD,cx⟩;refine an.end_ ?_;have dX:=S;obtain ⟨_,⟨br,rfl,cp⟩,bB⟩:=bO i j ab ab w S;obtain ⟨cA,⟨dV,rfl,cy⟩,ar⟩:=bP i j ab ab w S;obtain ⟨E,⟨cq,c5⟩,cI⟩:=cO i j ab ab w S;obtain ⟨bI,bJ,bK,bN⟩:=cP i j ab ab E c5 cq;obtain ⟨dM,cA,eO,dN,dQ,eP⟩:=cq.val;have cJ:=λl m a b g=>cQ i j ab ab l m a b w g S;have cK:=λl m a b g=>cR i j ab ab l m a b w g S;rw [bj] at bB;refine an.bM (λg h=>w=h/\aM 61 [(1,.W 0 [.str aN aP,aY,aB,aS,aC,aZ,T,aR,.str aH aJ,aL,aU,.str aW aX,.str a7 a8]),(2,.ptr e.n (q 78) 0 4),(3,.W 0 [.int .i64 0,.int .i64 0])] g) ?_ ?_
  . simp -implicitDefEqProofs only [go_sem,hF];exact an.mk ⟨rfl,dm⟩
  clear hF;rintro g _ ⟨rfl,hF⟩;refine an.bF hF (λK g h=>(w=h/\amT d I p D y)/\K g) ?_ ?_
  . simp -implicitDefEqProofs only [go_sem,hF,bB];refine an.aE ?_ ?_<;>intro aw<;>simp -implicitDefEqProofs only [go_sem,hF,aw,cJ]
    all_goals first
     |exact an.mk ⟨⟨rfl,cp.1 aw⟩,dm⟩
     |exact an.stop rfl (bq _ (lO 2 al _ _ _ _) (λr=>by rw [cp.2 (bb.1 r).1] at aw;cases aw) _ _ dm S (U.refl _))
  clear hF;rintro g _ ⟨⟨rfl,cS⟩,hF⟩;refine an.bF hF (λK g h=>(w=h/\amd kN o rop u ak)/\K g) ?_ ?_
  . simp -implicitDefEqProofs only [go_sem,hF,ar];refine an.aE ?_ ?_<;>intro aw<;>simp -implicitDefEqProofs only [go_sem,hF,aw,cK]
    all_goals first
     |exact an.mk ⟨⟨rfl,cy.1 aw⟩,dm⟩
     |exact an.stop rfl (bq _ (lO 16 al _ _ _ _) (λr=>by rw [cy.2 (bb.1 r).2.1] at aw;cases aw) _ _ dm S (U.refl _))
  clear hF;rintro g _ ⟨⟨rfl,cT⟩,hF⟩;have bo:U w (w.push (.cells (q 123) (q 123) 0 ([.str aN aP,aY,aB,aS,aC,aZ,T,aR,.str aH aJ,aL,aU,.str aW aX,.str a7 a8]++ [E]))):=(U.refl _).push _;have aA:Z (w.push (.cells (q 123) (q 123) 0 ([.str aN aP,aY,aB,aS,aC,aZ,T,aR,.str aH aJ,aL,aU,.str aW aX,.str a7 a8]++ [E]))):=S.push (by
   refine ba.2 λv bD=> ?_;simp only [bl,a6,b2,dG,or_false] at bD;rcases bD with rfl|rfl|rfl|rfl|rfl|rfl|rfl|rfl|rfl|rfl|rfl|rfl|rfl|rfl
   all_goals first
    |exact fR _ 20 20 _ al (ca.aI 19)
    |exact fR _ 20 20 _ al (cb.aI 19)
    |exact fR _ 20 20 _ al (cc.aI 19)
    |exact fR _ 20 20 _ al (cf.aI 19)
    |exact fR _ 20 20 _ al (cg.aI 19)
    |exact fR _ 20 20 _ al (ay.aI 19)
    |exact fR _ 20 20 _ al (b3.aI 19)
    |exact fR _ 20 20 _ al (b0.aI 19)
    |exact fR _ 20 20 _ al (B.aI 19)
    |exact dQ _ _
    |rfl)
  have bx:dP (w.push (.cells (q 123) (q 123) 0 ([.str aN aP,aY,aB,aS,aC,aZ,T,aR,.str aH aJ,aL,aU,.str aW aX,.str a7 a8]++ [E]))) (.ptr w.n (q 123) 0 14) d E:=⟨w.n,_,_,0,rfl,by rw [bj];exact dL _ _,aT _,by rw [bj];rfl⟩;refine an.bF hF (λK g h=>w.push (.cells (q 123) (q 123) 0 ([.str aN aP,aY,aB,aS,aC,aZ,T,aR,.str aH aJ,aL,aU,.str aW aX,.str a7 a8]++ [E]))=h/\aM 61 [(4,.ptr w.n (q 123) 0 14)] g/\K g) ?_ ?_
  . simp -implicitDefEqProofs only [go_sem,hF,ca.J,cb.J,cc.J,cf.J,cg.J,ay.J,b3.J,b0.J,B.J,cI,dM,cA,dN];exact an.mk ⟨rfl,dm⟩
  clear hF;rintro g ae ⟨cm,hF⟩;rw [cm] at bo aA bx;clear cm;refine an.bM (λg h=>(ae=h/\ ∀f∈I,alP kN o rop u (ah2 (als f)) (ah2 (alu f)) ((ali f).map ah2))/\aM 61 [(1,.W 0 [.str aN aP,aY,aB,aS,aC,aZ,T,aR,.str aH aJ,aL,aU,.str aW aX,.str a7 a8]),(2,.ptr e.n (q 78) 0 4),(4,.ptr w.n (q 123) 0 14)] g) ?_ ?_
  . simp -implicitDefEqProofs only [go_sem,hF,ay.O,ay.len];generalize cZ:a1 _ _ _ _ _ _ _ _ _ _=bE;revert bE;refine hz _ _ _ _ (σ:=Unit) (λ_=> [(1,.W 0 [.str aN aP,aY,aB,aS,aC,aZ,T,aR,.str aH aJ,aL,aU,.str aW aX,.str a7 a8]),(2,.ptr e.n (q 78) 0 4),(4,.ptr w.n (q 123) 0 14),(29,T)]) (λ_=>ae) (λC _=> ∀f∈I.take C,alP kN o rop u (ah2 (als f)) (ah2 (alu f)) ((ali f).map ah2)) 61 I.length () rfl rfl (λ_=>rfl) rfl ai dm ab ab ?_ ?_
    . rintro C _ g bZ ag hF;obtain ⟨H,aj⟩:=bA bZ;have bm:=aV aj;have dg:=λf (B:f∈I.take (C+1))=>tT aj B;have b1:=λr=>(bb.1 r).2.2.1 H bm;have b9:alP kN o rop u (ah2 (als H)) (ah2 (alu H)) ((ali H).map ah2)-> ∀f∈I.take (C+1),alP kN o rop u (ah2 (als f)) (ah2 (alu f)) ((ali f).map ah2):=λr cz b4=>by
       rcases dg cz b4 with b4|rfl
       . exact ag cz b4
       . exact r
      have z:=bI H bm (.ptr w.n (q 123) 0 14) ae aA bx;generalize alP kN o rop u (ah2 (als H)) (ah2 (alu H)) ((ali H).map ah2)=cC at*;obtain ⟨dT,dU,P,a,b,rfl,cX,c0,⟨en,bk,c9,-⟩,⟨eH,rfl⟩,⟨eI,rfl⟩⟩:=ct.kx H bm;obtain ⟨ep,eF,ez,eB,eA,eC,eS,eU,eu,ew,cY,-,-⟩:=cX.ea;obtain ⟨er,eG,eK,dI,eL,dJ,eT,eV,ev,ey,c1,-,-⟩:=c0.ea;obtain ⟨rfl,dp,dr⟩:=cY.c;obtain ⟨rfl,dq,ds⟩:=c1.c;simp only [bl,a6] at aj z;simp -implicitDefEqProofs only [go_sem,hF,ay.O,ay.a_ (k:=15) aj rfl,dp.J,dr.J,dq.J,ds.J,bk.J];rcases z with ⟨F,z⟩|⟨bH,⟨bc,F⟩,z⟩<;>simp -implicitDefEqProofs only [go_sem,z]
      . exact au.next () rfl (b9 F) dm
      . exact au.stop rfl (by simp -implicitDefEqProofs only [go_sem];exact an.stop rfl (bq _ bc (λr=>F (b1 r)) _ _ dm aA bo))
    . intro s g ag hF;rw [bX] at ag;simp -implicitDefEqProofs only [go_sem];exact an.mk ⟨⟨rfl,ag⟩,dm⟩
  clear hF;rintro g _ ⟨⟨rfl,cU⟩,hF⟩;refine an.bF hF (λK g h=>(ae=h/\amQ kN o rop u (p++D))/\K g) ?_ ?_
  . have z:=bJ (.ptr w.n (q 123) 0 14) ae aA bx;simp -implicitDefEqProofs only [go_sem,hF];rcases z with ⟨F,z⟩|⟨bH,⟨bc,F⟩,z⟩<;>simp -implicitDefEqProofs only [go_sem,z]
    . exact an.mk ⟨⟨rfl,F⟩,dm⟩
    . exact an.stop rfl (bq _ bc (λr=>F (bb.1 r).2.2.2.1) _ _ dm aA bo)
  clear hF;rintro g _ ⟨⟨rfl,cV⟩,hF⟩;refine an.bF hF (λK g h=>(ae=h/\am5 kN o rop ak p D d)/\K g) ?_ ?_
  . have z:=bK (.ptr w.n (q 123) 0 14) ae aA bx;simp -implicitDefEqProofs only [go_sem,hF];rcases z with ⟨F,z⟩|⟨bH,⟨bc,F⟩,z⟩<;>simp -implicitDefEqProofs only [go_sem,z]
    . exact an.mk ⟨⟨rfl,F⟩,dm⟩
    . exact an.stop rfl (bq _ bc (λr=>F (bb.1 r).2.2.2.2.1) _ _ dm aA bo)
  clear hF;rintro g _ ⟨⟨rfl,cW⟩,hF⟩;refine an.bF hF (λK g h=>ae=h/\aM 61 [(7,.V)] g/\K g) ?_ ?_
  . simp -implicitDefEqProofs only [go_sem];exact an.mk ⟨rfl,dm⟩
  clear hF;rintro g _ ⟨rfl,hF⟩;refine an.np [2] (λK g h=>((Z h/\U w h)/\ao)/\K g) ?_ ?_
  . simp -implicitDefEqProofs only [go_sem,hF,B.O,B.len];generalize cZ:a1 _ _ _ _ _ _ _ _ _ _=bE;revert bE;refine cv (σ:=aa×af) [2,4,44] (λs=> [(7,s.1)]) (λs=>s.2) (λC s=>alo ae s.2 s.1 ((y.take C).map alj) C/\ ∀P<C,∀f,y[P]? =some f->alL kN o rop u p D (kt d 8) f ((y.take P).map alj)) y.length (.V,ae) ⟨⟨bd.nil,λ_ r=>(by cases r),aT _,aA,U.refl _⟩,λP bk=>absurd bk (aiZ _)⟩ (hlf:=(by have:=nV y;omega)) (hN:=(by have:=nV y;omega)) ?_ ?_
    . rintro C ⟨v,bz⟩ g bZ ⟨aF,ag⟩ hF;simp only at aF hF|-;have ed:=nV y;obtain ⟨H,aj⟩:=bA bZ;have bm:=aV aj;obtain ⟨cr,bV,c4,bp,bf⟩:=id aF;have z:=bN H bm (.ptr w.n (q 123) 0 14) v _ bz bp (bx.up aA.1 bf) (cr.cw (qK bV)) bV ab;have b1:=λr=>(bb.1 r).2.2.2.2.2 C H aj;have b9:alL kN o rop u p D (kt d 8) H ((y.take C).map alj)-> ∀P<C+1,∀f,y[P]? =some f->alL kN o rop u p D (kt d 8) f ((y.take P).map alj):=λay P bk dS b7=>by
       rcases qk P C with r|r
       . exact ag P r dS b7
       . obtain rfl:P=C:=ab;rw [aj] at b7;cases b7;exact ay
      generalize alL kN o rop u p D (kt d 8) H ((y.take C).map alj)=cC at*;have ch:=Wo alj aj;obtain ⟨eD,dH,P,dR,cH,a,b,rfl,⟨bg,br,rfl,dj⟩,⟨eM,de,eh,eg⟩,⟨eo,bk,c9,eb⟩,⟨eR,dk,ej,ei⟩,⟨dW,c7,dZ,dY⟩,⟨dC,rfl⟩,⟨dF,rfl⟩⟩:=ct.bh H bm;have db:alj [.str bg br,dH,P,dR,cH,.int .i64 dC,.int .i64 dF]= [.str bg br]:=rfl;rw [db] at ch;obtain ⟨dK,cB,cL,cn⟩:=aF.app (x:= .A [[.str bg br]] true) (aQ:= [[.str bg br]]) (.inl (.inr ⟨_,rfl⟩)) (λf B=>by rw [bs.1 B];exact ⟨_,_,rfl,dj⟩) ah;simp -implicitDefEqProofs only [go_sem,hF,B.O,B.a_ (k:=7) aj rfl,de.J,bk.J,dk.J,c7.J,aF.O];rcases z with ⟨F,z⟩|⟨bH,⟨bc,F⟩,z⟩<;>simp -implicitDefEqProofs only [go_sem,hF,z,aF.O,cL,cn.O]
      . exact au.next (dK,cB) rfl ⟨by rw [ch];exact cn,b9 F⟩ dm
      . exact au.stop rfl (by simp -implicitDefEqProofs only [go_sem];exact an.stop rfl (bq _ bc (λr=>F (b1 r)) _ _ dm bp (bo.trans bf)))
    . rintro ⟨v,bz⟩ g ⟨aF,ag⟩ hF;simp only at aF hF;obtain ⟨cr,bV,c4,bp,bf⟩:=aF;simp -implicitDefEqProofs only [go_sem];exact an.mk ⟨⟨⟨bp,bo.trans bf⟩,bb.2 ⟨cS,cT,cU,cV,cW,λC f B=>ag C (e6.1 B).1 f B⟩⟩,dm⟩
  clear hF;rintro g bz ⟨⟨⟨bp,bf⟩,c3⟩,hF⟩;have cu:bz.get e.n=some (.cells (q 78) (q 78) 0 [.int .i64 0,.str 0 0,.int .i64 0,.int .i64 0]):=bf.get S.1 bW;simp -implicitDefEqProofs only [go_sem,hF,cu];exact an.stop rfl (df _ _ dm (bp.set _ rfl) ((b5.trans bf).set (aT _) _) (nJ _ _ _ (by rw [cu];rfl)) c3)
 obtain ⟨f,cM,ag⟩:=dB _ rfl;have cj: ∀g h c l m a b,M g 2= .ptr e.n (q 78) 0 4->h.get e.n=some (.cells (q 78) (q 78) 0 [.int .i64 c,.str l m,.int .i64 a,.int .i64 b])->hA G f36 g h= .ret (.agg [.int .i64 c,.str l m,.int .i64 a,.int .i64 b]) h:=λg h c l m a b bB ar=>by
  have:hA G f36 g h=gp G [.cell 2 78] g h:=by unfold hA gp;simp only [dn,bu];rfl
  rw [this];simp -implicitDefEqProofs only [go_sem,bB,ar]
 have ck: ∀c l m a b h,U e h->(∀g,X G R i (j+1) 36 [.agg d] e= .ret (.agg [.int .i64 c,.str l m,.int .i64 a,.int .i64 b]) h->az G (X G R i (j+1)) 36 [.agg d] e g= .ok (.agg [.int .i64 c,.str l m,.int .i64 a,.int .i64 b]) g e):=λc l m a b h di g T=>by
  have dd:aD (.agg d)=true:=by rw [bj];rfl
  have c8:=gV (v:= .agg [.int .i64 c,.str l m,.int .i64 a,.int .i64 b]) aG di rfl;rw [jL G _ _ _ _ g rfl (by simp only [aO,dd];rfl),T];simp only [hV,show G.bS 36=false from rfl,fi h _ (.agg [.int .i64 c,.str l m,.int .i64 a,.int .i64 b]) (fr 20 bR _ al rfl),c8];rfl
 have bG:=lN G R i j 36 60 [.agg d] e f36 _ rfl rfl rfl rfl;rw [cM] at bG;rcases ag with ⟨ad,h,rfl,ar,b6,bn,bC,c2⟩|⟨v,ad,h,rfl,ar,b6,bn,bC,⟨c,l,m,a,b,rfl,ax⟩,dc⟩
 . refine .inl ⟨_,⟨0,0,0,0,0,rfl,by simpa using c2⟩,λg=>ck _ _ _ _ _ h bn g ?_⟩;rw [bG];simp only [mm,a6,finish,mO,PI];exact cj _ _ _ _ _ _ _ ar bC
 . refine .inl ⟨_,⟨c,l,m,a,b,rfl,λr=>absurd r ax,λr=>absurd r dc⟩,λg=>ck c l m a b (h.set e.n (.cells (q 78) (q 78) 0 [.int .i64 c,.str l m,.int .i64 a,.int .i64 b])) (bn.set (aT _) _) g ?_⟩;rw [bG];have c6:mv G (X G R i j) R i 61 [.ptr e.n (q 78) 0 4] (some (.iface 78 (.agg [.int .i64 c,.str l m,.int .i64 a,.int .i64 b]))) h=_:=PJ bC;simp only [mm,a6,finish,mO,c6];exact cj _ _ _ _ _ _ _ ar (nJ _ _ _ (by rw [bC];rfl))
def apz {d:List aa} {s:List aa} {kN f rop g h a p b c:Y} (e:fz d s kN f rop g h a p b c) {N:Nat} (hT:bL (eE a p b c) N) (hN:N<50000):
    dt 17 [.agg d] (alN (alM d kN f rop g h a p b c)) bQ:=by
 obtain ⟨w,i⟩:=(aq5 e hT hN).val;obtain ⟨X,K,ad,P,V,af,aj,ao,j,⟨W,Z,rfl,-⟩,q,t,⟨Q,R,rfl,-⟩,r,u,⟨ag,ah,rfl,-⟩,⟨aq,ar,rfl,-⟩⟩:=e.eq;obtain ⟨ai,H,ae,L,an,v,z,A,B,C,D⟩:=e.bT.eq;subst v;simp only [bl,a6] at j;rw [j] at i|-;generalize alM _ kN f rop g h a p b c=E at*;refine aL.run (m:=6) rfl rfl rfl rfl rfl rfl rfl rfl w λx y M O l k=> ?_;obtain ⟨al,⟨I,S,T,F,G,rfl,o⟩,n⟩:=i x y ab ab l k;simp -implicitDefEqProofs only [go_sem,z.J,A.J,B.J,C.J,D.J,q.J,t.J,r.J,u.J,n];exact ak.box k (U.refl _) (by rw [<-o];simp)
end Go.aj
