/- A part of the proof. -/
import Derived.Test.YtiodgpibgiodcaaGreatDoorP00
import Derived.Test.YtiodgpibgiodcaaGreatDoorP07
import Derived.Test.YtiodgpibgiodcaaGreatDoorP10
import Derived.Test.YtiodgpibgiodcaaGreatDoorP12
set_option linter.all false
set_option maxHeartbeats 4000000
namespace Go.aj
open Go Go.Proofs.Tryz
set_option maxRecDepth 100000
open Classical in
theorem PY {P:List aa->Prop} {f:Nat} {g:List aa->List aa} {rows:Y} {ad n:Nat} {H:af} (ag: ∀r∈rows,∃b,(b=true->P r)/\ ∀tm,az G (X G R ad n) f (g r) H tm= .ok (.bool b) tm H): ∃p:List aa->Bool,∀r∈rows,(p r=true->P r)/\ ∀tm,az G (X G R ad n) f (g r) H tm= .ok (.bool (p r)) tm H:=by
 refine ⟨λr=>if bh: ∃b,(b=true->P r)/\ ∀tm,az G (X G R ad n) f (g r) H tm= .ok (.bool b) tm H then bh.choose else false,λr bh=> ?_⟩
 grind
def Oc (x fv:aa) (rows:Y) (p:List aa->Bool) (d:F x rows) (b: ∀r∈rows,gd r) (o:rows.length<4611686018427387904) (j:aD fv=true) (e: ∀t,O t fv=fv) (h:fv.cells= [fv]) (u:J fv=true)
    (ad n:Nat) (l:rows.length<ad) (H:af) (f:Z H) (k:y H.n 20 fv=true) (a: ∀r∈rows,∀tm,cx G (X G R ad n) fv [.agg r] (H.push (.cells (q 170) (q 170) 0 [fv])) tm= .ok (.bool (p r)) tm (H.push (.cells (q 170) (q 170) 0 [fv]))):
    ∀tm,az G (X G R ad (n+4)) 116 [x,fv] H tm= .ok (.bool (rows.all p)) tm H:=by
 have g:Z (H.push (.cells (q 170) (q 170) 0 [fv])):=f.push (by show [fv].all _=true;simp only [aO,kz (mN _) 20 fv k];rfl);have i:=Up x (.fn (.func 177) [] [.ptr H.n (q 170) 0 1]) rows (λr=> !p r) d (λr ag=>EJ (b r ag)) o rfl (λ_=>rfl) ad (n+1) l _ g (λr c tm=>by have a:=a r c;have v:=EJ (b r c);have w:=Zl (b r c);have z:r.take 2=r:=ah;simp only [eg,a6,bl];refine fa (aL.at (m:=6) rfl rfl rfl rfl rfl rfl rfl rfl ?_) tm;simp -implicitDefEqProofs only [go_sem,w,v,z,dL,e,a];exact ak.mk rfl rfl g (U.refl _));refine fa (aL.at (m:=7) rfl rfl rfl rfl rfl (by simp only [aO,d.aD,j];rfl) rfl rfl ?_);simp -implicitDefEqProofs only [go_sem,e,h,u,d.O,i];exact ak.mk ah rfl f ((U.refl _).push _)
def F8 (x fv:aa) (rows:Y) (p:List aa->Bool) (d:F x rows) (b: ∀r∈rows,xh r) (o:rows.length<4611686018427387904) (j:aD fv=true) (e: ∀t,O t fv=fv) (h:fv.cells= [fv]) (u:J fv=true)
    (ad n:Nat) (l:rows.length<ad) (H:af) (f:Z H) (k:y H.n 20 fv=true) (a: ∀r∈rows,∀tm,cx G (X G R ad n) fv [.agg r] (H.push (.cells (q 94) (q 94) 0 [fv])) tm= .ok (.bool (p r)) tm (H.push (.cells (q 94) (q 94) 0 [fv]))):
    ∀tm,az G (X G R ad (n+4)) 119 [x,fv] H tm= .ok (.bool (rows.all p)) tm H:=by
 have g:Z (H.push (.cells (q 94) (q 94) 0 [fv])):=f.push (by show [fv].all _=true;simp only [aO,kz (mN _) 20 fv k];rfl);have i:=Dt x (.fn (.func 178) [] [.ptr H.n (q 94) 0 1]) rows (λr=> !p r) d (λr ag=>Lt (b r ag)) o rfl (λ_=>rfl) ad (n+1) l _ g (λr c tm=>by have a:=a r c;have v:=Lt (b r c);have w:=Zm (b r c);have z:r.take 7=r:=ah;simp only [eg,a6,bl];refine fa (aL.at (m:=6) rfl rfl rfl rfl rfl rfl rfl rfl ?_) tm;simp -implicitDefEqProofs only [go_sem,w,v,z,dL,e,a];exact ak.mk rfl rfl g (U.refl _));refine fa (aL.at (m:=7) rfl rfl rfl rfl rfl (by simp only [aO,d.aD,j];rfl) rfl rfl ?_);simp -implicitDefEqProofs only [go_sem,e,h,u,d.O,i];exact ak.mk ah rfl f ((U.refl _).push _)
def Vp:d G R 112 (λp:Nat×Nat=>T p.1 p.2) (λp=> [.str p.1 p.2]) (λp=> .bool (isName p.1 p.2&& !eD.any (isStr p.1 p.2))):=by
 obtain ⟨u,a⟩:=MP;obtain ⟨v,g⟩:=Jj;obtain ⟨w,h⟩:=oZ 1000 al;refine d.run (m:=10) rfl rfl rfl rfl (λ_=>rfl) (λ_ _=>rfl) rfl rfl (u+v+w) λi j x y o t f c=> ?_;obtain ⟨l,n⟩:=o;have a:=λk=>a i j ab ab (l,n) t f k c;have g:=λk=>g i j ab ab f k c;have r:F (.A eD true) eD:= .inr ⟨_,rfl⟩;have h:=h i j ab ab (.A eD true) eD l n f AT al c r.cw;simp only at a;simp -implicitDefEqProofs only [go_sem,a];refine e.aE ?_ ?_<;>intro q<;>simp -implicitDefEqProofs only [go_sem,q,g,h]
 all_goals exact e.b c (U.refl _) ai
theorem hZ.look {b bJ:List aa} {ar aw:Y} (d:hZ b bJ (eD++ar) aw) (l m:Nat):F (jX false .V (c2 (cU l m) b bJ 0)) (mj ar aw l m):=by
 have c:=d.ex l m;have a:=d.v l m;unfold jr at c a;unfold mj my;rw [<-c]
 cases e:c2 (cU l m) b bJ 0 with
 |none=>exact .inl ⟨rfl,rfl⟩
 |some f=>rw [e] at a;exact a f.2 rfl
def hZ.same {a bJ:List aa} {ar aw:Y} (b:hZ a bJ ar aw):cN (.ck a bJ) (.ck a bJ)=true:=ER (ES b.k) (m5 _ λf e=>by obtain ⟨g,c,d⟩:=b.s f e;exact c.same (qI d))
section
variable {ax:aa} {s:List aa} {ar aw rop ao aJ:Y} (ag:dO ax s ar aw rop ao aJ)
include ag
theorem Vt {r} (C:gd r):dt 117 [ax,.agg r] dI bQ:=by
 obtain ⟨w,x,a,b,rfl,-⟩:=C;obtain ⟨E,d⟩:=sm ag;obtain ⟨F,t⟩:=oZ 1048562 al;obtain ⟨aj,an,M,aq,au,av⟩:=ag.val;have u:=ag.abs a b;have T:=ag.bT.n;have D:=ag.same;obtain ⟨h,j,q,ad,aA,aa,az,v,e,Q,hF⟩:=ag;have g:=e.look a b;have y: ∀c,iM G 134 (.ck j q) (.str a b) false c=some (jX false .V (c2 (cU a b) j q 0)):=λc=>tP (cK:=0) G xj lA rfl Fv e.k e.l;have af:=wI e.same;have ah:=wI (g.same (qI u.1));generalize jX false .V (c2 (cU a b) j q 0)=I at*;obtain ⟨K,N,ae,P,ay,rfl,i,W,X,Y,Z⟩:=h.eq;have ai:=wI (i.same (qI h.so));simp only [bl,a6] at v;refine aL.run (m:=35) rfl rfl rfl rfl rfl (by simp only [aO,M];rfl) rfl rfl (E+F) λo p R S c f=> ?_;have d:=λH J L=>d o p ab ab (H,J) trivial c L f;have A:=t o p ab ab K ar a b c h.so ab f i.cw;have B:=t o p ab ab I (mj ar aw a b) w x c u.1 ab f g.cw;simp only at d;rw [v] at d D|-;simp -implicitDefEqProofs only [go_sem]
 iterate 4 all_goals try (refine ak.aE ?_ ?_<;>intro z<;>simp -implicitDefEqProofs only [go_sem,z,d,A,B,y,i.O,g.O])
 all_goals exact ak.bW f (U.refl _)
def q2 (r:List aa):Prop:= ∀d f a e g c,fB r d f a e g c->a.length<=8/\(∀h∈c,∃b:Int,h= [.int .i64 b]/\1<=b/\b<=a.length)/\c.Pairwise (· ≠ ·)
omit ag in
theorem fB.uniq {r l m args ls ms st wc J6 F_ J4 Kb eL} (ag:fB r l m args ls ms st) (g:fB r wc J6 F_ J4 Kb eL):l=wc/\m=J6/\args=F_/\ls=J4/\ms=Kb/\st=eL:=by obtain ⟨a,p,s,i,j,e,r4,r5,-⟩:=ag.eq;obtain ⟨uR,agq,s',vD,tt,BD,YG,YH,-⟩:=g.eq;rw [e] at BD;simp only [jn,aa.str.injEq] at BD;obtain ⟨⟨rfl,rfl⟩,rfl,⟨rfl,rfl⟩,-,-,-,rfl,-⟩:=BD;exact ⟨rfl,rfl,qe r4 YG,rfl,rfl,qe r5 YH⟩
omit ag in
theorem TN {x:List aa} (bj:c6 x) {l m args ls ms st} (b9:fB x l m args ls ms st) (i:Int) (ad n:Nat) (H:af) (hw:Z H) (id:Nat) (ku:H.get id=some (.cells (q 52) (q 52) 0 x)) (tm:List aa):
  az G (X G R ad (n+1)) 180 [.int .i64 i,.ptr id (q 52) 0 7] H tm= .ok (.bool (decide (i>=1)&&decide (i<=args.length))) tm H:=by
 obtain ⟨a,p,s,vD,tt,rfl,eO,bB,⟨gm,aeW,-⟩⟩:=b9.eq;refine fa (aL.at (m:=11) (rs:= [.tmp 3]) rfl rfl rfl rfl rfl rfl rfl rfl ?_) tm;simp only [go_sem];refine ak.aE ?_ ?_<;>intro g<;>simp only [go_sem,g,ku,eO.O,eO.len]
 all_goals exact ak.mk ai rfl hw (U.refl _)
theorem Vx {r} (t:c6 r):dt 120 [ax,.agg r] (j9 (q2 r)) bQ:=by
 obtain ⟨w,x,p,av,ay,o,i⟩:=id t;obtain ⟨bb,aK⟩:=Ji w x i.s1;obtain ⟨bc,aN⟩:=qn (e_ w x) (fL w x) (by unfold e_ fL;split;exact T.mod _ _;exact i.c5);obtain ⟨bd,aP⟩:=Dq w x;obtain ⟨bf,aQ⟩:=sm ag;obtain ⟨bg,aR⟩:=oZ 1048562 al;obtain ⟨bh,aS⟩:=VO o.length (by have:=i.rS;omega);obtain ⟨bj,aT⟩:=(Vy t).bW;obtain ⟨bY,bZ,bo,b0,b1,b2⟩:=ag.val;have bC:=ag.bT.n;have a1:=ag.same;have S:=ag.bT;have bB:=t.ok;have C:=i.rs;have aq:=i.hS;have aV: ∀ {h:Bool},(h=true->p.length<=8/\(∀ad∈o,∃e:Int,ad= [.int .i64 e]/\1<=e/\e<=p.length)/\o.Pairwise (· ≠ ·))->(h=true->q2 r):=λz K bN bP bp bO bR bX aY=>by
  obtain ⟨-,-,rfl,-,-,rfl⟩:=i.uniq aY
  grind
 obtain ⟨-,bJ,b4,bL,b6,bK,b5,P,bt,bu,hF⟩:=ag;obtain ⟨bm,br,bS,bs,b3,rfl,Y,bE,bG,bH,bI⟩:=S.eq;have bV:=wI (Y.same (qI S.so));simp only [bl,a6] at P;refine aL.run (m:=106) rfl rfl rfl rfl rfl (by simp only [aO,bo];rfl) rfl rfl (bb+bc+bd+bf+bg+bh+bj+p.length+o.length+10) λg c bx bz d V=> ?_;obtain ⟨c,rfl⟩: ∃A,c=A+4:=⟨c-4,ab⟩;have l:Z (d.push (.cells (q 52) (q 52) 0 r)):=V.push (ba.2 λbn bD=>fR _ 20 20 bn al ah);have au:U d (d.push (.cells (q 52) (q 52) 0 r)):=(U.refl d).push _;generalize N:d.push (.cells (q 52) (q 52) 0 r)=b at*;have k:b.get d.n=some (.cells (q 52) (q 52) 0 r):=by rw [<-N];exact dL _ _
 have aA:=λa=>aK g (c+4) ab ab b a l;have aB:=λa=>aN g (c+4) ab ab b a l;have aC:=λa=>aP g (c+4) ab ab b a l;have aG:=aR g (c+4) ab ab bm ar av ay b S.so ab l Y.cw;obtain ⟨H,aH⟩:=aT g (c+4) ab ab b l;have aZ:=t;obtain ⟨u,bk,E,e,a8,rfl,B,D,⟨bU,Q,bA,-⟩⟩:=i.eq;have aF: ∀a,az G (X G R g (c+4)) 114 [u,.fn (.func 118) [ax] []] b a= .ok (.bool (p.all λr=>match r with| [.str u h]=>my ar u h|_=>false)) a b:=
  y9 u (.fn (.func 118) [ax] []) p _ B aq (by have:=i.zk;omega) (by simp [aD]) (λ_=>rfl) rfl rfl g c ab b l (by show ([ax].all (y b.n 19)&& [].all (y b.n 19))=true;grind) (λF _ W r t a=>by obtain ⟨u,h,rfl,-⟩:=aq r t;simp only [eg,a6,fw,bl,jj];exact aQ g c ab ab (u,h) trivial F a W)
 have aI: ∀a,az G (X G R g (c+4)) 181 [E,.fn (.func 180) [] [.ptr d.n (q 52) 0 7]] b a= .ok (.bool (o.all λr=>match r with| [.int _ e]=>decide (e>=1)&&decide (e<=p.length)|_=>false)) a b:=
  U8 E (.fn (.func 180) [] [.ptr d.n (q 52) 0 7]) o _ D C (by have:=i.rS;omega) rfl (λ_=>rfl) rfl rfl g c ab b l (by
    have z:Nat.blt d.n b.n=true:=h_ (by rw [<-N];simp [lq]);show (true&& [aa.ptr d.n (q 52) 0 7].all (y b.n 19))=true;simp only [aO,jm,y,z];rfl) (λF a7 W r t a=>by
   obtain ⟨e,rfl⟩:=C r t;simp only [eg,a6,bl,jj];obtain ⟨A,aX⟩: ∃A,c=A+1:=⟨c-1,ab⟩;rw [aX];exact TN aZ i e g A F W d.n (a7.get l.1 k) a)
 have af:=aF;rw [P] at af a1;have L:=aS g (c+4) ab ab E o b C ab l D.cw;obtain ⟨bq,bw,L⟩:=L;refine ak.bM (λa f=>b=f/\aM 108 [(0,ax),(3,.ptr d.n (q 52) 0 7)] a) ?_ ?_
 . simp -implicitDefEqProofs only [go_sem,B.J,D.J,Q.J,N];exact an.mk ⟨rfl,w0⟩
 rintro a _ ⟨rfl,hF⟩;refine ak.bF hF (λj a f=>b=f/\aM 108 [(5,.str (e_ w x) (fL w x))] a/\j a) ?_ ?_
 . simp -implicitDefEqProofs only [go_sem,hF,k,aA];exact an.mk ⟨rfl,dm⟩
 clear hF;rintro a _ ⟨rfl,hF⟩;refine ak.kp [0,3] (λj a f=>(b=f/\p.length<=8)/\j a) ?_ ?_
 . simp -implicitDefEqProofs only [go_sem,hF,aB]
   iterate 5 all_goals try (refine an.aE ?_ ?_<;>intro v<;>simp -implicitDefEqProofs only [go_sem,hF,v,k,aC,B.O,B.len,af,aG,P,Y.O])
   all_goals first
    |exact an.stop rfl (by simp -implicitDefEqProofs only [go_sem,hF];exact ak.gg V au ai)
    |exact an.mk ⟨ah,dm⟩
 clear hF;rintro a _ ⟨⟨rfl,aU⟩,hF⟩;refine ak.bF hF (λj a f=>b=f/\ ∃H,aM 108 [(7,.bool H)] a/\j a) ?_ ?_
 . simp -implicitDefEqProofs only [go_sem,hF,k,Q.O,Q.len];exact an.mk ⟨rfl,_,by simp -implicitDefEqProofs only [go_sem,hF];trivial⟩
 clear hF;rintro a _ ⟨rfl,H,hF⟩;refine ak.bM (λa f=>b=f/\ ∃ae,aM 108 [(0,ax),(3,.ptr d.n (q 52) 0 7),(8,.bool ae)] a) ?_ ?_
 . simp -implicitDefEqProofs only [go_sem,hF,k]
   iterate 7 all_goals try (refine an.aE ?_ ?_<;>intro v<;>simp -implicitDefEqProofs only [go_sem,hF,v,k])
   all_goals exact an.mk ⟨rfl,_,by simp -implicitDefEqProofs only [go_sem,hF];trivial⟩
 clear hF;rintro a _ ⟨rfl,ae,hF⟩;refine ak.bF hF (λj a f=>b=f/\ ∃I,aM 108 [(9,.bool I)] a/\j a) ?_ ?_
 . simp -implicitDefEqProofs only [go_sem,hF,k]
   iterate 7 all_goals try (refine an.aE ?_ ?_<;>intro v<;>simp -implicitDefEqProofs only [go_sem,hF,v,k])
   all_goals exact an.mk ⟨rfl,_,by simp -implicitDefEqProofs only [go_sem,hF];trivial⟩
 clear hF;rintro a _ ⟨rfl,I,hF⟩;refine ak.kp [0,3,8] (λj a f=>b=f/\M a 9= .bool I/\M a 10= .fn (.func 180) [] [.ptr d.n (q 52) 0 7]/\j a) ?_ ?_
 . simp -implicitDefEqProofs only [go_sem,hF];exact an.mk ⟨rfl,dm⟩
 clear hF;rintro a _ ⟨rfl,hF⟩;simp -implicitDefEqProofs only [go_sem,hF];have aW: ∀h:Bool,(h=true->(o.all λr=>match r with| [.int _ e]=>decide (e>=1)&&decide (e<=p.length)|_=>false)=true/\o.Pairwise (· ≠ ·))->ak (j9 (q2 [.str w x,u,.str av ay,bk,.int .i64 e,.int .i64 a8,E])) bQ d (.ret (.bool h) b):=λh z=>ak.gg V au (aV λK=>⟨aU,(λad aj=>by
  obtain ⟨e,rfl⟩:=C ad aj;have:=ba.1 (z K).1 _ aj
  grind),(z K).2⟩)
 iterate 5 all_goals try (refine ak.aE ?_ ?_<;>intro v<;>simp -implicitDefEqProofs only [go_sem,hF,v,k,D.O,aI,L,aH])
 all_goals exact aW _ de
end
def Vw {ax:aa} {s:List aa} {A ae rop af ag:Y} (w:dO ax s A ae rop af ag) {r} (t:c6 r):dt 121 [ax,.agg r] dI bQ:=by
 obtain ⟨h,i,o,T,V,au,k⟩:=id t;obtain ⟨P,I⟩:=qn h i k.c5;obtain ⟨Q,K⟩:=Dq h i;obtain ⟨S,x⟩:=sm w;obtain ⟨ai,av,B,aw,aj,ay⟩:=w.val;have z:=k.hS;refine aL.run (m:=55) rfl rfl rfl rfl rfl (by simp only [aO,B];rfl) rfl rfl (P+Q+S+o.length+10) λf c al ao b g=> ?_;obtain ⟨c,rfl⟩: ∃Z,c=Z+4:=⟨c-4,ab⟩;have E:=λa=>I f (c+4) ab ab b a g;have F:=λa=>K f (c+4) ab ab b a g;have v:=λh i a=>x f (c+4) ab ab (h,i) trivial b a g;simp only at v;obtain ⟨d,ad,ah,M,N,rfl,j,u,⟨ar,q,aq,-⟩⟩:=k.eq;have H: ∀a,az G (X G R f (c+4)) 114 [d,.fn (.func 118) [ax] []] b a= .ok (.bool (o.all λr=>match r with| [.str d e]=>my A d e|_=>false)) a b:=
  y9 d (.fn (.func 118) [ax] []) o _ j z (by have:=k.zk;omega) (by simp [aD]) (λ_=>rfl) rfl rfl f c ab b g (by show ([ax].all (y b.n 19)&& [].all (y b.n 19))=true;rw [aO,aj b.n 18];rfl) (λD _ L r t a=>by obtain ⟨d,e,rfl,-⟩:=z r t;simp only [eg,a6,fw,bl,jj];exact x f c ab ab (d,e) trivial D a L)
 refine ak.bM (λa l=>b=l/\aM 57 [(0,ax),(3,.W 0 [.str h i,d,.str T V,ad,.int .i64 M,.int .i64 N,ah])] a) ?_ ?_
 . simp only [go_sem,j.J,u.J,q.J];exact an.mk ⟨rfl,dC⟩
 rintro a _ ⟨rfl,hF⟩;refine ak.bF hF (λC a l=>b=l/\ ∃e,aM 57 [(5,.bool e)] a/\C a) ?_ ?_
 . simp only [go_sem,hF,q.O,q.len]
   iterate 4 all_goals try (refine an.aE ?_ ?_<;>intro p<;>simp only [go_sem,hF,p,u.O,u.len])
   all_goals exact an.mk ⟨rfl,_,by simp only [go_sem,hF];trivial⟩
 clear hF;rintro a _ ⟨rfl,e,hF⟩;simp only [go_sem,hF,E]
 iterate 6 all_goals try (refine ak.aE ?_ ?_<;>intro p<;>simp only [go_sem,hF,p,F,j.O,j.len,H,v,ai,B])
 all_goals exact ak.bW g (U.refl _)
structure nm (rop j3:Y):Prop where
  names:((rop.map λr=> [M r 0])++(j3.map λr=> [M r 0])).Pairwise (· ≠ ·)
  ops: ∀r∈rop,q2 r
  len:rop.length+j3.length<=200
def Kg {rows:Y} (b: ∀r∈rows,c6 r):b8 (rows.map λr=> [M r 0]):=λr c=>by
 obtain ⟨g,d,rfl⟩:=cd.1 c;obtain ⟨e,f,i,l,m,p,a⟩:=b g d;obtain ⟨h,n,o,j,k,rfl,-⟩:=a.eq;exact ⟨e,f,rfl,a.c5,a.s1⟩
def U1 {s:List aa} {D C rop r ai} (v:oz s D C rop r ai):dt 64 [.agg s] (j9 (nm rop r)) bQ:=by
 have cx:=v.n;obtain ⟨b9,aj⟩:=VN 1048560 al;obtain ⟨ca,T⟩:=VP 1048560 al;obtain ⟨cb,bO⟩:=Vp;obtain ⟨ax,aC,aw,aq,aA,b1,V,ah,Y,ae,ao⟩:=v.eq;obtain ⟨cc,bP⟩:bo λh e=>rop.length<=1000-> ∀c,Z c-> ∃I u,(bd c.n 9 1 rop.length u (rop.map λa=> [M a 0]) I/\Z u/\U c u)/\ ∀d,az G (X G R h e) 115 [aw] c d= .ok I d u:=by
  by_cases af:rop.length<=1000
  . obtain ⟨aK,aG⟩:=Ju aw rop Y v.op af;exact ⟨aK,λh e aj T _ c p=>aG h e aj T c p trivial⟩
  . exact ⟨0,λ_ _ _ _ z=>absurd z af⟩
 obtain ⟨cd,bR⟩:bo λh e=>r.length<=1000-> ∀c,Z c-> ∃I u,(bd c.n 9 1 r.length u (r.map λa=> [M a 0]) I/\Z u/\U c u)/\ ∀d,az G (X G R h e) 115 [aq] c d= .ok I d u:=by
  by_cases af:r.length<=1000
  . obtain ⟨aK,aG⟩:=Ju aq r ae v.cP af;exact ⟨aK,λh e aj T _ c p=>aG h e aj T c p trivial⟩
  . exact ⟨0,λ_ _ _ _ z=>absurd z af⟩
 obtain ⟨cf,bS⟩:=(Dw v).val;obtain ⟨cg,bT⟩:=dE (l:=uV s D C rop r) (Q:=λj h e=>dO j s D C rop r ai->(∀a∈C,∀c,Z c-> ∃o,∀d,az G (X G R h e) 117 [j,.agg a] c d= .ok (.bool o) d c)/\
   (∀a∈rop,∀c,Z c-> ∃o,(o=true->q2 a)/\ ∀d,az G (X G R h e) 120 [j,.agg a] c d= .ok (.bool o) d c)/\
   (∀a∈r,∀c,Z c-> ∃o,∀d,az G (X G R h e) 121 [j,.agg a] c d= .ok (.bool o) d c)/\
   (∀au av c d,Z c->az G (X G R h e) 118 [j,.str au av] c d= .ok (.bool (my D au av)) d c)) λj _=>by
  by_cases B:dO j s D C rop r ai
  . obtain ⟨bm,bI⟩:=aL.j8 (l:=C) (f:=117) (g:=λa=> [j,.agg a]) (S:=λ_=>dI) λa i=>Vt B (v.be a i);obtain ⟨bn,bK⟩:=aL.j8 (l:=rop) (f:=120) (g:=λa=> [j,.agg a]) (S:=λa=>j9 (q2 a)) λa i=>Vx B (v.op a i);obtain ⟨bp,bL⟩:=aL.j8 (l:=r) (f:=121) (g:=λa=> [j,.agg a]) (S:=λ_=>dI) λa i=>Vw B (v.cP a i);obtain ⟨bq,bN⟩:=sm B;refine ⟨bm+bn+bp+bq,λh e bb bc _=>⟨λa i c p=> ?_,λa i c p=> ?_,λa i c p=> ?_,λau av c d p=>bN h e ab ab (au,av) trivial c d p⟩⟩
    . obtain ⟨I,⟨o,rfl⟩,L⟩:=bI h e ab ab a i c p;exact ⟨o,L⟩
    . obtain ⟨I,⟨o,rfl,B⟩,L⟩:=bK h e ab ab a i c p;exact ⟨o,B,L⟩
    . obtain ⟨I,⟨o,rfl⟩,L⟩:=bL h e ab ab a i c p;exact ⟨o,L⟩
  . exact ⟨0,λ_ _ _ _ z=>absurd z B⟩
 subst b1;refine aL.run (m:=86) rfl rfl rfl rfl rfl rfl rfl rfl (b9+ca+cb+cc+cd+cf+cg+1048570) λh e cv af c p=> ?_;obtain ⟨e,rfl⟩: ∃ch,e=ch+4:=⟨e-4,ab⟩;obtain ⟨cp,-,bw⟩:=aj h (e+4) ab ab aC C c v.be ab p ah.cw;obtain ⟨cq,-,bx⟩:=T h (e+4) ab ab aA ai c v.bJ ab p ao.cw;obtain ⟨ct,-,bz⟩:=T h (e+4) ab ab ax D c v.so ab p V.cw;have bA: ∀d,az G (X G R h (e+4)) 114 [ax,.fn (.func 112) [] []] c d= .ok (.bool (D.all λa=>match a with| [.str E o]=>isName E o&& !eD.any (isStr E o)|_=>false)) d c:=
  y9 ax (.fn (.func 112) [] []) D _ V v.so ab rfl (λ_=>rfl) rfl rfl h e ab c p rfl (λaB _ aI a i d=>by obtain ⟨E,o,rfl,b6,-⟩:=v.so a i;simp only [eg,a6,fw,jj];exact bO h e ab ab (E,o) b6 aB d aI)
 refine ak.bM (λd u=>c=u/\aM 87 [(1,.W 0 [ax,aC,aw,aq,aA])] d) ?_ ?_
 . simp only [go_sem,V.J,ah.J,Y.J,ae.J,ao.J];exact an.mk ⟨rfl,dC⟩
 rintro d _ ⟨rfl,hF⟩;have b4:IntKind.i64.wrap ((rop.length:Int)+(r.length:Int))=(rop.length:Int)+(r.length:Int):=wrap64 _ ab ab;refine ak.bF hF (λK d u=>(c=u/\rop.length+r.length<=200)/\K d) ?_ ?_
 . simp only [go_sem,hF,V.O,V.len]
   iterate 6 all_goals try (refine an.aE ?_ ?_<;>intro N<;>simp only [go_sem,hF,N,ah.O,ah.len,Y.O,Y.len,ae.O,ae.len,ao.O,bw,bx,b4])
   all_goals first
    |exact an.stop rfl (by simp only [go_sem,hF];exact ak.gg p (U.refl _) λz=>by cases z)
    |exact an.mk ⟨⟨rfl,by simp at*;omega⟩,ay⟩
 clear hF;rintro d _ ⟨⟨rfl,bX⟩,hF⟩;refine ak.bF hF (λK d u=>c=u/\aM 87 [(3,.fn (.func 112) [] [])] d/\K d) ?_ ?_
 . simp only [go_sem];exact an.mk ⟨rfl,ay⟩
 clear hF;rintro d _ ⟨rfl,hF⟩;refine ak.kp [1] (λK d u=>(Z u/\U c u/\((rop.map λa=> [M a 0])++(r.map λa=> [M a 0])).Pairwise (· ≠ ·))/\K d) ?_ ?_
 . obtain ⟨bg,bh,⟨aZ,a7,aW⟩,bB⟩:=bP h (e+4) ab ab ab c p;obtain ⟨aQ,bj,⟨a1,b5,aH⟩,bC⟩:=bR h (e+4) ab ab ab bh a7;have aV:b8 (rop.map λa=> [M a 0]):=Kg v.op;have ar:b8 (r.map λa=> [M a 0]):=Kg v.cP;have b3:bd c.n 9 1 rop.length bj (rop.map λa=> [M a 0]) bg:=aZ.at λid cy _ N=>aH.get a7.1 N;obtain ⟨cn,bk,bH,aY,aF⟩:=b3.app (x:=aQ) (b:=16) (k:=1) (t:=22) oe nI rfl rfl al al b5 (by have:=aW.n;have:=aH.n;omega) aV.rows ((a1.cw (qK ar)).elems (qK ar)) ar.rows (by simp only [di];unfold b7;omega) (by simp only [di];omega);have aX:=aF.up c (aT _) (aW.trans aH);have aU:b8 ((rop.map λa=> [M a 0])++(r.map λa=> [M a 0])):=λa i=>(cr.1 i).elim (aV a) (ar a);obtain ⟨cu,bU,bE⟩:=T h (e+4) ab ab cn _ bk aU (by simp only [bD,di];omega) aF.tidy (aY.cw (qK aU));simp only [go_sem,hF,V.O,bz]
   iterate 3 all_goals try (refine an.aE ?_ ?_<;>intro N<;>simp only [go_sem,hF,N,V.O,Y.O,ae.O,bA,bB,bC,aZ.O,a1.O,bH,aY.O,bE])
   all_goals first
    |exact an.stop rfl (by simp only [go_sem,hF];exact ak.gg p (U.refl _) λz=>by cases z)
    |exact an.stop rfl (by simp only [go_sem,hF];exact ak.gg p aX λz=>by cases z)
    |exact an.mk ⟨⟨aF.tidy,aX,bU de⟩,ay⟩
 clear hF;rintro d w ⟨⟨ag,b2,b0⟩,hF⟩;obtain ⟨j,⟨aR,bV⟩,bG⟩:=bS h (e+4) ab ab w ag;obtain ⟨bb,bc,cl,cm⟩:=bT h e ab ab j bV aR;obtain ⟨aP,cz,bf,bg,aQ,cA⟩:=aR.val;refine ak.bF hF (λK d u=>w=u/\aM 87 [(4,j)] d/\K d) ?_ ?_
 . simp only [go_sem,hF,bG,aP];exact an.mk ⟨rfl,ay⟩
 clear hF;rintro d _ ⟨rfl,hF⟩;have A: ∀F,aD (.fn (.func F) [j] [])=true/\y w.n 20 (.fn (.func F) [j] [])=true:=λF=>⟨by simp [aD],by show ([j].all (y w.n 19)&& [].all (y w.n 19))=true;rw [aO,aQ w.n 18];rfl⟩;have aJ: ∀aN F,Z (w.push (.cells (q aN) (q aN) 0 [.fn (.func F) [j] []])):=λaN F=>ag.push (by show [aa.fn (.func F) [j] []].all _=true;simp only [aO,kz (mN _) 20 _ (A F).2];rfl);obtain ⟨cj,bY⟩:=Br (f:=117) (g:=λa=> [j,.agg a]) (rows:=C) (ad:=h) (n:=e) (H:=w.push (.cells (q 170) (q 170) 0 [.fn (.func 117) [j] []])) λa i=>bb a i _ (aJ _ _);obtain ⟨a8,aS⟩:=PY (P:=q2) (f:=120) (g:=λa=> [j,.agg a]) (rows:=rop) (ad:=h) (n:=e) (H:=w.push (.cells (q 94) (q 94) 0 [.fn (.func 120) [j] []])) λa i=>bc a i _ (aJ _ _);obtain ⟨ck,bZ⟩:=Br (f:=121) (g:=λa=> [j,.agg a]) (rows:=r) (ad:=h) (n:=e) (H:=w.push (.cells (q 94) (q 94) 0 [.fn (.func 121) [j] []])) λa i=>cl a i _ (aJ _ _);have br:=Oc aC (.fn (.func 117) [j] []) C cj ah v.be ab (A _).1 (λ_=>rfl) rfl rfl h e ab w ag (A _).2 (λa i d=>by simp only [eg,a6,fw,bl];exact bY a i d);have bs:=F8 aw (.fn (.func 120) [j] []) rop a8 Y v.op ab (A _).1 (λ_=>rfl) rfl rfl h e ab w ag (A _).2 (λa i d=>by simp only [eg,a6,fw,bl];exact (aS a i).2 d);have bt:=F8 aq (.fn (.func 121) [j] []) r ck ae v.cP ab (A _).1 (λ_=>rfl) rfl rfl h e ab w ag (A _).2 (λa i d=>by simp only [eg,a6,fw,bl];exact bZ a i d);have bu: ∀d,az G (X G R h (e+4)) 114 [aA,.fn (.func 118) [j] []] w d= .ok (.bool (ai.all λa=>match a with| [.str E o]=>my D E o|_=>false)) d w:=
  y9 aA (.fn (.func 118) [j] []) ai _ ao v.bJ ab (A _).1 (λ_=>rfl) rfl rfl h e ab w ag (A _).2 (λaB _ aI a i d=>by obtain ⟨E,o,rfl,-⟩:=v.bJ a i;simp only [eg,a6,fw,bl,jj];exact cm E o aB d aI)
 have bW: ∀o:Bool,(o=true->rop.all a8=true)->ak (j9 (nm rop r)) bQ c (.ret (.bool o) w):=λo B=>ak.gg p b2 λL=>⟨b0,λa i=>(aS a i).1 (ba.1 (B L) a i),bX⟩;simp only [go_sem,hF,ah.O,aP,bf,br]
 iterate 4 all_goals try (refine ak.aE ?_ ?_<;>intro N<;>simp only [go_sem,hF,N,Y.O,ae.O,ao.O,aP,bf,bs,bt,bu])
 all_goals exact bW _ de
def Qz {E:Env} {cf:cb} {fid f t:Nat} {ops:Array Oper} {g:Array Nat} {ty:Nat} {e:String} {a:Array Edge} {tm:List aa} {H:af} {ds} (d:aD (O t (M tm t))=true):
    dv E cf fid ops [⟨none,.defer ⟨.value (.func f), #[.tmp t],g⟩,ty,e,a,none⟩] tm H ds= .normal tm H ((f,[O t (M tm t)])::ds):=by
 have b:B E tm (.tmp t)=O t (M tm t):=rfl;have c:B E tm (.func f)= .fn (.func f) [] []:=rfl;generalize O t (M tm t)=h at*;simp [dv,cJ,b,c,d,cH,bu]
def QP {E:Env} {cf:cb} {g:bU} {ad fid:Nat} {a b c:Code} {tm:List aa} {H:af} {d} {P:bP->Prop} (M:List aa->af->Prop) (j:dD M ⟨⟩ (evalCode E cf g ad fid a tm H [])) (k: ∀f e,M f e->evalCode E cf g ad fid b f e []= .normal f e d/\P (evalCode E cf g ad fid c f e [])):
    ∃r,evalCode E cf g ad fid (.seq a (.seq b c)) tm H []=mm d r/\P r:=by
 obtain ⟨f,e,h,l⟩:=j;obtain ⟨i,m⟩:=k f e l;refine ⟨_,?_,m⟩;rw [evalCode,h];simp only;rw [evalCode,i];exact QG E cf g ad fid d c f e
def an.end_ {Q:bP->Prop} {r:bP} (a:an (λ_ _=>False) Q ⟨⟩ r):Q r:=by
 rcases a with ⟨_,_,_,a⟩|⟨_,a⟩
 . exact a.elim
 . exact a
def YE {fid d:Nat} {v:aa} {tm:List aa} (a:G.loc fid d=false):cH G fid (some d) v tm=some (r tm d v):=by
 unfold cH;simp [a,nX]
def GD {cf:cb} {ad:Nat} {id:Nat} {b:Code} {i:Nat} {ty:Nat} {f:String} {d:Array Edge} {c:Option aa} {tm:List aa} {H:af}:
    k6 G cf R ad 61 (.seq (.region i #[⟨some 5,.call ⟨.builtin .recover, #[], #[]⟩,ty,f,d,none⟩] false) (.block id b)) c tm H=(evalCode G cf R ad 61 (.block id b) (r tm 5 (c.getD .dj)) H [],none):=by
 have e: ∀a tm,cH G 61 (some 5) a tm=some (r tm 5 a):=λa tm=>YE dC;simp only [k6,jN,cJ,e]
theorem GC {cf:cb} {ad id g:Nat} {H:af} {c:Option aa} {L:List aa} {H':af} (e: ∀b,f61.body=some b->k6 G cf R ad 61 b c ([.ptr id g 0 4]++List.replicate 13 (.av [])) H=(.normal L H' [],none)):mv G cf R ad 61 [.ptr id g 0 4] c H= .ok none H':=by unfold mv;rw [show G.fns 61=some f61 from rfl];have a: ∃b,f61.body=some b:=⟨_,rfl⟩;obtain ⟨b,a⟩:=a;have d:=e b a;simp only [a];rw [if_pos (by show 1<=14;decide)];rw [show List.replicate (f61.ntmps- [aa.ptr id g 0 4].length) (aa.av [])=List.replicate 13 (.av []) from rfl,d];rfl
@[go_sem ↓] theorem ad8 (E cf fid) (d ty pos b1 g tm H) (x ss a ok):evalOp E cf fid ⟨d,.typeAssert x ss a ok,ty,pos,b1,g⟩ tm H=bb (sD E (B E tm x) ss a ok) tm H:=rfl
def Ox (v):sD G (.iface 78 v) 20 78 true=some (.av [v,.bool true]):=aq
def OU:b4 G .eql 20 .dj .dj=some (.bool true):=aq
def OT (t v):b4 G .eql 20 (.iface t v) .dj=some (.bool false):=aq
theorem PI {cf:cb} {ad id g:Nat} {H:af}:mv G cf R ad 61 [.ptr id g 0 4] none H= .ok none H:=by
 refine GC (L:= ?_) λb a=> ?_
 rotate_left
 . cases a;rw [GD];simp -implicitDefEqProofs only [go_sem,Option.getD,OU];exact rfl
theorem PJ {cf:cb} {ad id g d:Nat} {H:af} {c:Int} {l m:Nat} {a b:Int} {h i j k:aa} (f:H.get id=some (.cells g d 0 [h,i,j,k])):
  mv G cf R ad 61 [.ptr id g 0 4] (some (.iface 78 (.agg [.int .i64 c,.str l m,.int .i64 a,.int .i64 b]))) H= .ok none (H.set id (.cells g g 0 [.int .i64 c,.str l m,.int .i64 a,.int .i64 b])):=by
 refine GC (L:= ?_) λb e=> ?_
 rotate_left
 . cases e;rw [GD];simp -implicitDefEqProofs only [go_sem,Option.getD,OT,Ox,f];exact rfl
structure gf (kN jv rop j3 m4:Y):Prop where
  v:nm rop j3
  s: ∀r∈rop,∀l m args ls ms st,fB r l m args ls ms st->st≠ []->pt kN jv m4 ls ms=false
def px:List aa:= [.int .i64 0,.str 0 0,.int .i64 0,.int .i64 0]
def Ay (H:af) (P:Prop) (r:bP):Prop:=(∃b a,r= .ret b a []/\M b 2= .ptr H.n (q 78) 0 4/\Z a/\U H a/\a.get H.n=some (.cells (q 78) (q 78) 0 px)/\P)\/
 (∃c b a,r= .aK c b a []/\M b 2= .ptr H.n (q 78) 0 4/\Z a/\U H a/\a.get H.n=some (.cells (q 78) (q 78) 0 px)/\fA c)
def Uf {d:List aa} {s:List aa} {H E rop F P req p cl u:Y} (C:fz d s H E rop F P req p cl u) {N:Nat} (hT:bL (eE req p cl u) N) (hN:N<50000):
    dt 36 [.agg d] (λv=> ∃c l m a b,v= .agg [.int .i64 c,.str l m,.int .i64 a,.int .i64 b]/\(c=0->gf H E rop F P)) bQ:=by
 have dI:=C.n1;have dH:=C.iN;obtain ⟨dc,bE⟩:=(Vu C).bW;obtain ⟨dd,bG⟩:=(U1 C.bT).val;obtain ⟨de,cE⟩:=(Dw C.bT).val;obtain ⟨df,cF⟩:=dE (l:=uV s H E rop F) (Q:=λw h i=>dO w s H E rop F P->
   (∀r∈req,∀c e,Z e->dP e c d w->fK 65 [c,.agg r] h i e)/\
   (∀c e,Z e->dP e c d w->fK 66 [c] h i e)/\
   (∀c e,Z e->dP e c d w->AI 67 [c] h i e (∀r∈rop,∀l m cx cj ck bX,fB r l m cx cj ck bX->bX≠ []->pt H E P cj ck=false))/\
   (∀r∈u,∀c aW L e,Z e->dP e c d w->cG e 1 aW L->b8 L->L.length<=1048560->fK 68 [c,.agg r,aW] h i e)) λw _=>by
  by_cases aY:dO w s H E rop F P
  . obtain ⟨bg,bz⟩:=dE (l:=req) (Q:=λr h i=> ∀c e,Z e->dP e c d w->fK 65 [c,.agg r] h i e) λr y=>by obtain ⟨db,cW⟩:=Vk aY (C.kx r y) (N:=N) (λcp cq ch a b da B bH bI a8=>by have:=(hT.left.left).flat (cd.2 ⟨r,y,rfl⟩);rw [B,xO bH bI,bm a8] at this;exact this) ab;exact ⟨db,λh i bE bG c e bp aZ=>cW h i bE bG c d e bp aZ⟩
    obtain ⟨cr,bB⟩:=Vb aY C (N:=N) hT.left.right ab;obtain ⟨ct,bC⟩:=VQ aY C;obtain ⟨cu,bD⟩:=dE (l:=u) (Q:=λr h i=> ∀c aW L e,Z e->dP e c d w->cG e 1 aW L->b8 L->L.length<=1048560->fK 68 [c,.agg r,aW] h i e) λr y=>VI aY C (C.bh r y) (N:=N) (hT.right.flat (cd.2 ⟨r,y,rfl⟩)) hN;exact ⟨bg+cr+ct+cu,λh i dj dk _=>⟨bz h i ab ab,bB h i ab ab,bC h i ab ab,bD h i ab ab⟩⟩
  . exact ⟨0,λ_ _ _ _ aX=>absurd aX aY⟩
 obtain ⟨dg,cH⟩:=gu 2 al;obtain ⟨dh,cI⟩:=gu 16 al;have cf:=C;obtain ⟨en,B,aq,dU,aj,aw,bX,ey,aL,⟨ak,ao,rfl,-⟩,aG,bP,⟨ah,ai,rfl,-⟩,bO,y,⟨ax,ay,rfl,-⟩,⟨aC,aF,rfl,-⟩⟩:=C.eq;obtain ⟨aA,ae,ar,ag,aB,c0,bZ,b0,b1,b3,b4⟩:=C.bT.eq;subst c0;simp only [bl,a6] at aL;refine ⟨dc+dd+de+df+dg+dh+1048570,λh i dB dF e bp=> ?_⟩;obtain ⟨i,rfl⟩:=bY i;have di: ∀c,f36.body=some c-> ∃r,evalCode G (X G R h i) R h 36 c ([.agg d]++List.replicate 60 (.av [])) e []=mm [(61,[.ptr e.n (q 78) 0 4])] r/\Ay e (gf H E rop F P) r:=by
  intro c aZ;cases aZ;rw [aL];have dQ:(px.all J)=true:=rfl;have D:Z (e.push (.cells (q 78) (q 78) 0 px)):=bp.push rfl;have bU:U e (e.push (.cells (q 78) (q 78) 0 px)):=(U.refl e).push _;have bK:(e.push (.cells (q 78) (q 78) 0 px)).get e.n=some (.cells (q 78) (q 78) 0 px):=dL _ _;refine QP (λf g=>g=e.push (.cells (q 78) (q 78) 0 px)/\aM 61 [(1,.W 0 [.str ak ao,aA,ae,ar,ag,aB,B,aq,.str ah ai,aj,aw,.str ax ay,.str aC aF]),(2,.ptr e.n (q 78) 0 4),(3,.av [])] f) ?_ ?_
  . simp -implicitDefEqProofs only [go_sem,bZ.J,b0.J,b1.J,b3.J,b4.J,aG.J,bP.J,bO.J,y.J];exact dD.mk ⟨rfl,w0⟩
  rintro f j ⟨b7,hF⟩;rw [<-b7] at D bU bK;clear b7;refine ⟨?_,?_⟩
  . rw [evalCode];refine Eq.trans (Qz (t:=2) (by rw [hF.2.1];rfl)) ?_;rw [hF.2.1];rfl
  have cZ: ∀I g,M I 2= .ptr e.n (q 78) 0 4->Z g->U e g->g.get e.n=some (.cells (q 78) (q 78) 0 px)->gf H E rop F P->Ay e (gf H E rop F P) (.ret I g []):=λI g a b c d cD=> .inl ⟨I,g,rfl,a,b,c,d,cD⟩;have aU: ∀v,fA v-> ∀I g,M I 2= .ptr e.n (q 78) 0 4->Z g->U j g->Ay e (gf H E rop F P) (.aK v I g []):=λv bo I g S bV aN=> .inr ⟨v,I,g,rfl,S,bV,bU.trans aN,aN.get D.1 bK,bo⟩;refine an.end_ ?_;have dx:=D;obtain ⟨bt,bj⟩:=bE h i ab ab j D;obtain ⟨cm,⟨du,rfl,c3⟩,S⟩:=bG h i ab ab j D;obtain ⟨w,⟨cb,cR⟩,cy⟩:=cE h i ab ab j D;obtain ⟨bz,bB,bC,bD⟩:=cF h i ab ab w cR cb;obtain ⟨dq,cm,eu,dr,ds,ev⟩:=cb.val;have cz:=λl m a b f=>cH h i ab ab l m a b j f D;have cA:=λl m a b f=>cI h i ab ab l m a b j f D;rw [aL] at bj;refine an.bM (λf g=>j=g/\aM 61 [(1,.W 0 [.str ak ao,aA,ae,ar,ag,aB,B,aq,.str ah ai,aj,aw,.str ax ay,.str aC aF]),(2,.ptr e.n (q 78) 0 4),(3,.W 0 [.int .i64 0,.int .i64 0])] f) ?_ ?_
  . simp -implicitDefEqProofs only [go_sem,hF];exact an.mk ⟨rfl,dm⟩
  clear hF;rintro f _ ⟨rfl,hF⟩;refine an.bF hF (λz f g=>j=g/\z f) ?_ ?_
  . simp -implicitDefEqProofs only [go_sem,hF,bj];refine an.aE ?_ ?_<;>intro bk<;>simp -implicitDefEqProofs only [go_sem,hF,bk,cz]
    all_goals first
     |exact an.mk ⟨rfl,dm⟩
     |exact an.stop rfl (aU _ (lO 2 al _ _ _ _) _ _ dm D (U.refl _))
  clear hF;rintro f _ ⟨rfl,hF⟩;refine an.bF hF (λz f g=>(j=g/\nm rop F)/\z f) ?_ ?_
  . simp -implicitDefEqProofs only [go_sem,hF,S];refine an.aE ?_ ?_<;>intro bk<;>simp -implicitDefEqProofs only [go_sem,hF,bk,cA]
    all_goals first
     |exact an.mk ⟨⟨rfl,c3 bk⟩,dm⟩
     |exact an.stop rfl (aU _ (lO 16 al _ _ _ _) _ _ dm D (U.refl _))
  clear hF;rintro f _ ⟨⟨rfl,cP⟩,hF⟩;have aP:U j (j.push (.cells (q 123) (q 123) 0 ([.str ak ao,aA,ae,ar,ag,aB,B,aq,.str ah ai,aj,aw,.str ax ay,.str aC aF]++ [w]))):=(U.refl _).push _;have ad:Z (j.push (.cells (q 123) (q 123) 0 ([.str ak ao,aA,ae,ar,ag,aB,B,aq,.str ah ai,aj,aw,.str ax ay,.str aC aF]++ [w]))):=D.push (by
   refine ba.2 λv bo=> ?_;simp only [bl,a6,b2,dG,or_false] at bo;rcases bo with rfl|rfl|rfl|rfl|rfl|rfl|rfl|rfl|rfl|rfl|rfl|rfl|rfl|rfl
   all_goals first
    |exact fR _ 20 20 _ al (bZ.aI 19)
    |exact fR _ 20 20 _ al (b0.aI 19)
    |exact fR _ 20 20 _ al (b1.aI 19)
    |exact fR _ 20 20 _ al (b3.aI 19)
    |exact fR _ 20 20 _ al (b4.aI 19)
    |exact fR _ 20 20 _ al (aG.aI 19)
    |exact fR _ 20 20 _ al (bP.aI 19)
    |exact fR _ 20 20 _ al (bO.aI 19)
    |exact fR _ 20 20 _ al (y.aI 19)
    |exact ds _ _
    |rfl)
  have a7:dP (j.push (.cells (q 123) (q 123) 0 ([.str ak ao,aA,ae,ar,ag,aB,B,aq,.str ah ai,aj,aw,.str ax ay,.str aC aF]++ [w]))) (.ptr j.n (q 123) 0 14) d w:=⟨j.n,_,_,0,rfl,by rw [aL];exact dL _ _,aT _,by rw [aL];rfl⟩;refine an.bF hF (λz f g=>j.push (.cells (q 123) (q 123) 0 ([.str ak ao,aA,ae,ar,ag,aB,B,aq,.str ah ai,aj,aw,.str ax ay,.str aC aF]++ [w]))=g/\aM 61 [(4,.ptr j.n (q 123) 0 14)] f/\z f) ?_ ?_
  . simp -implicitDefEqProofs only [go_sem,hF,bZ.J,b0.J,b1.J,b3.J,b4.J,aG.J,bP.J,bO.J,y.J,cy,dq,cm,dr];exact an.mk ⟨rfl,dm⟩
  clear hF;rintro f K ⟨b9,hF⟩;rw [b9] at aP ad a7;clear b9;refine an.bM (λf g=>K=g/\aM 61 [(1,.W 0 [.str ak ao,aA,ae,ar,ag,aB,B,aq,.str ah ai,aj,aw,.str ax ay,.str aC aF]),(2,.ptr e.n (q 78) 0 4),(4,.ptr j.n (q 123) 0 14)] f) ?_ ?_
  . simp -implicitDefEqProofs only [go_sem,hF,aG.O,aG.len];generalize cK:a1 _ _ _ _ _ _ _ _ _ _=br;revert br;refine hz _ _ _ _ (σ:=Unit) (λ_=> [(1,.W 0 [.str ak ao,aA,ae,ar,ag,aB,B,aq,.str ah ai,aj,aw,.str ax ay,.str aC aF]),(2,.ptr e.n (q 78) 0 4),(4,.ptr j.n (q 123) 0 14),(29,B)]) (λ_=>K) (λbq _=>True) 61 req.length () rfl rfl (λ_=>rfl) rfl trivial dm ab ab ?_ ?_
    . rintro bq _ f bN _ hF;obtain ⟨bc,aS⟩:=bA bN;have bb:=aV aS;have o:=bz bc bb (.ptr j.n (q 123) 0 14) K ad a7;obtain ⟨cp,cq,ch,a,b,rfl,bH,bI,⟨da,a8,cV,-⟩,⟨ej,rfl⟩,⟨ek,rfl⟩⟩:=cf.kx bc bb;obtain ⟨dS,eh,dZ,ec,eb,ed,eA,eC,dV,dX,cJ,-,-⟩:=bH.ea;obtain ⟨dT,ei,ep,dj,er,dk,eB,eD,dW,dY,cM,-,-⟩:=bI.ea;obtain ⟨rfl,c6,c8⟩:=cJ.c;obtain ⟨rfl,c7,c9⟩:=cM.c;simp only [bl,a6] at aS o;simp -implicitDefEqProofs only [go_sem,hF,aG.O,aG.a_ (k:=15) aS rfl,c6.J,c8.J,c7.J,c9.J,a8.J];rcases o with o|⟨bx,aH,o⟩<;>simp -implicitDefEqProofs only [go_sem,o]
      . exact au.next () rfl trivial dm
      . exact au.stop rfl (by simp -implicitDefEqProofs only [go_sem];exact an.stop rfl (aU _ aH _ _ dm ad aP))
    . intro s f T hF;simp -implicitDefEqProofs only [go_sem];exact an.mk ⟨rfl,dm⟩
  clear hF;rintro f _ ⟨rfl,hF⟩;refine an.bF hF (λz f g=>K=g/\z f) ?_ ?_
  . have o:=bB (.ptr j.n (q 123) 0 14) K ad a7;simp -implicitDefEqProofs only [go_sem,hF];rcases o with o|⟨bx,aH,o⟩<;>simp -implicitDefEqProofs only [go_sem,o]
    . exact an.mk ⟨rfl,dm⟩
    . exact an.stop rfl (aU _ aH _ _ dm ad aP)
  clear hF;rintro f _ ⟨rfl,hF⟩;refine an.bF hF (λz f g=>(K=g/\gf H E rop F P)/\z f) ?_ ?_
  . have o:=bC (.ptr j.n (q 123) 0 14) K ad a7;simp -implicitDefEqProofs only [go_sem,hF];rcases o with ⟨c1,o⟩|⟨bx,aH,o⟩<;>simp -implicitDefEqProofs only [go_sem,o]
    . exact an.mk ⟨⟨rfl,cP,c1⟩,dm⟩
    . exact an.stop rfl (aU _ aH _ _ dm ad aP)
  clear hF;rintro f _ ⟨⟨rfl,cO⟩,hF⟩;refine an.bF hF (λz f g=>K=g/\aM 61 [(7,.V)] f/\z f) ?_ ?_
  . simp -implicitDefEqProofs only [go_sem];exact an.mk ⟨rfl,dm⟩
  clear hF;rintro f _ ⟨rfl,hF⟩;refine an.kp [2] (λz f g=>(Z g/\U j g)/\z f) ?_ ?_
  . simp -implicitDefEqProofs only [go_sem,hF,y.O,y.len];generalize cK:a1 _ _ _ _ _ _ _ _ _ _=br;revert br;refine cv (σ:=aa×af) [2,4,44] (λs=> [(7,s.1)]) (λs=>s.2) (λbq s=>gw K s.2 s.1 bq) u.length (.V,K) ⟨[],bd.nil,λ_ aX=>(by cases aX),aT _,ad,U.refl _⟩ (hlf:=(by have:=nV u;omega)) (hN:=(by have:=nV u;omega)) ?_ ?_
    . rintro bq ⟨v,bf⟩ f bN T hF;simp only at T hF|-;have dC:=nV u;obtain ⟨bc,aS⟩:=bA bN;have bb:=aV aS;obtain ⟨L,cc,bJ,cQ,aR,aJ⟩:=id T;have o:=bD bc bb (.ptr j.n (q 123) 0 14) v L bf aR (a7.up ad.1 aJ) (cc.cw (qK bJ)) bJ ab;obtain ⟨eg,eo,ch,ew,dv,a,b,rfl,⟨bg,bt,rfl,c4⟩,⟨et,cY,dK,dJ⟩,⟨dR,a8,cV,dA⟩,⟨ez,c5,dN,dM⟩,⟨dw,cT,dz,dy⟩,⟨ee,rfl⟩,⟨ef,rfl⟩⟩:=cf.bh bc bb;obtain ⟨dp,cn,cB,ca⟩:=T.app (x:= .A [[.str bg bt]] true) (aQ:= [[.str bg bt]]) (.inl (.inr ⟨_,rfl⟩)) (λr y=>by rw [bs.1 y];exact ⟨_,_,rfl,c4⟩) (by show _+1<_;omega);simp -implicitDefEqProofs only [go_sem,hF,y.O,y.a_ (k:=7) aS rfl,cY.J,a8.J,c5.J,cT.J,T.O];rcases o with o|⟨bx,aH,o⟩<;>simp -implicitDefEqProofs only [go_sem,hF,o,T.O,cB,ca.O]
      . exact au.next (dp,cn) rfl ca dm
      . exact au.stop rfl (by simp -implicitDefEqProofs only [go_sem];exact an.stop rfl (aU _ aH _ _ dm aR (aP.trans aJ)))
    . rintro ⟨v,bf⟩ f T hF;simp only at T hF;obtain ⟨L,cc,bJ,cQ,aR,aJ⟩:=T;simp -implicitDefEqProofs only [go_sem];exact an.mk ⟨⟨aR,aP.trans aJ⟩,dm⟩
  clear hF;rintro f bf ⟨⟨aR,aJ⟩,hF⟩;have cg:bf.get e.n=some (.cells (q 78) (q 78) 0 [.int .i64 0,.str 0 0,.int .i64 0,.int .i64 0]):=aJ.get D.1 bK;simp -implicitDefEqProofs only [go_sem,hF,cg];exact an.stop rfl (cZ _ _ dm (aR.set _ rfl) ((bU.trans aJ).set (aT _) _) (nJ _ _ _ (by rw [cg];rfl)) cO)
 obtain ⟨r,cC,cL⟩:=di _ rfl;have b5: ∀f g c l m a b,M f 2= .ptr e.n (q 78) 0 4->g.get e.n=some (.cells (q 78) (q 78) 0 [.int .i64 c,.str l m,.int .i64 a,.int .i64 b])->hA G f36 f g= .ret (.agg [.int .i64 c,.str l m,.int .i64 a,.int .i64 b]) g:=λf g c l m a b bj S=>by
  have:hA G f36 f g=gp G [.cell 2 78] f g:=by unfold hA gp;simp only [dn,bu];rfl
  rw [this];simp -implicitDefEqProofs only [go_sem,bj,S]
 have b6: ∀c l m a b g,U e g->(∀f,X G R h (i+1) 36 [.agg d] e= .ret (.agg [.int .i64 c,.str l m,.int .i64 a,.int .i64 b]) g->az G (X G R h (i+1)) 36 [.agg d] e f= .ok (.agg [.int .i64 c,.str l m,.int .i64 a,.int .i64 b]) f e):=λc l m a b g c2 f B=>by
  have cX:aD (.agg d)=true:=by rw [aL];rfl
  have cU:=gV (v:= .agg [.int .i64 c,.str l m,.int .i64 a,.int .i64 b]) bp c2 rfl;rw [jL G _ _ _ _ f rfl (by simp only [aO,cX];rfl),B];simp only [hV,show G.bS 36=false from rfl,fi g _ (.agg [.int .i64 c,.str l m,.int .i64 a,.int .i64 b]) (fr 20 bR _ al rfl),cU];rfl
 have bw:=lN G R h i 36 60 [.agg d] e f36 _ rfl rfl rfl rfl;rw [cC] at bw;rcases cL with ⟨I,g,rfl,S,bV,aN,bn,cN⟩|⟨v,I,g,rfl,S,bV,aN,bn,⟨c,l,m,a,b,rfl,aZ⟩⟩
 . refine .inl ⟨_,⟨0,0,0,0,0,rfl,λ_=>cN⟩,λf=>b6 _ _ _ _ _ g aN f ?_⟩;rw [bw];simp only [mm,a6,finish,mO,PI];exact b5 _ _ _ _ _ _ _ S bn
 . refine .inl ⟨_,⟨c,l,m,a,b,rfl,λaX=>absurd aX aZ⟩,λf=>b6 c l m a b (g.set e.n (.cells (q 78) (q 78) 0 [.int .i64 c,.str l m,.int .i64 a,.int .i64 b])) (aN.set (aT _) _) f ?_⟩;rw [bw];have cS:mv G (X G R h i) R h 61 [.ptr e.n (q 78) 0 4] (some (.iface 78 (.agg [.int .i64 c,.str l m,.int .i64 a,.int .i64 b]))) g=_:=PJ bn;simp only [mm,a6,finish,mO,cS];exact b5 _ _ _ _ _ _ _ S (nJ _ _ _ (by rw [bn];rfl))
def U3 {d:List aa} {s:List aa} {h e rop f i req p g u:Y} (a:fz d s h e rop f i req p g u) {N:Nat} (hT:bL (eE req p g u) N) (hN:N<50000):
    dt 17 [.agg d] (j9 (gf h e rop f i)) bQ:=by
 obtain ⟨x,n⟩:=(Uf a hT hN).val;obtain ⟨X,K,ad,P,V,af,aj,ao,b,⟨W,Z,rfl,-⟩,q,t,⟨Q,R,rfl,-⟩,r,v,⟨ag,ah,rfl,-⟩,⟨aq,ar,rfl,-⟩⟩:=a.eq;obtain ⟨ai,H,ae,L,an,w,A,B,C,D,E⟩:=a.bT.eq;subst w;simp only [bl,a6] at b;subst b;refine aL.run (m:=6) rfl rfl rfl rfl rfl rfl rfl rfl x λy z M O j c=> ?_;obtain ⟨al,⟨I,S,T,F,G,rfl,o⟩,k⟩:=n y z ab ab j c;simp -implicitDefEqProofs only [go_sem,A.J,B.J,C.J,D.J,E.J,q.J,t.J,r.J,v.J,k];exact ak.gg c (U.refl _) λl=>o (by simpa using l)
structure ec (K:Nat) (H:af) (fv:aa):Prop where
  nl:aD fv=true
  op: ∀t,O t fv=fv
  ok:J fv=true
  cs:fv.cells= [fv]
  ids:y H.n 20 fv=true
  f: ∃f a c,fv= .fn (.func f) a c
  call: ∀ad n,K<=ad->K<=n-> ∀H',U H H'->Z H'-> ∀l m tm,T l m->l<4611686018427387904->cx G (X G R ad n) fv [.str l m] H' tm= .ok (.str l m) tm H'
def ec.up {b:Nat} {H H' fv} (a:ec b H fv) (c:U H H'):ec b H' fv:=⟨a.nl,a.op,a.ok,a.cs,kz c.n 20 fv a.ids,a.f,λi j e g d h=>a.call i j e g d (c.trans h)⟩
def CA {f:Nat} {args:List aa} {ad n:Nat} {H:af} {v:aa} (b: ∃w H',(w=v/\H'=H)/\ ∀tm,az G (X G R ad n) f args H tm= .ok w tm H'): ∀tm,az G (X G R ad n) f args H tm= .ok v tm H:=by
 obtain ⟨w,H',⟨rfl,rfl⟩,a⟩:=b;exact a
def ec.mono {b L:Nat} {H fv} (a:ec b H fv) (h:b<=L):ec L H fv:=⟨a.nl,a.op,a.ok,a.cs,a.ids,a.f,λc d e g=>a.call c d ab ab⟩
def Tn (H:af):ec 1 H (.fn (.func 75) [] []):=by
 refine ⟨rfl,λ_=>rfl,rfl,rfl,rfl,⟨_,_,_,rfl⟩,λg a _ e d _ b f h c _ _=> ?_⟩;obtain ⟨a,rfl⟩:=bY a;simp only [eg,a6,fw];refine CA (bn.at (m:=3) (rs:= [.tmp 2]) rfl rfl rfl rfl rfl rfl rfl rfl ?_) c;simp only [go_sem];exact bn.mk ⟨rfl,gV b (U.refl _) rfl⟩
def To (H:af):ec 1 H (.fn (.func 288) [] []):=by
 refine ⟨rfl,λ_=>rfl,rfl,rfl,rfl,⟨_,_,_,rfl⟩,λg a _ e d _ b f h c _ _=> ?_⟩;obtain ⟨a,rfl⟩:=bY a;simp only [eg,a6,fw];refine jQ (aL.at (m:=3) (rs:= [.tmp 2]) rfl rfl rfl rfl rfl rfl rfl rfl ?_) c;simp only [go_sem];exact ak.mk rfl rfl b (U.refl _)
def IJ {H:af} {p:Nat} {fv:aa} {g b:Nat} (j:H.get p=some (.cells g b 0 [fv])) (h:b<=g) (o:H.l.length=H.n) {a:Nat} (u:1<=a) (i: ∀ad n,a<=ad->a<=n-> ∀H',U H H'->Z H'-> ∀l m tm,T l m->l<4611686018427387904->cx G (X G R ad n) fv [.str l m] H' tm= .ok (.str l m) tm H') (r: ∀t,O t fv=fv):
    ∀ad n,a+1<=ad->a+1<=n-> ∀H',U H H'->Z H'-> ∀l m tm,T l m->l<4611686018427387904->cx G (X G R ad n) (.fn (.func 145) [] [.ptr p g 0 1]) [.str l m] H' tm= .ok (.str l m) tm H':=by
 intro ad n v w H' c d l m tm s q;obtain ⟨n,rfl⟩:=bY n;have k:=c.get o j;have e:=λtm=>i ad n ab ab H' c d l m tm s q;simp only [eg,a6,bl];refine CA (bn.at (m:=8) (rs:= [.tmp 3]) rfl rfl rfl rfl rfl rfl rfl rfl ?_) tm;simp only [go_sem];refine bn.aE ?_ ?_<;>intro f<;>simp only [go_sem,f,k,h,r,e]
 all_goals exact bn.mk ⟨rfl,gV d (U.refl _) rfl⟩
def L_ {l m:Nat} (a:T l m):e_ l m+jM l m=l/\fL l m+k5 l m<<<(8*e_ l m)=m:=by
 unfold e_ jM fL k5
 cases d:jk l m with
 |false=>simp
 | true=>
   have e:2<l:=by simp [jk] at d;omega
   simp only [if_true];refine ⟨ab,?_⟩;have b:l-(l-2)=2:=ab;rw [b];have f:m<2^(8*l):=by unfold T at a;rwa [show (256:Nat)=2^8 from rfl,<-vW] at a
   have c:m>>>(8*(l-2))<2^(8*2):=by
    rw [yZ];refine Nat.div_lt_of_lt_mul ?_;rw [<-Nat.pow_add]
    rwa [show 8*(l-2)+8*2=8*l by omega]
   rw [tE c,yY,yZ,Nat.add_comm,rK];have:=yU m (2^(8*(l-2)))
   rwa [rK] at this|-
def Tp {H:af} {p:Nat} {fv:aa} {g d:Nat} (s:H.get p=some (.cells g d 0 [fv])) (q:d<=g) (v:H.l.length=H.n) {a:Nat} (y:1<=a) (r: ∀ad n,a<=ad->a<=n-> ∀H',U H H'->Z H'-> ∀l m tm,T l m->l<4611686018427387904->cx G (X G R ad n) fv [.str l m] H' tm= .ok (.str l m) tm H') (x: ∀t,O t fv=fv):
    ∀ad n,a+1<=ad->a+1<=n-> ∀H',U H H'->Z H'-> ∀l m tm,T l m->l<4611686018427387904->cx G (X G R ad n) (.fn (.func 146) [] [.ptr p g 0 1]) [.str l m] H' tm= .ok (.str l m) tm H':=by
 intro ad n z A H' f b l m tm e w;obtain ⟨n,rfl⟩:=bY n;have u:=f.get v s;obtain ⟨c,h⟩:=L_ e;have o:T (e_ l m) (fL l m):=by unfold e_ fL;split;exact T.mod _ _;exact e
 have j:=λtm=>r ad n ab ab H' f b (e_ l m) (fL l m) tm o ab;have k: ∀tm,az G (X G R ad n) 147 [.str l m] H' tm= .ok (.av [.str (e_ l m) (fL l m),.str (jM l m) (k5 l m)]) tm H':=λtm=>MR ad n ab ab (l,m) w H' tm b;have i:e_ l m+jM l m<=ht:=by rw [c];unfold ht;omega
 simp only [eg,a6,bl];refine CA (bn.at (m:=14) (rs:= [.tmp 3]) rfl rfl rfl rfl rfl rfl rfl rfl ?_) tm;simp only [go_sem,u,q,x,j,k,i];rw [c,h];exact bn.mk ⟨rfl,gV b (U.refl _) rfl⟩
def Tq {H:af} {p:Nat} {fv:aa} {g d:Nat} (s:H.get p=some (.cells g d 0 [fv])) (q:d<=g) (v:H.l.length=H.n) {a:Nat} (y:1<=a) (r: ∀ad n,a<=ad->a<=n-> ∀H',U H H'->Z H'-> ∀l m tm,T l m->l<4611686018427387904->cx G (X G R ad n) fv [.str l m] H' tm= .ok (.str l m) tm H') (x: ∀t,O t fv=fv):
    ∀ad n,a+1<=ad->a+1<=n-> ∀H',U H H'->Z H'-> ∀l m tm,T l m->l<4611686018427387904->cx G (X G R ad n) (.fn (.func 225) [] [.ptr p g 0 1]) [.str l m] H' tm= .ok (.str l m) tm H':=by
 intro ad n z A H' f b l m tm e w;obtain ⟨n,rfl⟩:=bY n;have u:=f.get v s;obtain ⟨c,h⟩:=L_ e;have o:T (e_ l m) (fL l m):=by unfold e_ fL;split;exact T.mod _ _;exact e
 have j:=λtm=>r ad n ab ab H' f b (e_ l m) (fL l m) tm o ab;have k: ∀tm,az G (X G R ad n) 147 [.str l m] H' tm= .ok (.av [.str (e_ l m) (fL l m),.str (jM l m) (k5 l m)]) tm H':=λtm=>MR ad n ab ab (l,m) w H' tm b;have i:e_ l m+jM l m<=ht:=by rw [c];unfold ht;omega
 simp only [eg,a6,bl];refine jQ (aL.at (m:=14) (rs:= [.tmp 3]) rfl rfl rfl rfl rfl rfl rfl rfl ?_) tm;simp only [go_sem,u,q,x,j,k,i];rw [c,h];exact ak.mk rfl rfl b (U.refl _)
def aN.RZ {r:List aa} (b:aN r): ∀v∈r,D 19 v=true:=λv a=>by
 obtain ⟨i,l,e,f,g,h,m,n,j,k,rfl,c,d⟩:=b.t;simp only [b2,dG,or_false] at a;rcases a with rfl|rfl|rfl|rfl|rfl|rfl
 . rfl
 . rfl
 . rfl
 . rfl
 . exact c.aI 18
 . exact d.aI 18
def FE (r:List aa) (ad n:Nat):Prop:= ∀(a:af) (c d b:aa),Z a->ec 10 a c->ec 10 a d->ec 10 a b-> ∃e,aN e/\ ∀f,az G (X G R ad n) 226 [.agg r,c,d,b] a f= .ok (.agg e) f a
def Jo (rows:Y) (aj: ∀r∈rows,aN r) (ah:rows.length<1048560) (af:bo λad n=> ∀r∈rows,FE r ad n):
    bo λad n=> ∀x H p q h i j l f g fn,Z H->F x rows->H.get p=some (.cells h j 0 [f])->j<=h->H.get q=some (.cells i l 0 [fn])->l<=i->ec 10 H f->ec 10 H g->ec 10 H fn->
     ∃v,oB (λ_=>True) v/\ ∀tm,az G (X G R ad n) 287 [x,g,.ptr p h 0 1,.ptr q i 0 1] H tm= .ok v tm H:=by
 obtain ⟨ao,T⟩:=af;refine ⟨ao+1048570,λad n aB aC x H p q h i j l f g fn hT e aq P av Q B o z=> ?_⟩;obtain ⟨n,rfl⟩:=bY n;refine hg (aL.at (m:=22) rfl rfl rfl rfl rfl (by simp only [aO,e.aD,o.nl];rfl) rfl rfl ?_);simp only [go_sem,e.O,e.len];have hF:=trivial;generalize aA:a1 _ _ _ _ _ _ _ _ _ _=K;revert K;refine cv [1,2,3,10] (λb=> [(7,b.1)]) (λb=>b.2) (λC b=>eN (λ_=>True) H b.2 b.1 C) rows.length (.V,H) (eN.new _ H hT) ?_ ?_
 . rintro C ⟨v,c⟩ tm ag a hF;simp only at a hF|-;obtain ⟨r,y⟩:=bA ag;have u:=aV y;have W:Z c/\U H c:=by obtain ⟨D,-,-,-,L,M⟩:=a;exact ⟨L,M⟩
   obtain ⟨aa,d⟩:=W;obtain ⟨E,w,N⟩:=T ad n ab ab r u c f g fn aa (B.up d) (o.up d) (z.up d);have ar:=d.get hT.1 aq;have aw:=d.get hT.1 av;have ae:=jc w c;obtain ⟨ax,I,S,s⟩:=a.app (x:= .A [E] true) (aQ:= [E]) (.inl (.inr ⟨_,rfl⟩)) (λD ai=>by rw [bs.1 ai];exact ⟨w,trivial⟩) (by show _+1<_;omega);obtain ⟨aK,aM,aE,aF,aG,aH,aP,D,aJ,aI,rfl,an,al⟩:=(aj r u).t;simp only [go_sem,hF,e.O,e.a_ (k:=6) y rfl,an.J,al.J,ar,P,aw,Q,B.op,o.op,z.op,a.O,N,ae,bH,S,s.O];exact au.next (ax,I) rfl s ay
 . rintro ⟨v,c⟩ tm a hF;simp only at a hF;simp only [go_sem,hF,a.O,a.nl,dX,if_true];exact ak.B_ hT a ah
def VM {r:List aa} {n:Nat} (B:e1 r n):n<1048560-> ∃k,∀ad h,k<=ad->k<=h->FE r ad h:=by
 induction B with
 | @mk r k n u v z A af P F G I e R S aA aB=>
 intro aH;have ax:(F++G).length<=((F++G).map I).sum:=qq λd f=>((cr.1 f).elim (R d) (S d)).pos;have T: ∀d∈F++G,I d<=((F++G).map I).sum:=λd f=>o3 f;rw [bD] at ax;obtain ⟨aC,au⟩:=Jo F (λd f=>(R d f).wt) ab (dE λd f=>aA d f (by have:=T d (hP _ f);omega));obtain ⟨aD,av⟩:=Jo G (λd f=>(S d f).wt) ab (dE λd f=>aB d f (by have:=T d (h7 _ f);omega));refine ⟨aC+aD+20,λad h aJ aK b l Q j X s E p=> ?_⟩;obtain ⟨h,rfl⟩:=bY h;have az:Z (b.push (.cells (q 130) (q 130) 0 [l])):=X.push (by show [l].all _=true;simp only [aO,kz (mN _) 20 l s.ids];rfl);have C:Z ((b.push (.cells (q 130) (q 130) 0 [l])).push (.cells (q 130) (q 130) 0 [j])):=az.push (by have aj:y ((b.push (.cells (q 130) (q 130) 0 [l])).n+1) 20 j=true:=kz (by simp [lq];omega) 20 j p.ids;show [j].all _=true;simp only [aO,aj];rfl);have o:U b ((b.push (.cells (q 130) (q 130) 0 [l])).push (.cells (q 130) (q 130) 0 [j])):=((U.refl b).push _).push _;have K:=ta b (.cells (q 130) (q 130) 0 [l]) (.cells (q 130) (q 130) 0 [j]);have L:((b.push (.cells (q 130) (q 130) 0 [l])).push (.cells (q 130) (q 130) 0 [j])).get (b.n+1)=some (.cells (q 130) (q 130) 0 [j]):=dL (b.push _) _;generalize aw:(b.push (.cells (q 130) (q 130) 0 [l])).push (.cells (q 130) (q 130) 0 [j])=g at*;obtain ⟨H,⟨aQ,w,aF,aN⟩,ao⟩:=au ad h ab ab af g _ _ _ _ _ _ _ Q _ C e.dh K (aT _) L (aT _) (s.up o) (E.up o) (p.up o);obtain ⟨N,⟨aR,x,aG,aP⟩,aq⟩:=av ad h ab ab P g _ _ _ _ _ _ _ (.fn (.func 288) [] []) _ C e.cq K (aT _) L (aT _) (s.up o) ((To g).mono al) (p.up o);have ag:=λa=>s.call ad h ab ab g o C u v a e.c5 e.s1;have ah:=λa=>p.call ad h ab ab g o C u v a e.c5 e.s1;have ai:=λa=>E.call ad h ab ab g o C z A a e.pw e.s2;refine ⟨[.int .i64 k,.int .i64 n,.str u v,.str z A,H,N],.mk ⟨rfl,e.c5,e.pw,e.s1,e.s2,w,x,ab,ab⟩ (λr B=>(aF r B).1) (λr B=>(aG r B).1),?_⟩;obtain ⟨rfl,Y,ae⟩:=e.c;refine jQ (aL.at (m:=48) (rs:= [.cell 8 35]) rfl rfl rfl rfl rfl (by simp only [aO,s.nl,E.nl,p.nl];rfl) rfl rfl ?_);refine ak.bM (λa i=>g=i/\aM 52 [(2,Q),(5,.ptr b.n (q 130) 0 1),(7,.ptr (b.n+1) (q 130) 0 1),(8,.W 0 [.int .i64 0,.int .i64 0,.str 0 0,.str 0 0,.V,.V]),(4,.W 0 [.int .i64 k,.int .i64 n,.str u v,.str z A,af,P])] a) ?_ ?_
 . simp only [go_sem,Y.J,ae.J,s.op,s.ok,s.cs,p.op,p.ok,p.cs,aw];exact an.mk ⟨rfl,dC⟩
 rintro a _ ⟨rfl,hF⟩;refine ak.bF hF (λt a i=>g=i/\t a) ?_ ?_
 . simp only [go_sem,hF]
   iterate 4 all_goals try (refine an.aE ?_ ?_<;>intro ar<;>simp only [go_sem,hF,ar,K,L,s.op,E.op,p.op,ag,ah,ai])
   all_goals exact an.mk ⟨rfl,ay⟩
 clear hF;rintro a _ ⟨rfl,hF⟩;refine ak.bF hF (λt a i=>g=i/\aM 52 [(9,.fn (.func 287) [] [.ptr b.n (q 130) 0 1,.ptr (b.n+1) (q 130) 0 1])] a/\t a) ?_ ?_
 . simp only [go_sem,hF];exact an.mk ⟨rfl,ay⟩
 clear hF;rintro a _ ⟨rfl,hF⟩;refine ak.kp [2,5,7,8] (λt a i=>g=i/\M a 4= .W 0 [.int .i64 k,.int .i64 n,.str u v,.str z A,H,P]/\M a 9= .fn (.func 287) [] [.ptr b.n (q 130) 0 1,.ptr (b.n+1) (q 130) 0 1]/\t a) ?_ ?_
 . simp only [go_sem,hF,E.op,Y.O,ao,w.O,w.J,w.cells];exact an.mk ⟨rfl,ay⟩
 clear hF;rintro a _ ⟨rfl,hF⟩;refine ak.kp [2,5,7,8,9] (λt a i=>g=i/\M a 4= .W 0 [.int .i64 k,.int .i64 n,.str u v,.str z A,H,N]/\t a) ?_ ?_
 . simp only [go_sem,hF,ae.O,aq,x.O,x.J,x.cells];exact an.mk ⟨rfl,ay⟩
 clear hF;rintro a _ ⟨rfl,hF⟩;simp only [go_sem,hF,w.J,x.J];exact ak.mk rfl (by show (([.int .i64 k,.int .i64 n,.str u v,.str z A,H,N]:List aa).all (D 19))=true;simp only [aO,w.aI 18,x.aI 18];rfl) X o
def Tr {a:Nat} (e:1<=a) {H:af} {p:Nat} {fv:aa} {g b:Nat} (d:H.get p=some (.cells g b 0 [fv])) (h:b<=g) (i:H.l.length=H.n) (c:ec a H fv):ec (a+1) H (.fn (.func 225) [] [.ptr p g 0 1]):=
 ⟨rfl,λ_=>rfl,rfl,rfl,by have f:Nat.blt p H.n=true:=h_ (gW d);show ([].all (y H.n 19)&& [aa.ptr p g 0 1].all (y H.n 19))=true;simp only [aO,jm,y,f];rfl,⟨_,_,_,rfl⟩,Tq d h i e c.call c.op⟩
def l9 (r:List aa) (ad n:Nat):Prop:= ∀(a:af) (b:aa),Z a->ec 9 a b-> ∃c,aN c/\ ∀d,az G (X G R ad n) 150 [b,.agg r] a d= .ok (.agg c) d a
def Jn {r:List aa} {n:Nat} (l:e1 r n) (hN:n<1048560): ∃k,∀ad d,k<=ad->k<=d->l9 r ad d:=by
 obtain ⟨E,v⟩:=VM l hN;refine ⟨E+20,λad d H I b a o c=> ?_⟩;obtain ⟨d,rfl⟩:=bY d;have p:Z (b.push (.cells (q 192) (q 192) 0 [a])):=o.push (by show [a].all _=true;simp only [aO,kz (mN _) 20 a c.ids];rfl);have g:U b (b.push (.cells (q 192) (q 192) 0 [a])):=(U.refl b).push _;have s:(b.push (.cells (q 192) (q 192) 0 [a])).get b.n=some (.cells (q 192) (q 192) 0 [a]):=dL _ _;have F: ∀e,b.push (.cells (q 192) (q 192) 0 [a])=e->e=e:=λ_ _=>rfl;generalize w:b.push (.cells (q 192) (q 192) 0 [a])=e at*;obtain ⟨h,f,u⟩:=v ad d ab ab e _ a a p (Tr al s (aT _) p.1 (c.up g)) ((c.up g).mono al) ((c.up g).mono al);refine ⟨h,f,jQ (aL.at (m:=10) (rs:= [.cell 4 35]) rfl rfl rfl rfl rfl (by simp only [aO,c.nl];rfl) rfl rfl ?_)⟩;obtain ⟨X,ae,K,L,M,N,ag,ai,S,V,rfl,z,A⟩:=l.wt.t;have y:=f.row;have G:h.all J=true:=ba.2 λj i=>(y.2 j i).1;have x:D 20 (.agg h)=true:=by show h.all (D 19)=true;exact ba.2 λj i=>aN.RZ f j i
 obtain ⟨Y,af,O,P,Q,R,ah,aj,T,W,rfl,B,C⟩:=f.t;simp only [go_sem,z.J,A.J,B.J,C.J,c.op,c.ok,c.cs,w,s,u];exact ak.mk rfl x o g
def y_ (rows:Y) (P: ∀r∈rows,aN r) (L:rows.length<1048560) (I:bo λad n=> ∀r∈rows,l9 r ad n):
    bo λad n=> ∀x H e,Z H->F x rows->ec 9 H e-> ∃v,oB (λ_=>True) v/\ ∀tm,az G (X G R ad n) 151 [e,x] H tm= .ok v tm H:=by
 obtain ⟨T,B⟩:=I;refine ⟨T+1048570,λad n ae af x H e hT d f=> ?_⟩;obtain ⟨n,rfl⟩:=bY n;refine hg (aL.at (m:=20) rfl rfl rfl rfl rfl (by simp only [aO,d.aD,f.nl];rfl) rfl rfl ?_);simp only [go_sem,d.O,d.len];have hF:=trivial;generalize aa:a1 _ _ _ _ _ _ _ _ _ _=s;revert s;refine cv [0,8] (λb=> [(5,b.1)]) (λb=>b.2) (λl b=>eN (λ_=>True) H b.2 b.1 l) rows.length (.V,H) (eN.new _ H hT) ?_ ?_
 . rintro l ⟨v,c⟩ tm K a hF;simp only at a hF|-;obtain ⟨r,j⟩:=bA K;have h:=aV j;have C:Z c/\U H c:=by obtain ⟨o,-,-,-,u,w⟩:=a;exact ⟨u,w⟩
   obtain ⟨D,N⟩:=C;obtain ⟨p,i,y⟩:=B ad n ab ab r h c e D (f.up N);have E:=jc i c;obtain ⟨W,q,z,g⟩:=a.app (x:= .A [p] true) (aQ:= [p]) (.inl (.inr ⟨_,rfl⟩)) (λo M=>by rw [bs.1 M];exact ⟨i,trivial⟩) (by show _+1<_;omega);obtain ⟨ao,aq,ag,ah,ai,aj,ar,o,an,al,rfl,S,Q⟩:=(P r h).t;simp only [go_sem,hF,d.O,d.a_ (k:=6) j rfl,S.J,Q.J,f.op,a.O,y,E,bH,z,g.O];exact au.next (W,q) rfl g ay
 . rintro ⟨v,c⟩ tm a hF;simp only at a hF;simp only [go_sem,hF,a.O,a.nl,dX,if_true];exact ak.B_ hT a L
def hi (el k:Nat) (b H:af) (v:aa) (c:Nat):Prop:= ∃a,bd b.n el k a.length H a v/\Rows k a/\a.length<=c/\Z H/\U b H
def hi.O {el k c H v b} (a:hi el k c H v b) (t):O t v=v:=by obtain ⟨d,a,-⟩:=a;exact a.O t
def hi.nl {el k c H v b} (a:hi el k c H v b):aD v=true:=by obtain ⟨d,a,-⟩:=a;exact a.aD
def hi.ok {el k c H v b} (a:hi el k c H v b):v.cells= [v]/\J v=true:=by obtain ⟨d,a,-⟩:=a;exact a.cells
def hi.new (el k:Nat) (H:af) (b:Z H):hi el k H H .V 0:=⟨[],bd.nil,λ_ a=>(by cases a),aT _,b,U.refl _⟩
def hi.app {t el k b:Nat} {i:TypeInfo} {d H v c} (B:aW G t=some (.slice el)) (hT:G.T el=some i) (u:i.size=k) (q:i.bytes=b) (w:0<k) (s:b<=4096) (p:hi el k d H v c) {r:List aa} (y:r.length=k/\ ∀v∈r,J v=true/\D 20 v=true) (F:c+1<1048560):
    ∃a H',cI G t t v (.A [r] true) H=some (a,H')/\hi el k d H' a (c+1):=by
 obtain ⟨h,C,m,I,z,l⟩:=p;have f:Rows k [r]:=λg e=>by rw [bs.1 e];exact y
 obtain ⟨a,H',o,E,j⟩:=C.app (x:= .A [r] true) (aQ:= [r]) B hT u q w s z l.n m (dR (.inr ⟨_,rfl⟩) f.len) f (by have:(h.length+ [r].length)*(b+1)<=1048560*4097:=kF (by show h.length+1<=_;omega) ab;unfold b7;omega) (by show _+1<_;omega);exact ⟨a,H',o,h++ [r],by rw [bD];exact E,λg e=>(cr.1 e).elim (m g) (f g),by rw [bD];show _+1<=_;omega,j.tidy,j.up d (aT _) l⟩
def xi (k:Nat) (v:aa):Prop:= ∃a,F v a/\Rows k a/\a.length<1048560
def ak.Sr {el k a H v c} (e:0<k) (h:Z a) (b:hi el k a H v c) (j:c<1048560):ak (xi k) bQ a (.ret v H):=by
 obtain ⟨i,g,d,l,m,f⟩:=b;exact ak.W e h d g (aT _) f λn b=>⟨i,b,d,ab⟩
def O2 {r} (a:r.length=10/\ ∀v∈r,J v=true/\D 20 v=true) (H:af):cT G 28 1 [(0,.agg r)] H=some (.A [r] true,H):=
 mo (E:=G) (t:=28) (el:=83) (k:=10) (H:=H) (z:= .agg [.str 0 0,.str 0 0,.int .i64 0,.int .i64 0,.str 0 0,.str 0 0,.V,.V,.int .i64 0,.int .i64 0]) aq aq aq al rfl al (.agg r) ⟨a.1,ba.2 λv b=>(a.2 v b).1,ba.2 λv b=>(a.2 v b).2⟩
def Jm (rows:Y) (an: ∀r∈rows,iz r) (aj:rows.length<1048560) (ag:bo λad n=> ∀r∈rows,l9 (dQ r) ad n):
    bo λad n=> ∀x H g,Z H->F x rows->ec 9 H g-> ∃v,xi 10 v/\ ∀tm,az G (X G R ad n) 149 [g,x] H tm= .ok v tm H:=by
 obtain ⟨ax,ae⟩:=ag;refine ⟨ax+1048570,λad n aG aH x H g hT e f=> ?_⟩;obtain ⟨n,rfl⟩:=bY n;refine hg (aL.at (m:=33) rfl rfl rfl rfl rfl (by simp only [aO,e.aD,f.nl];rfl) rfl rfl ?_);simp only [go_sem,e.O,e.len];have hF:=trivial;generalize aF:a1 _ _ _ _ _ _ _ _ _ _=Q;revert Q;refine cv [0,8] (λd=> [(5,d.1)]) (λd=>d.2) (λM d=>hi 83 10 H d.2 d.1 M) rows.length (.V,H) (hi.new _ _ H hT) ?_ ?_
 . rintro M ⟨v,c⟩ tm ah a hF;simp only at a hF|-;obtain ⟨r,s⟩:=bA ah;have I:=aV s;have af:Z c/\U H c:=by obtain ⟨aA,-,-,-,S,T⟩:=a;exact ⟨S,T⟩
   obtain ⟨q,u⟩:=af;obtain ⟨N,K,A⟩:=ae ad n ab ab r I c g q (f.up u);obtain ⟨aC,aE,z,o,p,rfl,⟨h,j,rfl,w⟩,⟨i,l,rfl,y⟩,C,⟨o,rfl⟩,⟨p,rfl⟩⟩:=an r I;rw [show dQ ([.str h j,.str i l]++z++ [.int .i64 o,.int .i64 p])=z by unfold dQ;rw [fu,qh ai];simp [C.len]] at A;have L:=iz.row (r:= [.str h j,.str i l]++N++ [.int .i64 o,.int .i64 p]) ⟨_,_,N,_,_,rfl,⟨_,_,rfl,w⟩,⟨_,_,rfl,y⟩,K,⟨_,rfl⟩,⟨_,rfl⟩⟩;have E:=O2 L c;obtain ⟨aB,P,B,D⟩:=a.app (t:=28) (b:=144) aq B4 rfl rfl al al L ab;have W:=λtm=>f.call ad n ab ab c u q h j tm w.1 w.2;have aa:=λtm=>f.call ad n ab ab c u q i l tm y.1 y.2;obtain ⟨aX,aZ,aI,aJ,aK,aM,a8,aA,aT,aS,rfl,ar,ao⟩:=C.t;obtain ⟨aY,a7,aN,aP,aQ,aR,ba,bb,aU,aW,rfl,av,aw⟩:=K.t;simp only [bl,a6] at s E B;simp only [go_sem,hF,e.O,e.a_ (k:=10) s rfl,ar.J,ao.J,av.J,aw.J,f.op,W,aa,a.O,A,E,bH,B,D.O];exact au.next (aB,P) rfl D ay
 . rintro ⟨v,c⟩ tm a hF;simp only at a hF;simp only [go_sem,hF,a.O,a.nl,dX,if_true];exact ak.Sr al hT a aj
def xx {r} (a:r.length=11/\ ∀v∈r,J v=true/\D 20 v=true) (H:af):cT G 61 1 [(0,.agg r)] H=some (.A [r] true,H):=
 mo (E:=G) (t:=61) (el:=85) (k:=11) (H:=H) (z:= .agg [.str 0 0,.str 0 0,.int .i64 0,.int .i64 0,.str 0 0,.str 0 0,.V,.V,.V,.int .i64 0,.int .i64 0]) aq aq aq al rfl al (.agg r) ⟨a.1,ba.2 λv b=>(a.2 v b).1,ba.2 λv b=>(a.2 v b).2⟩
def O3 {v} (a:J v=true/\D 20 v=true) (H:af):cT G 62 1 [(0,.agg [v])] H=some (.A [[v]] true,H):=
 mo (E:=G) (t:=62) (el:=114) (k:=1) (H:=H) (z:= .agg [.V]) aq aq aq al rfl al (.agg [v]) ⟨rfl,by show [v].all J=true;simp [a.1],by show [v].all (D 20)=true;simp [a.2]⟩
def oB.aI {A v} (b:oB A v):(∀t,O t v=v)/\J v=true/\v.cells= [v]/\ ∀d,D (d+1) v=true:=by
 obtain ⟨c,a,-⟩:=b;exact ⟨a.O,a.J,a.cells,a.aI⟩
def Vi {r:List aa} (ao:lI r) {N:Nat} (hT:bL (pf r) N) (hN:N<50000):bo λad n=> ∀H d,Z H->ec 9 H d-> ∃ai,(ai.length=7/\ ∀v∈ai,J v=true/\D 20 v=true)/\ ∀tm,az G (X G R ad n) 152 [d,.agg r] H tm= .ok (.agg ai) tm H:=by
 obtain ⟨eb,bG,z,a,b0,aG,aH,rfl,⟨j,q,rfl,cA⟩,⟨bI,aN,cU,dS⟩,⟨da,bw,cS,dP⟩,⟨cn,aP,cY,dU⟩,⟨cr,a7,cR,dO⟩,⟨B,rfl⟩,⟨C,rfl⟩⟩:=ao;rw [LA aN bw aP] at hT;have cT:=hT.len;simp only [bD,di] at cT;have b5:=hT.right;have br: ∀ {bN:Y},bL bN N->bo λad n=> ∀r∈bN,l9 r ad n:=λs=>dE λr ao=>Jn (s.g_ ao).1 (by have:=(s.g_ ao).2;omega);obtain ⟨dg,bn⟩:=dE (l:=bI) (Q:=λf ad n=>l9 (dd f) ad n/\ ∀aj H d,Z H->F aj (cu f)->ec 9 H d-> ∃v,oB (λ_=>True) v/\ ∀tm,az G (X G R ad n) 151 [d,aj] H tm= .ok v tm H) λf bz=>by obtain ⟨j,bk⟩:=br (hT.left.one (cd.2 ⟨f,bz,rfl⟩));have P:=b5.left.left.flat (cd.2 ⟨f,bz,rfl⟩);have:=P.len;obtain ⟨bW,af⟩:=y_ (cu f) P.wt ab (br P);exact ⟨j+bW,λad n bJ bK=>⟨bk ad n ab ab _ (bs.2 rfl),λaj H d=>af ad n ab ab aj H d⟩⟩
 obtain ⟨dh,bp⟩:=y_ da cS ab (br b5.left.right);obtain ⟨dj,cP⟩:=dE (l:=cn) (Q:=λf ad n=> ∀aj H d,Z H->F aj (cC f)->ec 9 H d-> ∃v,oB (λ_=>True) v/\ ∀tm,az G (X G R ad n) 151 [d,aj] H tm= .ok v tm H) λf bz=>by have P:=b5.right.flat (cd.2 ⟨f,bz,rfl⟩);have:=P.len;obtain ⟨bW,af⟩:=y_ (cC f) P.wt ab (br P);exact ⟨bW,λad n bJ bK aj H d=>af ad n bJ bK aj H d⟩
 refine ⟨dg+dh+dj+1048580,λad n dQ dR H d T u=> ?_⟩;obtain ⟨n,rfl⟩:=bY n;obtain ⟨ae,cX,aB⟩:=bp ad n ab ab z H d T bw u;obtain ⟨dv,cg,dw,bE⟩:=cX.aI;have bX:=λtm=>u.call ad n ab ab H (U.refl _) T j q tm cA.1 cA.2
 suffices dk: ∃v,(∃ai,v= .agg ai/\(ai.length=7/\ ∀v∈ai,J v=true/\D 20 v=true))/\ ∀tm,az G (X G R ad (n+1)) 152 [d,.agg [.str j q,bG,z,a,b0,.int .i64 B,.int .i64 C]] H tm= .ok v tm H by obtain ⟨v,⟨ai,rfl,cV⟩,aA⟩:=dk;exact ⟨ai,cV,aA⟩
 refine hg (aL.at (m:=95) rfl rfl rfl rfl rfl (by simp only [aO,u.nl];rfl) rfl rfl ?_);refine ak.bM (λtm p=>H=p/\aM 97 [(0,d),(3,.W 0 [.str j q,bG,z,a,b0,.int .i64 B,.int .i64 C]),(4,.W 0 [.str 0 0,.V,.V,.V,.V,.int .i64 0,.int .i64 0]),(5,.av [])] tm) ?_ ?_
 . simp only [go_sem,aN.J,bw.J,aP.J,a7.J];exact an.mk ⟨rfl,dC⟩
 rintro tm _ ⟨rfl,hF⟩;refine ak.kp [0,3,4] (λL tm p=>H=p/\M tm 5= .W 0 [.str j q,.V,ae,.V,.V,.int .i64 B,.int .i64 C]/\L tm) ?_ ?_
 . simp only [go_sem,hF,bw.O,u.op,bX,aB,dv,cg,dw];exact an.mk ⟨rfl,ay⟩
 clear hF;rintro tm _ ⟨rfl,hF⟩;refine ak.kp [0,3,4] (λL tm p=> ∃o,hi 85 11 H p o bI.length/\M tm 5= .W 0 [.str j q,o,ae,.V,.V,.int .i64 B,.int .i64 C]/\L tm) ?_ ?_
 . simp only [go_sem,hF,aN.O,aN.len];generalize cw:a1 _ _ _ _ _ _ _ _ _ _=aS;revert aS;refine cv [0,3,4,26] (λe=> [(5,.W 0 [.str j q,e.1,ae,.V,.V,.int .i64 B,.int .i64 C])]) (λe=>e.2) (λah e=>hi 85 11 H e.2 e.1 ah) bI.length (.V,H) (hi.new _ _ H T) ?_ ?_
   . rintro ah ⟨o,g⟩ tm a8 c hF;simp only at c hF|-;obtain ⟨f,ag⟩:=bA a8;have bc:=aV ag;have aX:Z g/\U H g:=by obtain ⟨aR,-,-,-,aG,aH⟩:=c;exact ⟨aG,aH⟩
     obtain ⟨aC,S⟩:=aX;obtain ⟨bk,af⟩:=bn ad n ab ab f bc;obtain ⟨dK,dL,dJ,cG,bR,bS,rfl,⟨bP,bT,rfl,b9⟩,⟨bQ,bU,rfl,ca⟩,b3,⟨dW,bB,dV,-⟩,⟨bR,rfl⟩,⟨bS,rfl⟩⟩:=cU f bc;rw [zy b3.len] at bk;rw [zz b3.len,bm bB] at af;obtain ⟨cp,ct,cN⟩:=bk g d aC (u.up S);obtain ⟨bO,bx,b1⟩:=af cG g d aC bB (u.up S);obtain ⟨ch,bh,cj,ck⟩:=bx.aI;obtain ⟨dy,c7,c8,c9⟩:=id bx;have cz:=lG.row (r:= [.str bP bT,.str bQ bU]++cp++ [bO,.int .i64 bR,.int .i64 bS]) ⟨_,_,cp,_,_,_,rfl,⟨_,_,rfl,b9⟩,⟨_,_,rfl,ca⟩,ct,⟨dy,c7,λr ao=>(c8 r ao).1,c9⟩,⟨_,rfl⟩,⟨_,rfl⟩⟩;have bq:=xx cz g;obtain ⟨aw,I,aK,w⟩:=c.app (t:=61) (b:=168) (i:=t85) aq aq rfl rfl al al cz ab;have bX:=λtm=>u.call ad n ab ab g S aC bP bT tm b9.1 b9.2;have cH:=λtm=>u.call ad n ab ab g S aC bQ bU tm ca.1 ca.2;obtain ⟨dm,ds,c3,c4,c5,c6,dD,aR,dY,dX,rfl,c0,cZ⟩:=b3.t;obtain ⟨dn,dt,db,dc,de,df,dF,dH,dZ,ea,rfl,c1,c2⟩:=ct.t;simp only [bl,a6] at ag bq aK;have dI:True:=trivial;refine au.bM (λtm p=>g=p/\ ∃cl,aM 97 [(28,.int .i64 (ah:Nat)),(27,.int .i64 (bI.length:Nat)),(0,d),(3,.W 0 [.str j q,bG,z,a,b0,.int .i64 B,.int .i64 C]),(4,.W 0 [.str 0 0,.V,.V,.V,.V,.int .i64 0,.int .i64 0]),(5,.W 0 [.str j q,o,ae,.V,.V,.int .i64 B,.int .i64 C]),(26,bG),(7,.W cl [.str bP bT,.str bQ bU,.int .i64 dm,.int .i64 ds,.str c3 c4,.str c5 c6,dD,aR,cG,.int .i64 bR,.int .i64 bS])] tm) ?_ ?_
     . simp only [go_sem,hF,aN.O,aN.a_ (k:=11) ag rfl,c0.J,cZ.J,bB.J];exact an.mk ⟨rfl,_,by simp only [go_sem,hF];trivial⟩
     clear hF;rintro tm _ ⟨rfl,cl,hF⟩;refine au.bF hF (λL tm p=>g=p/\L tm) ?_ ?_
     . simp only [go_sem,hF];refine an.aE ?_ ?_<;>intro aW<;>simp only [go_sem,hF,aW,u.op,cH]
       all_goals exact an.mk ⟨rfl,ay⟩
     clear hF;rintro tm _ ⟨rfl,hF⟩;refine au.kp [28,27,0,3,4,5,26] (λL tm p=>g=p/\M tm 7= .W cl [.str bP bT,.str bQ bU,.int .i64 dn,.int .i64 dt,.str db dc,.str de df,dF,dH,bO,.int .i64 bR,.int .i64 bS]/\L tm) ?_ ?_
     . simp only [go_sem,hF,u.op,bX,bB.O,cN,b1,ch,bh,cj,c1.J,c2.J];exact an.mk ⟨rfl,ay⟩
     clear hF;rintro tm _ ⟨rfl,hF⟩;simp only [go_sem,hF,c.O,w.ok.2,w.ok.1,bq,bH,aK,w.O];exact au.next (aw,I) rfl w ay
   . rintro ⟨o,g⟩ tm c hF;simp only at c hF;simp only [go_sem];exact an.mk ⟨o,c,ay⟩
 clear hF;rintro tm g ⟨o,cx,hF⟩;obtain ⟨cF,cf,dB,ef,aC,S⟩:=id cx;refine ak.kp [0,3,4] (λL tm p=> ∃E,hi 114 1 g p E cn.length/\M tm 5= .W 0 [.str j q,o,ae,E,.V,.int .i64 B,.int .i64 C]/\L tm) ?_ ?_
 . simp only [go_sem,hF,aP.O,aP.len];generalize cw:a1 _ _ _ _ _ _ _ _ _ _=aS;revert aS;refine cv [0,3,4,63] (λe=> [(5,.W 0 [.str j q,o,ae,e.1,.V,.int .i64 B,.int .i64 C])]) (λe=>e.2) (λah e=>hi 114 1 g e.2 e.1 ah) cn.length (.V,g) (hi.new _ _ g aC) ?_ ?_
   . rintro ah ⟨E,I⟩ tm a8 c hF;simp only at c hF|-;obtain ⟨f,ag⟩:=bA a8;have bc:=aV ag;have aX:Z I/\U g I:=by obtain ⟨aR,-,-,-,aG,aH⟩:=c;exact ⟨aG,aH⟩
     obtain ⟨aY,aD⟩:=aX;have af:=cP ad n ab ab f bc;obtain ⟨cq,rfl,⟨cJ,bt,dN,dM⟩⟩:=cY f bc;rw [show cC [cq]=cJ from bm bt] at af;obtain ⟨bO,bx,b1⟩:=af cq I d aY bt ((u.up S).up aD);obtain ⟨ch,bh,cj,ck⟩:=bx.aI;have bq:=O3 ⟨bh,ck 19⟩ I;obtain ⟨aw,K,aK,w⟩:=c.app (t:=62) (b:=24) (i:=t114) aq aq rfl rfl al al (r:= [bO]) ⟨rfl,λv ar=>by rw [bs.1 ar];exact ⟨bh,ck 19⟩⟩ ab;simp only [go_sem,hF,aP.O,aP.a_ (k:=1) ag rfl,bt.J,bt.O,u.op,b1,ch,bh,cj,bq,bH,c.O,aK,w.O,w.ok.2,w.ok.1];exact au.next (aw,K) rfl w ay
   . rintro ⟨E,I⟩ tm c hF;simp only at c hF;simp only [go_sem];exact an.mk ⟨E,c,ay⟩
 clear hF;rintro tm I ⟨E,cy,hF⟩;obtain ⟨cE,cb,dA,ee,aY,aD⟩:=id cy;refine ak.kp [0,4] (λL tm p=> ∃h,gw I p h cr.length/\M tm 5= .W 0 [.str j q,o,ae,E,h,.int .i64 B,.int .i64 C]/\L tm) ?_ ?_
 . simp only [go_sem,hF,a7.O,a7.len];generalize cw:a1 _ _ _ _ _ _ _ _ _ _=aS;revert aS;refine cv [0,4,81] (λe=> [(5,.W 0 [.str j q,o,ae,E,e.1,.int .i64 B,.int .i64 C])]) (λe=>e.2) (λah e=>gw I e.2 e.1 ah) cr.length (.V,I) ⟨[],bd.nil,λ_ s=>(by cases s),aT _,aY,U.refl _⟩ ?_ ?_
   . rintro ah ⟨h,K⟩ tm a8 c hF;simp only at c hF|-;obtain ⟨f,ag⟩:=bA a8;have aX:Z K/\U I K:=by obtain ⟨aR,-,-,-,aG,aH⟩:=c;exact ⟨aG,aH⟩
     obtain ⟨b4,bf⟩:=aX;obtain ⟨aF,cm,rfl,b8⟩:=cR f (aV ag);have cI:=λtm=>u.call ad n ab ab K (S.trans (aD.trans bf)) b4 aF cm tm b8.1 b8.2;obtain ⟨aw,bV,aK,w⟩:=c.app (x:= .A [[.str aF cm]] true) (aQ:= [[.str aF cm]]) (.inl (.inr ⟨_,rfl⟩)) (λr ao=>by rw [bs.1 ao];exact ⟨_,_,rfl,b8⟩) (by show _+1<_;omega);obtain ⟨bJ,bK⟩:aw.cells= [aw]/\J aw=true:=by obtain ⟨aR,s,-⟩:=w;exact s.cells
     obtain ⟨dx,cB⟩:h.cells= [h]/\J h=true:=by obtain ⟨aR,s,-⟩:=c;exact s.cells
     simp only [go_sem,hF,a7.O,a7.a_ (k:=1) ag rfl,u.op,cI,c.O,aK,w.O,bJ,bK];exact au.next (aw,bV) rfl w ay
   . rintro ⟨h,K⟩ tm c hF;simp only at c hF;simp only [go_sem];exact an.mk ⟨h,c,ay⟩
 clear hF;rintro tm K ⟨h,cQ,hF⟩;obtain ⟨cD,bC,dz,ed,b4,bf⟩:=id cQ;have dr:bd H.n 85 11 cF.length K cF o:=cf.at λid du _ aW=>bf.get aY.1 (aD.get aC.1 aW);have dq:bd H.n 114 1 cE.length K cE E:=(cb.at λid du _ aW=>bf.get aY.1 aW).mono S.n (aT _);have dp:bd H.n 9 1 cD.length K cD h:=bC.mono (eT S.n aD.n) (aT _);have cK:cc o E:=λid aU aB=>by have bn:=cf.lt aU;have bp:=cb.ge aB;omega
 have cL:cc o h:=λid aU aB=>by have bn:=cf.lt aU;have bp:=bC.ge aB;have:=aD.n;omega
 have cM:cc E h:=λid aU aB=>by have bn:=cb.lt aU;have bp:=bC.ge aB;omega
 have bZ: ∀ {v a:aa} {ax:Nat},D (ax+1) v=true->cc v a:=λs id aA=>by rw [vi s] at aA;cases aA
 have aJ: ∀ {v a:aa} {ax:Nat},D (ax+1) a=true->cc v a:=λs id _ aA=>by rw [vi s] at aA;cases aA
 obtain ⟨bj,bV,cO,dT,cW,b7,P⟩:=Ey 48 al H (λv a=>J a=true/\ ∀ax,D (ax+1) a=true) [.str j q,o,ae,E,h,.int .i64 B,.int .i64 C] K b4 (S.trans (aD.trans bf)) (λv ar=>by
  have aF: ∀ {bN a},F a bN->J a=true/\ ∀ax,D (ax+1) a=true:=λz=>⟨z.J,z.aI⟩;simp only [b2,dG,or_false] at ar;rcases ar with rfl|rfl|rfl|rfl|rfl|rfl|rfl
  . exact .inl ⟨rfl,rfl,λ_=>rfl⟩
  . exact .inr ⟨_,_,_,_,al,dB,dr,λa z=>aF z⟩
  . exact .inl ⟨bE 48,cg,bE⟩
  . exact .inr ⟨_,_,_,_,al,dA,dq,λa z=>aF z⟩
  . exact .inr ⟨_,_,_,_,al,dz.rows,dp,λa z=>aF z⟩
  . exact .inl ⟨rfl,rfl,λ_=>rfl⟩
  . exact .inl ⟨rfl,rfl,λ_=>rfl⟩) (by
  simp only [hq,b2,dG,or_false,List.Pairwise.nil,and_true];refine ⟨λa _=> @bZ _ _ 0 rfl,λa T=> ?_,λa _=>bZ (bE 0),λa T=> ?_,λa T=> ?_,λa _=> @bZ _ _ 0 rfl,λa s=>s.elim⟩
  . rcases T with rfl|rfl|rfl|rfl|rfl
    . exact aJ (bE 0)
    . exact cK
    . exact cL
    . exact @aJ _ _ 0 rfl
    . exact @aJ _ _ 0 rfl
  . rcases T with rfl|rfl|rfl
    . exact cM
    . exact @aJ _ _ 0 rfl
    . exact @aJ _ _ 0 rfl
  . rcases T with rfl|rfl<;>exact @aJ _ _ 0 rfl)
 obtain ⟨dx,cB⟩:h.cells= [h]/\J h=true:=bC.cells;simp only [go_sem,hF,cg,cx.ok.2,cy.ok.2,cB];refine .inl ⟨.agg bj,⟨bj,rfl,b7,λv ar=> ?_⟩,.agg [.str j q,o,ae,E,h,.int .i64 B,.int .i64 C],K,bV,rfl,?_,gV T cW ?_⟩
 . obtain ⟨bg,bb⟩:=jo ar;have b6:bg<bj.length:=(e6.1 bb).1;have:=P bg _ v (lj (by rw [<-b7];exact b6)) bb;exact ⟨this.1,this.2 19⟩
 . show aZ (49+1) _ _=_;rw [aZ];simp only [cO,bu]
 . show bj.all (y H.n 19)=true;refine ba.2 λv ar=> ?_;obtain ⟨bg,bb⟩:=jo ar;have b6:bg<bj.length:=(e6.1 bb).1;have:=P bg _ v (lj (by rw [<-b7];exact b6)) bb;exact fR H.n 19 19 v (aT _) (this.2 18)
def gB (x:aa) (rows:Y):aa:=match x,rows with
 | .V,_=> .V
 |_,[]=> .A [] true
 |_,_::_=> .A rows false
def xH {x rows} (a:F x rows):F (gB x rows) rows:=by
 rcases a with ⟨rfl,rfl⟩|⟨b,rfl⟩
 . exact .inl ⟨rfl,rfl⟩
 . cases rows with
   |nil=>exact .inr ⟨_,rfl⟩
   |cons=>exact .inr ⟨_,rfl⟩
structure ei (el k:Nat) (a7 H:af) (v x:aa) (rows:Y):Prop where
  tidy:Z H
  up:U a7 H
  alt:(rows= []/\v=gB x []/\cW v=none)\/(x≠ .V/\rows≠ []/\P el k a7 H v rows)
section
variable {el k:Nat} {a7 H:af} {v x:aa} {rows:Y}
theorem Bs (x):gB x []= .V\/gB x []= .A [] true:=by cases x<;>first|exact .inl rfl|exact .inr rfl
theorem ei.cw (a:ei el k a7 H v x rows):cG H k v rows:=by
 rcases a.alt with ⟨rfl,rfl,-⟩|⟨-,-,a⟩
 . rcases Bs x with b|b<;>rw [b]
   . exact .inl (.inl ⟨rfl,rfl⟩)
   . exact .inl (.inr ⟨_,rfl⟩)
 . exact a.cw
theorem ei.facts (a:ei el k a7 H v x rows):(∀t,O t v=v)/\J v=true/\v.cells= [v]/\aD v=true:=by
 rcases a.alt with ⟨rfl,rfl,-⟩|⟨-,-,a⟩
 . rcases Bs x with b|b<;>rw [b]<;>exact ⟨λ_=>rfl,rfl,rfl,rfl⟩
 . exact ⟨a.O,a.ok,a.cs,a.nl⟩
theorem ei.at (a:ei el k a7 H v x rows) {H':af} (c:Z H') (b:U H H'):ei el k a7 H' v x rows:=
 ⟨c,a.up.trans b,a.alt.imp id λ⟨d,e,f⟩=>⟨d,e,f.at c b⟩⟩
theorem ei.mono {b:af} (a:ei el k a7 H v x rows) (c:U b a7):ei el k b H v x rows:=⟨a.tidy,c.trans a.up,a.alt.imp id λ⟨d,e,f⟩=>⟨d,e,f.mono c⟩⟩
theorem ei.bS (f:ei el k a7 H v x rows) {H':af} (c:Z H') (b:U a7 H') (g: ∀id o,H.get id=some o->cW v=some id->H'.get id=some o):ei el k a7 H' v x rows:=
 ⟨c,b,f.alt.imp id λ⟨d,e,a⟩=>⟨d,e,a.W.at ah,a.rw,c,b,a.ex⟩⟩
theorem ei.gc {a:af} {w:aa} (b:ei el k a7 H v x rows) (e:Z a) (c:U a a7) {d:Nat} (h:y a.n 20 w=true->y a.n (d+1) v=true):ei el k a (gc a.n w H) v x rows:=by
 rcases b.alt with ⟨rfl,rfl,l⟩|⟨i,j,g⟩
 . have:Z (gc a.n w H)/\U a (gc a.n w H):=by
    rcases H9 e (c.trans b.up) w with f|⟨f,-⟩<;>rw [f]
    . exact ⟨b.tidy,c.trans b.up⟩
    . exact ⟨e,U.refl _⟩
   exact ⟨this.1,this.2,ah⟩
 . have:=g.gc e c h;exact ⟨this.tidy,this.up,ah⟩
theorem ei.aZ (d:Nat) (g:20<=d) (h:0<k) (i:F x rows) (e:ei el k a7 H v x rows): ∃a,Go.aj.aZ (d+1) v H=some (gB x rows,a)/\Z a/\(∀c,c.n<=a7.n->U c H->U c a)/\(∀id o,H.get id=some o->cW v≠some id->a.get id=some o):=by
 rcases e.alt with ⟨rfl,rfl,-⟩|⟨l,m,f⟩
 . rcases Bs x with b|b<;>rw [b]<;>exact ⟨H,rfl,e.tidy,ai,ah⟩
 . have b:gB x rows=dk rows:=by
    rcases i with ⟨rfl,-⟩|⟨j,rfl⟩
    . grind
    . cases rows with
      |nil=>grind
      |cons=>rfl
   rw [b];exact f.aZ d g h
theorem ei.ge (b:ei el k a7 H v x rows) {id:Nat} (e:cW v=some id):a7.n<=id/\id<H.n:=by
 rcases b.alt with ⟨rfl,rfl,c⟩|⟨-,-,a⟩
 . grind
 . exact ⟨a.W.ge e,a.W.lt e⟩
end
def Fe:aW G 22=some (.slice 9):=aq
def B3:G.T 9=some t9:=aq
@[go_sem] theorem acS (H):cT G 22 0 [] H=some (.A [] true,H):=aq
def OI (rows c):b4 G .eql 22 (.A rows c) .V=some (.bool false):=aq
def Og {H:af} {x:aa} {rows:Y} (o:Z H) (g:F x rows) (b:Rows 1 rows) (q:rows.length<1048560) (m:rows≠ []): ∃d H',cI G 22 22 (.A [] true) x H=some (d,H')/\P 9 1 H H' d rows:=by
 obtain ⟨d,H',a,f,e⟩:=bd.app (c:=0) (n0:=H.n) (H:=H) (rows:= []) (aQ:=rows) (v:= .A [] true) (x:=x) Fe B3 rfl rfl al al (.inr (.inl rfl)) o ab (λp b=>by cases b) (dR g b.len) b (by have j:(([]:Y).length+rows.length)<=1048560:=ah;have l:t9.bytes+1<=33:=al;exact eT (kF j l) (by unfold b7;omega)) ab;rw [gH,a6] at f;refine ⟨d,H',a,⟨f,b,e.tidy,e.up H ab (U.refl _),.inr ⟨m,?_⟩⟩⟩;have h:hx G 9 1 (.slice 9) x H=some (rows.flatten,rows.length):=dR g b.len;unfold cI at a;simp only [Fe,B3,show t9.size=1 from rfl,show t9.bytes=16 from rfl,h] at a;rw [if_pos al] at a
 cases rows with
 |nil=>grind
 | cons p r=>
   simp only [cl,b.ok,if_true,bu,dn,c8] at a;split at a
   . simp only [N,bz] at a;rw [<-a.1];exact λi=>by cases i
   grind
def I5 {ad n:Nat} {x:aa} {rows:Y} {H:af} (b:Z H) (h:F x rows) (j:Rows 1 rows) (i:rows.length<1048560):
    ∃v H',ei 9 1 H H' v x rows/\ ∀tm,az G (X G R ad (n+1)) 101 [x] H tm= .ok v tm H':=by
 refine bn.at (m:=7) rfl rfl rfl rfl rfl (by simp only [aO,h.aD];rfl) rfl rfl ?_;rcases h with ⟨rfl,rfl⟩|⟨a,rfl⟩
 . simp only [go_sem];refine bn.mk ?_;rw [ft ab];exact ⟨b,U.refl _,.inl ⟨rfl,rfl,rfl⟩⟩
 . have f:=OI rows a
   cases g:rows with
   | nil=>
     subst g;have c:cI G 22 22 (.A [] true) (.A [] a) H=some (.A [] true,H):=by cases a<;>kernel_rfl
     simp only [go_sem,f,c,bH];refine bn.mk ?_;rw [ft ab];exact ⟨b,U.refl _,.inl ⟨rfl,rfl,rfl⟩⟩
   | cons p o=>
     rw [<-g];obtain ⟨l,H',c,e⟩:=Og b (x:= .A rows a) (.inr ⟨a,rfl⟩) j i ah;simp only [go_sem,f,c,bH,e.O,e.nl,dX,if_true];refine bn.mk ?_;have:=e.gc b (U.refl _) (v:=l) (d:=19) id;exact ⟨this.tidy,this.up,ah⟩
def MU:aW G 48=some (.slice 88):=aq
def H5:G.T 88=some t88:=aq
@[go_sem] theorem acR (H):cT G 48 0 [] H=some (.A [] true,H):=aq
def OH (rows c):b4 G .eql 48 (.A rows c) .V=some (.bool false):=aq
def Of {H:af} {x:aa} {rows:Y} (o:Z H) (g:F x rows) (b:Rows 2 rows) (q:rows.length<1048560) (m:rows≠ []): ∃d H',cI G 48 48 (.A [] true) x H=some (d,H')/\P 88 2 H H' d rows:=by
 obtain ⟨d,H',a,f,e⟩:=bd.app (c:=0) (n0:=H.n) (H:=H) (rows:= []) (aQ:=rows) (v:= .A [] true) (x:=x) MU H5 rfl rfl al al (.inr (.inl rfl)) o ab (λp b=>by cases b) (dR g b.len) b (by have j:(([]:Y).length+rows.length)<=1048560:=ah;have l:t88.bytes+1<=33:=al;exact eT (kF j l) (by unfold b7;omega)) ab;rw [gH,a6] at f;refine ⟨d,H',a,⟨f,b,e.tidy,e.up H ab (U.refl _),.inr ⟨m,?_⟩⟩⟩;have h:hx G 88 2 (.slice 88) x H=some (rows.flatten,rows.length):=dR g b.len;unfold cI at a;simp only [MU,H5,show t88.size=2 from rfl,show t88.bytes=32 from rfl,h] at a;rw [if_pos al] at a
 cases rows with
 |nil=>grind
 | cons p r=>
   simp only [cl,b.ok,if_true,bu,dn,c8] at a;split at a
   . simp only [N,bz] at a;rw [<-a.1];exact λi=>by cases i
   grind
def Ui {ad n:Nat} {x:aa} {rows:Y} {H:af} (b:Z H) (h:F x rows) (j:Rows 2 rows) (i:rows.length<1048560):
    ∃v H',ei 88 2 H H' v x rows/\ ∀tm,az G (X G R ad (n+1)) 285 [x] H tm= .ok v tm H':=by
 refine bn.at (m:=7) rfl rfl rfl rfl rfl (by simp only [aO,h.aD];rfl) rfl rfl ?_;rcases h with ⟨rfl,rfl⟩|⟨a,rfl⟩
 . simp only [go_sem];refine bn.mk ?_;rw [ft ab];exact ⟨b,U.refl _,.inl ⟨rfl,rfl,rfl⟩⟩
 . have f:=OH rows a
   cases g:rows with
   | nil=>
     subst g;have c:cI G 48 48 (.A [] true) (.A [] a) H=some (.A [] true,H):=by cases a<;>kernel_rfl
     simp only [go_sem,f,c,bH];refine bn.mk ?_;rw [ft ab];exact ⟨b,U.refl _,.inl ⟨rfl,rfl,rfl⟩⟩
   | cons p o=>
     rw [<-g];obtain ⟨l,H',c,e⟩:=Of b (x:= .A rows a) (.inr ⟨a,rfl⟩) j i ah;simp only [go_sem,f,c,bH,e.O,e.nl,dX,if_true];refine bn.mk ?_;have:=e.gc b (U.refl _) (v:=l) (d:=19) id;exact ⟨this.tidy,this.up,ah⟩
def MT:aW G 50=some (.slice 3):=aq
def H4:G.T 3=some t3:=aq
@[go_sem] theorem acQ (H):cT G 50 0 [] H=some (.A [] true,H):=aq
def OG (rows c):b4 G .eql 50 (.A rows c) .V=some (.bool false):=aq
def Oe {H:af} {x:aa} {rows:Y} (o:Z H) (g:F x rows) (b:Rows 1 rows) (q:rows.length<1048560) (m:rows≠ []): ∃d H',cI G 50 50 (.A [] true) x H=some (d,H')/\P 3 1 H H' d rows:=by
 obtain ⟨d,H',a,f,e⟩:=bd.app (c:=0) (n0:=H.n) (H:=H) (rows:= []) (aQ:=rows) (v:= .A [] true) (x:=x) MT H4 rfl rfl al al (.inr (.inl rfl)) o ab (λp b=>by cases b) (dR g b.len) b (by have j:(([]:Y).length+rows.length)<=1048560:=ah;have l:t3.bytes+1<=33:=al;exact eT (kF j l) (by unfold b7;omega)) ab;rw [gH,a6] at f;refine ⟨d,H',a,⟨f,b,e.tidy,e.up H ab (U.refl _),.inr ⟨m,?_⟩⟩⟩;have h:hx G 3 1 (.slice 3) x H=some (rows.flatten,rows.length):=dR g b.len;unfold cI at a;simp only [MT,H4,show t3.size=1 from rfl,show t3.bytes=8 from rfl,h] at a;rw [if_pos al] at a
 cases rows with
 |nil=>grind
 | cons p r=>
   simp only [cl,b.ok,if_true,bu,dn,c8] at a;split at a
   . simp only [N,bz] at a;rw [<-a.1];exact λi=>by cases i
   grind
def Ug {ad n:Nat} {x:aa} {rows:Y} {H:af} (b:Z H) (h:F x rows) (j:Rows 1 rows) (i:rows.length<1048560):
    ∃v H',ei 3 1 H H' v x rows/\ ∀tm,az G (X G R ad (n+1)) 286 [x] H tm= .ok v tm H':=by
 refine bn.at (m:=7) rfl rfl rfl rfl rfl (by simp only [aO,h.aD];rfl) rfl rfl ?_;rcases h with ⟨rfl,rfl⟩|⟨a,rfl⟩
 . simp only [go_sem];refine bn.mk ?_;rw [ft ab];exact ⟨b,U.refl _,.inl ⟨rfl,rfl,rfl⟩⟩
 . have f:=OG rows a
   cases g:rows with
   | nil=>
     subst g;have c:cI G 50 50 (.A [] true) (.A [] a) H=some (.A [] true,H):=by cases a<;>kernel_rfl
     simp only [go_sem,f,c,bH];refine bn.mk ?_;rw [ft ab];exact ⟨b,U.refl _,.inl ⟨rfl,rfl,rfl⟩⟩
   | cons p o=>
     rw [<-g];obtain ⟨l,H',c,e⟩:=Oe b (x:= .A rows a) (.inr ⟨a,rfl⟩) j i ah;simp only [go_sem,f,c,bH,e.O,e.nl,dX,if_true];refine bn.mk ?_;have:=e.gc b (U.refl _) (v:=l) (d:=19) id;exact ⟨this.tidy,this.up,ah⟩
def EL {l:Y} (b: ∀r∈l,gd r):Rows 2 l:=λr c=>by
 obtain ⟨d,e,f,g,rfl,-⟩:=b r c;exact ⟨rfl,λv a=>by simp only [b2,dG,or_false] at a;rcases a with rfl|rfl<;>exact ⟨rfl,rfl⟩⟩
def Zs {l:Y} (a: ∀r∈l,∃i,r= [.int .i64 i]):Rows 1 l:=λr b=>by
 obtain ⟨d,rfl⟩:=a r b;exact ⟨rfl,λv c=>by rw [bs.1 c];exact ⟨rfl,rfl⟩⟩
def Uh {ad n:Nat} {l m ls ms:Nat} {a p s:aa} {i j:Int} {q r rs:Y} {H:af} (o:Z H) (t:F a q) (z:F p r) (A:F s rs) (M:Rows 1 q) (N:Rows 2 r) (P:Rows 1 rs) (Q:q.length<1048560) (S:r.length<1048560) (T:rs.length<1048560):
    ∃w H',(∃b c s',w= .agg [.str l m,b,.str ls ms,c,.int .i64 i,.int .i64 j,s']/\ei 9 1 H H' b a q/\ei 88 2 H H' c p r/\ei 3 1 H H' s' s rs/\cc b c/\cc b s'/\cc c s')/\ ∀tm,az G (X G R ad (n+1+1)) 224 [.agg [.str l m,a,.str ls ms,p,.int .i64 i,.int .i64 j,s]] H tm= .ok w tm H':=by
 obtain ⟨b,al,e,I⟩:=I5 (ad:=ad) (n:=n) o t M Q;obtain ⟨c,an,f,K⟩:=Ui (ad:=ad) (n:=n) e.tidy z N S;obtain ⟨s',ao,d,L⟩:=Ug (ad:=ad) (n:=n) f.tidy A P T;obtain ⟨V,W,ab,ar⟩:=e.facts;obtain ⟨ae,ag,ah,au⟩:=f.facts;obtain ⟨ai,aj,ak,av⟩:=d.facts;refine bn.at (m:=15) rfl rfl rfl rfl rfl rfl rfl rfl ?_;simp only [go_sem,t.O,t.J,z.O,z.J,A.O,A.J,I,K,L,V,W,ab,ae,ag,ah,ai,aj,ak];have u: ∀ {g},(g=b\/g=c\/g=s')->y H.n 20 (.agg [.str l m,b,.str ls ms,c,.int .i64 i,.int .i64 j,s'])=true->y H.n (18+1) g=true:=λ{g} aq C=>by
  have C: [.str l m,b,.str ls ms,c,.int .i64 i,.int .i64 j,s'].all (y H.n 19)=true:=C
  grind
 have D:=e.up;have B:=f.up;have E:=d.up;refine bn.mk ⟨b,c,s',rfl,(e.at d.tidy (B.trans E)).gc o (U.refl _) (u (.inl rfl)),(f.at d.tidy E).gc o D (u (.inr (.inl rfl))),d.gc o (D.trans B) (u (.inr (.inr rfl))),λid x h=> ?_,λid x h=> ?_,λid x h=> ?_⟩
 . have:=(e.ge x).2;have:=(f.ge h).1;omega
 . have:=(e.ge x).2;have:=(d.ge h).1;have:=B.n;omega
 . have:=(f.ge x).2;have:=(d.ge h).1;omega
theorem od {α:Type} {l:List α} {j:Nat} {x:α} (a:l[j]? =some x):l.take (j+1)=l.take j++ [x]:=by rw [fg,a];rfl
def Jp (N:Nat) (hN:N<900000):bo λad n=> ∀x rows H fv,b8 rows->rows.length<=N->Z H->cG H 1 x rows->ec 9 H fv->
    ∃v H',P 9 1 H H' v rows/\ ∀tm,az G (X G R ad n) 222 [x,fv] H tm= .ok v tm H':=by
 refine ⟨N+20,λad n Y af x rows H fv p ae l e j=> ?_⟩;obtain ⟨n,rfl⟩:=bY n;refine bn.at (m:=20) rfl rfl rfl rfl rfl (by simp only [aO,e.aD,j.nl];rfl) rfl rfl ?_;simp only [go_sem,e.O,e.len];generalize T:a1 _ _ _ _ _ _ _ _ _ _=u;revert u;have hF:=trivial;refine cv [1,8] (λc=> [(5,c.1)]) (λc=>c.2) (λr c=>P 9 1 H c.2 c.1 (rows.take r)) rows.length (.V,H) (P.new _ _ l) ?_ ?_
 . rintro r ⟨v,o⟩ tm B a hF;simp only at a hF|-;obtain ⟨Q,k⟩:=bA B;have C:=aV k;obtain ⟨ah,D,F,ag,I⟩:=(e.up l.1 a.up).at p.len k;obtain ⟨f,g,rfl,M,z⟩:=p Q C;have J:=I _ rfl;have y:=j.call ad n ab ab o a.up a.tidy f g;have q:Rows 1 [[aa.str f g]]:=λai K=>by rw [bs.1 K];exact ⟨rfl,λv L=>by rw [bs.1 L];exact ⟨rfl,rfl⟩⟩
   obtain ⟨S,s,w,h,W⟩:=a.app (E:=G) (t:=22) (b:=16) (i:=t9) Fe B3 rfl rfl al al (x:= .A [[.str f g]] true) (aQ:= [[.str f g]]) (dR (.inr ⟨_,rfl⟩) q.len) q (by rw [h6];show _+1<_;omega);rw [<-od k] at h;simp only [go_sem,hF,e.O,D,F,J,j.op,a.O,y _ M z,bH,w,h.O];exact au.next (S,s) rfl h ay
 . rintro ⟨v,o⟩ tm a hF;simp only at a hF;rw [bX] at a;simp only [go_sem,hF,a.O,a.nl,dX,if_true];exact bn.mk (a.gc l (U.refl _) (d:=19) id)
@[go_sem] theorem ZP (f):f_ (some (.fn (.func f) [] [])) (some (.fn (.func f) [] []))=true:=by simp [f_,cN,eu]
@[go_sem] theorem LV (f a b c d):f_ (some (.fn (.func f) [] [.ptr a b c d])) (some (.fn (.func f) [] [.ptr a b c d]))=true:=by simp [f_,cN,eu]
def Yw {a H:af} {v w e p s' s:aa} {rows o h rs:Y} {l m ls ms:Nat} {i j:Int} (g:P 52 7 a H v rows) (y:P 9 1 a H w o) (B:ei 88 2 a H e p h) (C:ei 3 1 a H s' s rs)
    (M:cc v w) (d2:cc v e) (N:cc v s') (O:cc w e) (Q:cc w s') (R:cc e s') (V:F p h) (W:F s rs):
    ∃H',cT G 24 1 [(0,.agg [.str l m,w,.str ls ms,e,.int .i64 i,.int .i64 j,s'])] H=some (.A [[.str l m,dk o,.str ls ms,gB p h,.int .i64 i,.int .i64 j,gB s rs]] true,H')/\P 52 7 a H' v rows:=by
 obtain ⟨ao,S,q,r,n⟩:=y.aZ 49 al al;have u:=g.bS q (r a ab g.up) λid d c b=>n id d c (M id b);have Z:=B.bS q (r a ab g.up) λid d c b=>n id d c (λf=>O id f b);have ag:=C.bS q (r a ab g.up) λid d c b=>n id d c (λf=>Q id f b);obtain ⟨ar,f,I,K,D⟩:=Z.aZ 49 al al V;have L:=u.bS I (K a ab u.up) λid d c b=>D id d c (d2 id b);have ah:=ag.bS I (K a ab u.up) λid d c b=>D id d c (λf=>R id f b);obtain ⟨x,T,aj,ak,X⟩:=ah.aZ 49 al al W;have an:=L.bS aj (ak a ab L.up) λid d c b=>X id d c (N id b);refine ⟨x,?_,an⟩;have ok: ∀v∈ [aa.agg [.str l m,w,.str ls ms,e,.int .i64 i,.int .i64 j,s']],v.cells.length=7/\v.cells.all J=true:=λv g=>by rw [bs.1 g];refine ⟨rfl,?_⟩;show [aa.str l m,w,.str ls ms,e,.int .i64 i,.int .i64 j,s'].all J=true;simp only [aO,jm,y.ok,B.facts.2.1,C.facts.2.1];rfl
 have U:cD (aZ bR) ([aa.agg [.str l m,w,.str ls ms,e,.int .i64 i,.int .i64 j,s']].flatMap aa.cells) H=some ([.str l m,dk o,.str ls ms,gB p h,.int .i64 i,.int .i64 j,gB s rs],x):=by show cD (aZ (49+1)) [.str l m,w,.str ls ms,e,.int .i64 i,.int .i64 j,s'] H=_;have ad: ∀l m H,aZ (49+1) (.str l m) H=some (.str l m,H):=λ_ _ _=>rfl;have ae: ∀i H,aZ (49+1) (.int .i64 i) H=some (.int .i64 i,H):=λ_ _=>rfl;simp only [cD,ad,ae,S,f,T]
 exact A5 (E:=G) (t:=24) (el:=52) (k:=7) (z:= .agg Aq) aq aq aq al rfl [.agg [.str l m,w,.str ls ms,e,.int .i64 i,.int .i64 j,s']] ok ai U
def ct:List aa->List aa
 | [g,c,h,a,d,e,b]=> [g,dk (f c),h,gB a (f a),d,e,gB b (f b)]
 |r=>r
def nk (r:List aa):Prop:= ∀c e a d f b,fB r c e a d f b->a.length<800000/\b.length<800000
def Jw (rows:Y) (cx: ∀r∈rows,c6 r) (cy: ∀r∈rows,nk r) (dj:rows.length<800000):bo λad n=> ∀x H aG ar aB aj bc aC ak bd aF ao bf,Z H->F x rows->ec 9 H aG->ec 9 H ar->f_ (some aG) (some aG)=true->f_ (some ar) (some ar)=true->
    H.get aB=some (.cells aj bc 0 [aG])->bc<=aj->H.get aC=some (.cells ak bd 0 [.fn (.func 222) [] []])->bd<=ak->H.get aF=some (.cells ao bf 0 [ar])->bf<=ao->
    ∃v H',P 52 7 H H' v (rows.map ct)/\ ∀tm,az G (X G R ad n) 223 [x,.ptr aB aj 0 1,.ptr aC ak 0 1,.ptr aF ao 0 1] H tm= .ok v tm H':=by
 obtain ⟨bR,cm⟩:=Jp 800000 al;refine ⟨bR+1048580,λad n dh dn x H aG ar aB aj bc aC ak bd aF ao bf aw aK bQ aL dw cM cK cD cL cE bW bV=> ?_⟩;obtain ⟨n,rfl⟩: ∃cG,n=cG+1+1+1:=⟨n-3,ab⟩;refine bn.at (m:=58) rfl rfl rfl rfl rfl (by simp only [aO,aK.aD];rfl) rfl rfl ?_;simp only [go_sem,aK.O,aK.len];generalize cn:a1 _ _ _ _ _ _ _ _ _ _=bb;revert bb;have hF:=trivial;refine cv [1,2,3,11] (λc=> [(6,c.1)]) (λc=>c.2) (λQ c=>P 52 7 H c.2 c.1 ((rows.map ct).take Q)) rows.length (.V,H) (P.new _ _ aw) ?_ ?_
 . rintro Q ⟨v,bC⟩ tm dg a hF;simp only at a hF|-;obtain ⟨r,br⟩: ∃r,rows[Q]? =some r:=de;have bN:=aV br;obtain ⟨o,q,S,p,s,aS,D⟩:=cx r bN;obtain ⟨du,dv⟩:=cy r bN _ _ _ _ _ _ D;obtain ⟨bD,I,c,u,w,rfl,bq,aJ,g,aH,dt,bt⟩:=D.eq;have bj:=a.up.get aw.1 cK;have bk:=a.up.get aw.1 cL;have aW:=a.up.get aw.1 bW;refine au.kp [13,12,1,2,3,11] (λaA tm H'=>bC=H'/\ ∃aR,M tm 6=v/\M tm 8= .W aR [.str o q,bD,.str p s,I,.int .i64 u,.int .i64 w,c]/\aA tm) ?_ ?_
   . simp only [go_sem,hF,aK.O,aK.a_ (k:=7) br rfl,bq.J,aH.J,aJ.J];exact an.mk ⟨rfl,_,by simp only [go_sem,hF];trivial⟩
   clear hF;rintro tm _ ⟨rfl,aR,hF⟩;obtain ⟨_,a8,⟨bE,y,T,rfl,h,B,L,c7,c8,bI⟩,b9⟩:=Uh (ad:=ad) (n:=n) (l:=o) (m:=q) (ls:=p) (ms:=s) (i:=u) (j:=w) a.tidy bq aH aJ D.hS.rows (EL bt) (Zs D.rs) ab ab ab;obtain ⟨cd,cf,c9,da⟩:=h.facts;obtain ⟨cg,ch,dc,dd⟩:=B.facts;obtain ⟨dx,cN,dy,dz⟩:=L.facts;refine au.kp [13,12,1,2,3,6,11] (λaA tm H'=>a8=H'/\M tm 8= .W aR [.str o q,bE,.str p s,y,.int .i64 u,.int .i64 w,T]/\aA tm) ?_ ?_
   . simp only [go_sem,hF,b9,cf,ch,cN];exact an.mk ⟨rfl,ay⟩
   clear hF;rintro tm _ ⟨rfl,hF⟩;have bj:=h.up.get a.tidy.1 bj;have bk:=h.up.get a.tidy.1 bk;have aW:=h.up.get a.tidy.1 aW;have aY:=a.up.trans h.up;obtain ⟨ae,ba,e,cb⟩:=cm ad (n+1+1) ab ab bE S a8 ar D.hS ab h.tidy h.cw (aL.up aY);have b4:=λtm=>bQ.call ad (n+1+1) ab ab a8 aY h.tidy o q tm D.c5 D.s1;have bh:=λtm=>aL.call ad (n+1+1) ab ab ba (aY.trans e.up) e.tidy p s tm D.pw D.s2;have cj:=e.up.get h.tidy.1 aW;refine au.bM (λtm H'=>ba=H'/\aM 62 [(13,.int .i64 (Q:Nat)),(12,.int .i64 (rows.length:Nat)),(1,.ptr aB aj 0 1),(2,.ptr aC ak 0 1),(3,.ptr aF ao 0 1),(6,v),(11,x),(8,.W aR [.str o q,ae,.str p s,y,.int .i64 u,.int .i64 w,T])] tm) ?_ ?_
   . simp only [go_sem,hF,cd,bj,bk,aW,cj,cD,cE,bV,bQ.op,aL.op,b4,cb,bh,e.O,e.ok,e.cs,cM];exact an.mk ⟨rfl,ay⟩
   clear hF;rintro tm _ ⟨rfl,hF⟩;have dA:=h.up.n;have bJ:cc v y:=λid x K=>by have:=a.W.lt x;have:=(B.ge K).1;omega
   have b0:cc v T:=λid x K=>by have:=a.W.lt x;have:=(L.ge K).1;omega
   have b1:cc v ae:=λid x K=>by have:=a.W.lt x;have:=e.W.ge K;omega
   have bK:cc ae y:=λid x K=>by have:=e.W.ge x;have:=(B.ge K).2;omega
   have b3:cc ae T:=λid x K=>by have:=e.W.ge x;have:=(L.ge K).2;omega
   have bg:=a.at e.tidy (h.up.trans e.up);have B:=(B.at e.tidy e.up).mono a.up;have L:=(L.at e.tidy e.up).mono a.up;have bG:=e.mono aY;refine au.bF hF (λaA tm H'=>(P 52 7 H H' v ((rows.map ct).take Q)/\P 9 1 H H' ae S/\ei 88 2 H H' y I g/\ei 3 1 H H' T c aS)/\aA tm) ?_ ?_
   . have cq:=B.cw.len;simp only [go_sem,hF,cg,cq];generalize cn:a1 _ _ _ _ _ _ _ _ _ _=bb;revert bb;refine cv [13,12,1,2,3,6,11,8,36] (λ_=> []) (λc=>c) (λdp H'=>P 52 7 H H' v ((rows.map ct).take Q)/\P 9 1 H H' ae S/\ei 88 2 H H' y I g/\ei 3 1 H H' T c aS) g.length ba ah ?_ ?_
     . clear hF;rintro ax ai tm cp ⟨aN,bU,a6,bT⟩ hF;obtain ⟨a7,aX⟩: ∃a7,g[ax]? =some a7:=ah;have cu:=aV aX;obtain ⟨cH,bP,cB,cC,-⟩:=a6.cw.at (EL bt).len aX;obtain ⟨bu,bw,af,ag,rfl,-,cP,-,cF⟩:=bt a7 cu;have bl:P 88 2 H ai y g:=by
        rcases a6.alt with ⟨C,-⟩|⟨-,-,C⟩
        all_goals grind
       obtain ⟨cI,cJ,aU,dB,cQ,dC,cR,cS,cT,cU,z,bx⟩:=bl.pn aX 1 [.str af ag] (aT 2) (λv aZ=>by rw [bs.1 aZ];exact ⟨rfl,rfl⟩);have b5:cI=cH:=ah;subst b5;have cz:g.set ax (putAt 1 [aa.str af ag] [aa.str bu bw,aa.str af ag])=g:=by show g.set ax [aa.str bu bw,aa.str af ag]=g;have dm:ax<g.length:=cp;have:=e6.1 aX;obtain ⟨_,N⟩:=this;rw [<-N,List.set_getElem_self]
       rw [cz] at z;have cV: ∀tm,hf 1 cJ [.str af ag] tm ai= .ok (.av []) tm aU:=cU;have bR:=aN.bS z.tidy z.up λid aP C N=>bx.other id aP C (bJ id N);have dq:=bU.bS z.tidy z.up λid aP C N=>bx.other id aP C (bK id N);have dr:=bT.bS z.tidy z.up λid aP C N=>bx.other id aP C (λb6=>bI id b6 N);have ds:ei 88 2 H aU y I g:=⟨z.tidy,z.up,.inr ⟨λN=>by
        rcases a6.alt with ⟨C,-⟩|⟨C,-⟩
        all_goals grind,ah,z⟩⟩
       have bL:=bl.O;have db:=bl.ok;have ck:=aN.up.get aw.1 bW;have bh:=λtm=>aL.call ad (n+1+1) ab ab ai aN.up aN.tidy af ag tm cP cF;refine au.bM (λtm H'=>ai=H'/\ ∃bY,aM 62 [(38,.int .i64 (ax:Nat)),(37,.int .i64 (g.length:Nat)),(13,.int .i64 (Q:Nat)),(12,.int .i64 (rows.length:Nat)),(1,.ptr aB aj 0 1),(2,.ptr aC ak 0 1),(3,.ptr aF ao 0 1),(6,v),(11,x),(8,.W aR [.str o q,ae,.str p s,y,.int .i64 u,.int .i64 w,T]),(36,y),(9,.int .i64 (ax:Nat)),(10,.W bY [.str bu bw,.str af ag])] tm) ?_ ?_
       . simp only [go_sem,hF,bL,bP,cB,cC];exact an.mk ⟨rfl,_,by simp only [go_sem,hF];trivial⟩
       clear hF;rintro tm _ ⟨rfl,bY,hF⟩;simp only [go_sem,hF];refine au.aE ?_ ?_<;>intro cl<;>simp only [go_sem,hF,cl,bL,ck,bV,aL.op,bh,bP,cQ,cR,cS,cT,cV]
       . exact au.next ai rfl ah ay
       . exact au.next aU rfl ah ay
     . rintro ai tm ⟨aN,bU,a6,bT⟩ hF;simp only [go_sem];exact an.mk ah
   clear hF;rintro tm cW ⟨⟨bg,bG,B,L⟩,hF⟩;obtain ⟨aU,b8,cA⟩:=Yw (l:=o) (m:=q) (ls:=p) (ms:=s) (i:=u) (j:=w) bg bG B L b1 bJ b0 bK b3 bI aH aJ;have bO:Rows 7 [[aa.str o q,dk S,.str p s,gB I g,.int .i64 u,.int .i64 w,gB c aS]]:=λa7 cr=>by
    rw [bs.1 cr];refine ⟨rfl,λv aZ=> ?_⟩;have bz:=fW S;have bA:=xH aH;have bB:=xH aJ;simp only [b2,dG,or_false] at aZ;rcases aZ with rfl|rfl|rfl|rfl|rfl|rfl|rfl
    . exact ⟨rfl,rfl⟩
    . exact ⟨bz.J,bz.aI _⟩
    . exact ⟨rfl,rfl⟩
    . exact ⟨bA.J,bA.aI _⟩
    . exact ⟨rfl,rfl⟩
    . exact ⟨rfl,rfl⟩
    . exact ⟨bB.J,bB.aI _⟩
   obtain ⟨cO,bZ,b7,bp,df⟩:=cA.app (E:=G) (t:=24) (b:=120) (i:=t52) aq aq rfl rfl al al (x:= .A [[.str o q,dk S,.str p s,gB I g,.int .i64 u,.int .i64 w,gB c aS]] true) (aQ:= [_]) (dR (.inr ⟨_,rfl⟩) bO.len) bO ah;have ca:(rows.map ct)[Q]? =some [aa.str o q,dk S,.str p s,gB I g,.int .i64 u,.int .i64 w,gB c aS]:=by rw [hO,br];show some [aa.str o q,dk (f bD),.str p s,gB I (f I),.int .i64 u,.int .i64 w,gB c (f c)]=_;rw [bm bq,bm aH,bm aJ]
   rw [<-od ca] at bp;obtain ⟨cX,cY,cZ,c0⟩:=B.facts;obtain ⟨c1,c2,c3,c4⟩:=L.facts;simp only [go_sem,hF,bg.O,b8,bH,b7,bp.O];exact au.next (cO,bZ) rfl bp ay
 . rintro ⟨v,bC⟩ tm a hF;simp only at a hF;rw [show (rows.map ct).take rows.length=rows.map ct by rw [<-di ct,bX]] at a;simp only [go_sem,hF,a.O,a.nl,dX,if_true];exact bn.mk (a.gc aw (U.refl _) (d:=19) id)
def U0 {s:List aa} {aW aw rop aK aX:Y} (T:oz s aW aw rop aK aX) (cw:aW.length+aw.length+rop.length+aK.length+aX.length<800000) (b9: ∀r∈rop,nk r) (b6: ∀r∈aK,nk r):
    bo λad n=> ∀H K p,Z H->ec 9 H K->ec 9 H p->f_ (some K) (some K)=true->f_ (some p) (some p)=true->
    ∃ w H',(∃z B C D F,w= .agg [z,B,C,D,F]/\P 9 1 H H' z aW/\P 166 2 H H' B aw/\P 52 7 H H' C (rop.map ct)/\P 52 7 H H' D (aK.map ct)/\P 9 1 H H' F aX/\ [z,B,C,D,F].Pairwise cc)/\
      ∀tm,az G (X G R ad n) 148 [.agg s,p,K] H tm= .ok w tm H':=by
 obtain ⟨bg,aR⟩:=Jp 800000 al;obtain ⟨bh,a6⟩:=Jw rop T.op b9 ab;obtain ⟨cd,b3⟩:=Jw aK T.cP b6 ab;obtain ⟨bC,bQ,bB,br,bE,rfl,bd,aJ,bc,bb,bf⟩:=T.eq;refine ⟨bg+bh+cd+1048580,λad n cy b8 H K p ar ae h bq aP=> ?_⟩;obtain ⟨n,rfl⟩:=bY n;refine bn.at (m:=52) rfl rfl rfl rfl rfl (by simp only [aO,ae.nl,h.nl];rfl) rfl rfl ?_;have bt: ∀ {H:af} {aL:aa},Z H->y H.n 20 aL=true->Z (H.push (.cells (q 130) (q 130) 0 [aL])):=λaE cb=>aE.push (by show [_].all _=true;simp only [aO,jm,kz (mN _) 20 _ cb];rfl);have aI:=bt ar h.ids;have aS:U H (H.push (.cells (q 130) (q 130) 0 [p])):=(U.refl H).push _;have a:=bt aI (kz aS.n 20 _ ae.ids);have ca:=aS.trans ((U.refl _).push (.cells (q 130) (q 130) 0 [K]));refine bn.bM (λtm Q=>(Z Q/\U H Q/\Q.get (H.n+1)=some (.cells (q 130) (q 130) 0 [K])/\Q.get H.n=some (.cells (q 130) (q 130) 0 [p]))/\aM 55 [(3,.W 0 [bC,bQ,bB,br,bE]),(4,.ptr H.n (q 130) 0 1),(5,.ptr (H.n+1) (q 130) 0 1),(6,.W 0 [.V,.V,.V,.V,.V]),(9,.av []),(11,.av [])] tm) ?_ ?_
 . simp only [go_sem,bd.J,aJ.J,bc.J,bb.J,bf.J,h.op,ae.op,h.ok,ae.ok,h.cs,ae.cs];exact an.mk ⟨⟨a,ca,vo _ _ _,yg _ _ _⟩,dC⟩
 rintro tm Q ⟨⟨aI,aS,aU,o⟩,hF⟩;have bx:Z (Q.push (.cells (q 254) (q 254) 0 [.fn (.func 222) [] []])):=aI.push rfl;have ao:=(U.refl Q).push (.cells (q 254) (q 254) 0 [.fn (.func 222) [] []]);refine bn.bF hF (λS tm ah=> ∃aA ak aY,(Z ah/\U Q ah/\ah.get aA=some (.cells ak aY 0 [.fn (.func 222) [] []])/\aY<=ak)/\aM 55 [(7,.ptr aA ak 0 1)] tm/\S tm) ?_ ?_
 . simp only [go_sem,hF];exact an.mk ⟨_,_,_,⟨bx,ao,dL _ _,aT _⟩,ay⟩
 clear hF ao bx;rintro tm ah ⟨aA,ak,aY,⟨a,ao,ag,bj⟩,hF⟩;refine bn.kp [3,4,6,11,9] (λS tm H'=>ah=H'/\M tm 7= .ptr aA ak 0 1/\M tm 8= .fn (.func 223) [] [.ptr (H.n+1) (q 130) 0 1,.ptr aA ak 0 1,.ptr H.n (q 130) 0 1]/\S tm) ?_ ?_
 . simp only [go_sem,hF];exact an.mk ⟨rfl,ay⟩
 clear hF;rintro tm _ ⟨rfl,hF⟩;have u:=aS.trans ao;have aU:=ao.get aI.1 aU;have o:=ao.get aI.1 o;obtain ⟨z,bG,d,aZ⟩:=aR ad n ab ab bC aW ah p T.so ab a (.inl bd) (h.up u);obtain ⟨F,bI,j,b0⟩:=aR ad n ab ab bE aX bG p T.bJ ab d.tidy (.inl bf) (h.up (u.trans d.up));have L:=d.up.trans j.up;obtain ⟨C,bK,g,bW⟩:=a6 ad n ab ab bB bI K p _ _ _ _ _ _ _ _ _ j.tidy bc (ae.up (u.trans L)) (h.up (u.trans L)) bq aP (L.get a.1 aU) (aT _) (L.get a.1 ag) bj (L.get a.1 o) (aT _);have N:=L.trans g.up;obtain ⟨D,aN,f,bZ⟩:=b3 ad n ab ab br bK K p _ _ _ _ _ _ _ _ _ g.tidy bb (ae.up (u.trans N)) (h.up (u.trans N)) bq aP (N.get a.1 aU) (aT _) (N.get a.1 ag) bj (N.get a.1 o) (aT _);have aH:=N.trans f.up;refine bn.kp [3,4,6,11] (λS tm H'=>aN=H'/\M tm 9= .W 0 [z,.V,C,D,F]/\S tm) ?_ ?_
 . have bk:=ag;have bl:=d.up.get a.1 ag;have cE:=L.get a.1 ag;have cF:=N.get a.1 ag;have cG:=aH.get a.1 ag;have cj:=o;have ck:=d.up.get a.1 o;have cH:=L.get a.1 o;have cI:=N.get a.1 o;have cJ:=aH.get a.1 o;simp only [go_sem,hF,bd.O,bc.O,bb.O,bf.O,bk,bl,cj,ck,bj,aT,h.op,aZ,b0,bW,bZ,aP,d.O,d.ok,d.cs,g.O,g.ok,g.cs,f.O,f.ok,f.cs,j.O,j.ok,j.cs];exact an.mk ⟨rfl,ay⟩
 clear hF;rintro tm _ ⟨rfl,hF⟩;have o:=aH.get a.1 o;have a8:=u.trans aH;have b5:=EL T.be;refine bn.kp [3,4,6] (λS tm H'=> ∃B,P 166 2 aN H' B aw/\M tm 9= .W 0 [z,B,C,D,F]/\S tm) ?_ ?_
 . simp only [go_sem,hF,aJ.O,aJ.len];generalize cx:a1 _ _ _ _ _ _ _ _ _ _=bP;revert bP;refine cv [3,4,6,33] (λs=> [(9,.W 0 [z,s.1,C,D,F])]) (λs=>s.2) (λbz s=>P 166 2 aN s.2 s.1 (aw.take bz)) aw.length (.V,aN) (P.new _ _ f.tidy) ?_ ?_
   . rintro bz ⟨aL,aj⟩ tm b7 l hF;simp only at l hF|-;obtain ⟨r,a7⟩:=bA b7;have bu:=aV a7;obtain ⟨ax,aB,aC,aD,rfl,cm,cn,cf,cg⟩:=T.be r bu;have ch:=l.up.get f.tidy.1 o;have bR:=λtm=>h.call ad n ab ab aj (a8.trans l.up) l.tidy ax aB tm cm cf;have bS:=λtm=>h.call ad n ab ab aj (a8.trans l.up) l.tidy aC aD tm cn cg;have bw:Rows 2 [[aa.str ax aB,.str aC aD]]:=λv c=>b5 v (by rw [bs.1 c];exact bu);obtain ⟨cl,bL,b1,aF,-⟩:=l.app (E:=G) (t:=23) (b:=32) (i:=t166) aq aq rfl rfl al al (x:= .A [[.str ax aB,.str aC aD]] true) (aQ:= [_]) (dR (.inr ⟨_,rfl⟩) bw.len) bw (by rw [h6];show _+1<_;omega);rw [<-od a7] at aF;have b4:cT G 23 1 [(0,.agg [.str ax aB,.str aC aD])] aj=some (.A [[.str ax aB,.str aC aD]] true,aj):=aq;simp only [go_sem,hF,aJ.O,aJ.a_ (k:=2) a7 rfl,ch,aT,h.op,bR,bS,aP,b4,bH,l.O,b1,aF.O,aF.ok,aF.cs];exact au.next (cl,bL) rfl aF ay
   . rintro ⟨aL,aj⟩ tm l hF;simp only at l hF;rw [bX] at l;simp only [go_sem];exact an.mk ⟨aL,l,ay⟩
 clear hF;rintro tm aj ⟨B,e,hF⟩;simp only [go_sem,hF,d.ok,e.ok,g.ok,f.ok,j.ok];have aG: ∀ {v},v∈ [z,B,C,D,F]->y H.n 20 (.agg [z,B,C,D,F])=true->y H.n (18+1) v=true:=λ{v} c aE=>by have aE: [z,B,C,D,F].all (y H.n 19)=true:=aE;exact ba.1 aE v c
 have cp:=(d.at (aH.trans e.up|>λ_=>e.tidy) ((j.up.trans g.up).trans (f.up.trans e.up)));have cu:=j.at e.tidy (g.up.trans (f.up.trans e.up));have cq:=g.at e.tidy (f.up.trans e.up);have cr:=f.at e.tidy e.up;refine bn.mk ⟨z,B,C,D,F,rfl,cp.gc ar u (aG ai),e.gc ar a8 (aG ai),cq.gc ar (u.trans L) (aG ai),cr.gc ar (u.trans N) (aG ai),cu.gc ar (u.trans d.up) (aG ai),?_⟩;have cz:=d.up.n;have cD:=j.up.n;have cB:=g.up.n;have cC:=f.up.n;have cA:=e.up.n;have I: ∀ {aZ bg bV bh bN bm bp bO:_} {bD w:aa} {bk bl},P aZ bg bN bm bD bk->P bV bh bp bO w bl->bm.n<=bp.n->cc bD w:=λaR a6 b8 id bT bU=>by have:=aR.W.lt bT;have:=a6.W.ge bU;omega
 refine hq.2 ⟨λv c=> ?_,hq.2 ⟨λv c=> ?_,hq.2 ⟨λv c=> ?_,hq.2 ⟨λv c=> ?_,hq.2 ⟨λv c=> ?_,List.Pairwise.nil⟩⟩⟩⟩⟩
 . simp only [b2,dG,or_false] at c;rcases c with rfl|rfl|rfl|rfl
   . exact I d e ab
   . exact I d g ab
   . exact I d f ab
   . exact I d j ab
 . simp only [b2,dG,or_false] at c;rcases c with rfl|rfl|rfl
   . exact (I g e ab).symm
   . exact (I f e ab).symm
   . exact (I j e ab).symm
 . simp only [b2,dG,or_false] at c;rcases c with rfl|rfl
   . exact I g f ab
   . exact (I j g ab).symm
 . simp only [b2,dG,or_false] at c;subst c;exact (I j f ab).symm
 . cases c
def P.pM {g k h l:Nat} {c a b d:af} {u w:aa} {m o:Y} (i:P g k c a u m) (j:P h l b d w o) (p:a.n<=b.n):cc u w:=λid e f=>by have:=i.W.lt e;have:=j.W.ge f;omega
def IK {n d:Nat} {l:List aa} (a:y n (d+1) (.agg l)=true) {q:aa} (b:q∈l):y n d q=true:=ba.1 (show l.all (y n d)=true from a) q b
def D9 (l:Y):l.length<=(l.map ju).sum:=by
 induction l with
 |nil=>simp
 | cons a l b=>
   have:1<=ju a:=by unfold ju;omega
   simp only [fS,kE,cl];omega
structure FF (mc H:af) (w:aa) (kN jv rop j3 m4:Y) (ne W_:Nat):Prop where
  eq: ∃n v1 v2 v3 v4 v5 uE o k m sr st uG K6 K7,w= .agg [n,v1,v2,v3,v4,v5,uE,o,k,m,sr,st,uG]/\kW n/\kW k/\kW st/\kW uG/\P 9 1 mc H v1 kN/\P 166 2 mc H v2 jv/\P 52 7 mc H v3 (rop.map ct)/\P 52 7 mc H v4 (j3.map ct)/\P 9 1 mc H v5 m4/\
    P 81 15 mc H uE K6/\xi 10 o/\xi 10 m/\P 64 7 mc H sr K7/\K6.length=ne/\K7.length=W_/\ [v1,v2,v3,v4,v5,uE,sr].Pairwise cc
def Vf {d s:List aa} {cG cF rop ca cH req p bR u:Y} (C:fz d s cG cF rop ca cH req p bR u) (dB:cG.length+cF.length+rop.length+ca.length+cH.length<800000) (dK: ∀r∈rop,nk r) (dJ: ∀r∈ca,nk r)
    {N:Nat} (hT:bL (eE req p bR u) N) (hN:N<50000):bo λad n=> ∀H fv,Z H->ec 1 H fv->f_ (some fv) (some fv)=true->
    ∃w H',FF H H' w cG cF rop ca cH req.length u.length/\ ∀tm,az G (X G R ad n) 74 [.agg d,fv] H tm= .ok w tm H':=by
 obtain ⟨cy,aY⟩:=U0 C.bT dB dK dJ;have cl: ∀ {da:Y} {cI:Nat},cI<100000->bL da cI->bo λad n=> ∀r∈da,l9 r ad n:=λeQ aN=>dE λr a8=>Jn (aN.g_ a8).1 (by have:=(aN.g_ a8).2;omega);have cN: ∀ {cz:Y},(∀r∈cz,r∈p++bR)->bo λad n=> ∀r∈cz,l9 (dQ r) ad n:=λ{cz} cO=>by obtain ⟨eu,aN⟩:=cl ab hT.left.right;exact ⟨eu,λad n aE aF r a8=>aN ad n aE aF (dQ r) (cd.2 ⟨r,cO r a8,rfl⟩)⟩
 have eB:p.length<1048560:=by have:=C.iN;omega
 have eA:bR.length<1048560:=by have:=C.iN;omega
 have fc:req.length<1048556:=by have:=C.iN;omega
 have fe:u.length<1048556:=by have aY:=C.iN;have:=D9 u;omega
 obtain ⟨ev,bj⟩:=Jm p C.b9 eB (cN λr a8=>hP _ a8);obtain ⟨ew,dy⟩:=Jm bR C.hm eA (cN λr a8=>h7 _ a8);obtain ⟨ey,dz⟩:=dE (l:=req) (Q:=λe ad n=>l9 (e.take 6) ad n/\l9 ((e.drop 6).take 6) ad n/\ ∀cb H bf,Z H->F cb (f (M e 12))->ec 9 H bf-> ∃g,oB (λ_=>True) g/\ ∀tm,az G (X G R ad n) 151 [bf,cb] H tm= .ok g tm H) λe b5=>by have j:bL (eo e) N:=hT.left.left.flat (cd.2 ⟨e,b5,rfl⟩);obtain ⟨cg,b3⟩:=cl ab j;have ck:bL (f (M e 12)) N:=j.right;have:=ck.len;obtain ⟨dr,cj⟩:=y_ (f (M e 12)) ck.wt ab (cl ab ck);exact ⟨cg+dr,λad n fm fo=>⟨b3 ad n ab ab _ (by simp [eo]),b3 ad n ab ab _ (by simp [eo]),λcb H bf=>cj ad n ab ab cb H bf⟩⟩
 obtain ⟨ez,dA⟩:=dE (l:=u) (Q:=λe ad n=> ∀H bf,Z H->ec 9 H bf-> ∃aW,(aW.length=7/\ ∀g∈aW,J g=true/\D 20 g=true)/\ ∀tm,az G (X G R ad n) 152 [bf,.agg e] H tm= .ok (.agg aW) tm H) λe b5=>
  Vi (C.bh e b5) (hT.right.flat (cd.2 ⟨e,b5,rfl⟩)) hN
 obtain ⟨fj,cK,cB,eX,cA,r,fs,fw,rfl,⟨S,ag,rfl,dk,c2⟩,bI,cx,⟨L,af,rfl,dj,c1⟩,cw,bO,⟨T,ah,rfl,dm,c3⟩,⟨ae,aj,rfl,dn,c4⟩⟩:=C.eq;obtain ⟨dd,cJ,c7,cM,dg,rfl,er,ed,ep,eh,et⟩:=C.bT.eq;refine ⟨cy+ev+ew+ey+ez+1048580,λad n cO eR H fv bc aU eP=> ?_⟩;obtain ⟨n,rfl⟩:=bY n;simp only [bl,a6];refine bn.at (m:=89) rfl rfl rfl rfl rfl (by simp only [aO,aU.nl];rfl) rfl rfl ?_;have bu:Z (H.push (.cells (q 130) (q 130) 0 [fv])):=bc.push (by show [_].all _=true;simp only [aO,jm,kz (mN _) 20 _ aU.ids];rfl);have br:=(U.refl H).push (.cells (q 130) (q 130) 0 [fv]);refine bn.bM (λtm ao=>(Z ao/\U H ao/\ao.get H.n=some (.cells (q 130) (q 130) 0 [fv]))/\aM 91 [(2,.W 0 [.str S ag,dd,cJ,c7,cM,dg,cK,cB,.str L af,cA,r,.str T ah,.str ae aj]),(3,.ptr H.n (q 130) 0 1),(4,.W 0 [.str 0 0,.V,.V,.V,.V,.V,.V,.V,.str 0 0,.V,.V,.str 0 0,.str 0 0]),(7,.av []),(9,.av []),(11,.av [])] tm) ?_ ?_
 . simp only [go_sem,er.J,ed.J,ep.J,eh.J,et.J,bI.J,cx.J,cw.J,bO.J,aU.op,aU.ok,aU.cs];exact an.mk ⟨⟨bu,br,dL _ _⟩,dC⟩
 clear bu br;rintro tm ao ⟨⟨bu,br,cC⟩,hF⟩;have cq:ec 9 ao (.fn (.func 145) [] [.ptr H.n (q 130) 0 1]):=ec.mono ⟨rfl,λ_=>rfl,rfl,rfl,by have aZ:Nat.blt H.n ao.n=true:=h_ (gW cC);show ([].all (y ao.n 19)&& [aa.ptr H.n (q 130) 0 1].all (y ao.n 19))=true;simp only [aO,jm,y,aZ];rfl,⟨_,_,_,rfl⟩,IJ cC (aT _) bu.1 (aT _) (λad n aY bj H' bE=>aU.call ad n aY bj H' (br.trans bE)) aU.op⟩ (show 2<=9 by decide);have bk:Z (ao.push (.cells (q 192) (q 192) 0 [.fn (.func 145) [] [.ptr H.n (q 130) 0 1]])):=bu.push (by show [_].all _=true;simp only [aO,jm,kz (mN _) 20 _ cq.ids];rfl);have bt:=(U.refl ao).push (.cells (q 192) (q 192) 0 [.fn (.func 145) [] [.ptr H.n (q 130) 0 1]]);refine bn.bM (λtm z=> ∃bd bg ch,(Z z/\U ao z/\z.get bd=some (.cells bg ch 0 [.fn (.func 145) [] [.ptr H.n (q 130) 0 1]])/\ch<=bg)/\aM 91 [(2,.W 0 [.str S ag,dd,cJ,c7,cM,dg,cK,cB,.str L af,cA,r,.str T ah,.str ae aj]),(4,.W 0 [.str 0 0,.V,.V,.V,.V,.V,.V,.V,.str 0 0,.V,.V,.str 0 0,.str 0 0]),(5,.ptr bd bg 0 1),(7,.av []),(9,.av []),(11,.av [])] tm) ?_ ?_
 . simp only [go_sem,hF];exact an.mk ⟨_,_,_,⟨bk,bt,dL _ _,aT _⟩,ay⟩
 clear hF bt bk;rintro tm z ⟨bd,bg,ch,⟨bk,bt,b8,b7⟩,hF⟩;have ef:ec 9 z (.fn (.func 146) [] [.ptr bd bg 0 1]):=ec.mono ⟨rfl,λ_=>rfl,rfl,rfl,by have aZ:Nat.blt bd z.n=true:=h_ (gW b8);show ([].all (y z.n 19)&& [aa.ptr bd bg 0 1].all (y z.n 19))=true;simp only [aO,jm,y,aZ];rfl,⟨_,_,_,rfl⟩,Tp b8 b7 bk.1 (show 1<=2 by decide) (λad n aY bj H' bE=>IJ cC (aT _) bu.1 (aT _) (λad n aY bj H' bE=>aU.call ad n aY bj H' (br.trans bE)) aU.op ad n aY bj H' (bt.trans bE)) cq.op⟩ (show 3<=9 by decide);have ct:=cq.up bt;refine bn.bF hF (λak tm H'=>z=H'/\aM 91 [(6,.fn (.func 146) [] [.ptr bd bg 0 1])] tm/\ak tm) ?_ ?_
 . simp only [go_sem,hF];exact an.mk ⟨rfl,ay⟩
 clear hF;rintro tm _ ⟨rfl,hF⟩;obtain ⟨_,aD,⟨aw,ax,aA,aB,aC,rfl,h,bU,bV,bW,bX,dN⟩,dw⟩:=aY ad n ab ab z _ _ bk ef ct (LV _ _ _ _ _) (LV _ _ _ _ _);have bp:=ct.up h.up;obtain ⟨aJ,cp,dv⟩:=bj ad n ab ab cB aD _ h.tidy cx bp;obtain ⟨aH,cn,du⟩:=dy ad n ab ab cA aD _ h.tidy cw bp;have cD:=h.up.get bk.1 b8;refine bn.kp [2,4,5,9,11] (λak tm H'=>aD=H'/\M tm 7= .W 0 [.str S ag,aw,ax,aA,aB,aC,.V,aJ,.str L af,aH,.V,.str T ah,.str ae aj]/\ak tm) ?_ ?_
 . have aX:=λtm=>ct.call ad n ab ab z (U.refl _) bk S ag tm dk c2;have bZ:=λtm=>bp.call ad n ab ab aD (U.refl _) h.tidy L af tm dj c1;have b0:=λtm=>bp.call ad n ab ab aD (U.refl _) h.tidy T ah tm dm c3;have cL:=λtm=>bp.call ad n ab ab aD (U.refl _) h.tidy ae aj tm dn c4;obtain ⟨eI,bK,ek,en⟩:=id cp;obtain ⟨eH,bJ,ei,ej⟩:=id cn;simp only [eg,a6,bl] at aX bZ b0 cL;simp only [go_sem,hF,cx.O,cw.O,b8,cD,b7,aX,bZ,b0,cL,dw,dv,du,h.ok,bU.ok,bV.ok,bW.ok,bX.ok,bK.O,bK.J,bK.cells,bJ.O,bJ.J,bJ.cells];exact an.mk ⟨rfl,ay⟩
 clear hF;rintro tm _ ⟨rfl,hF⟩;obtain ⟨eI,bK,ek,en⟩:=id cp;obtain ⟨eH,bJ,ei,ej⟩:=id cn;have dY:bN G 81=some (.agg [.int .i64 0,.int .i64 0,.str 0 0,.str 0 0,.V,.V,.int .i64 0,.int .i64 0,.str 0 0,.str 0 0,.V,.V,.V,.int .i64 0,.int .i64 0]):=aq;refine bn.kp [2,4,5,11] (λak tm H'=> ∃o aK,(P 81 15 aD H' o aK/\aK.length=req.length)/\M tm 7= .W 0 [.str S ag,aw,ax,aA,aB,aC,o,aJ,.str L af,aH,.V,.str T ah,.str ae aj]/\ak tm) ?_ ?_
 . simp only [go_sem,hF,bI.O,bI.len];generalize dF:a1 _ _ _ _ _ _ _ _ _ _=cf;revert cf;refine cv [2,4,5,11,45] (λs=> [(7,.W 0 [.str S ag,aw,ax,aA,aB,aC,s.1,aJ,.str L af,aH,.V,.str T ah,.str ae aj])]) (λs=>s.2) (λbQ s=> ∃aK,P 81 15 aD s.2 s.1 aK/\aK.length=bQ) req.length (.V,aD) ⟨[],P.new _ _ h.tidy,rfl⟩ ?_ ?_
   . clear hF;rintro bQ ⟨o,B⟩ tm cm ⟨aK,a,aR⟩ hF;simp only at a hF|-;obtain ⟨e,bw⟩:=bA cm;have bD:=aV bw;obtain ⟨eN,eO,bz,aE,aF,rfl,eL,eM,⟨fr,b6,eW,eS⟩,⟨aE,rfl⟩,⟨aF,rfl⟩⟩:=C.kx e bD;obtain ⟨b3,cj,dx⟩:=dz ad n ab ab _ bD;obtain ⟨cZ,c5,cQ,cR,cS,cU,de,I,e2,eY,rfl,dV,dU⟩:=eL.t;obtain ⟨c0,c6,cV,cW,cX,cY,df,c8,e3,eZ,rfl,dX,dW⟩:=eM.t;have cu:=bp.up a.up;obtain ⟨bB,dh,aX⟩:=(show l9 [.int .i64 cZ,.int .i64 c5,.str cQ cR,.str cS cU,de,I] ad n from b3) B _ a.tidy cu;obtain ⟨bC,di,bZ⟩:=(show l9 [.int .i64 c0,.int .i64 c6,.str cV cW,.str cX cY,df,c8] ad n from cj) B _ a.tidy cu;obtain ⟨bS,dO,b0⟩:=dx bz B _ a.tidy (by show F bz (f bz);rw [bm b6];exact b6) cu;obtain ⟨eV,bP,eT,eU⟩:=id dO;have c9:=dh.row;have v:=di.row;have bb:Rows 15 [bB++bC++ [bS,.int .i64 aE,.int .i64 aF]]:=λdp bx=>by
      rw [bs.1 bx];refine ⟨by simp [c9.1,v.1],λg c=> ?_⟩;rcases cr.1 c with c|c
      . rcases cr.1 c with c|c
        . exact c9.2 g c
        . exact v.2 g c
      . simp only [b2,dG,or_false] at c;rcases c with rfl|rfl|rfl
        . exact ⟨bP.J,bP.aI _⟩
        . exact ⟨rfl,rfl⟩
        . exact ⟨rfl,rfl⟩
     have aZ:cT G 27 1 [(0,.agg (bB++bC++ [bS,.int .i64 aE,.int .i64 aF]))] B=some (.A [bB++bC++ [bS,.int .i64 aE,.int .i64 aF]] true,B):=
      mo (E:=G) (t:=27) (el:=81) (k:=15) (H:=B) aq aq dY al rfl al (.agg (bB++bC++ [bS,.int .i64 aE,.int .i64 aF])) ⟨(bb _ (bs.2 rfl)).1,ba.2 λg c=>((bb _ (bs.2 rfl)).2 g c).1,ba.2 λg c=>((bb _ (bs.2 rfl)).2 g c).2⟩
     obtain ⟨eJ,aL,b1,aP,-⟩:=a.app (E:=G) (t:=27) (b:=232) (i:=t81) aq aq rfl rfl al al (x:= .A [bB++bC++ [bS,.int .i64 aE,.int .i64 aF]] true) (aQ:= [_]) (dR (.inr ⟨_,rfl⟩) bb.len) bb (by rw [aR];show _+1<_;omega);obtain ⟨e7,fl,e8,e9,fa,fb,fu,fq,e5,e1,rfl,eb,ea⟩:=dh.t;obtain ⟨e6,fk,ff,fg,fh,fi,ft,fp,e4,e0,rfl,dT,dS⟩:=di.t;simp only [bl,a6] at bw aZ b1;have cE:=a.up.get h.tidy.1 cD;refine au.kp [47,46,2,4,5,11,45] (λak tm H'=>B=H'/\ ∃dc,M tm 7= .W 0 [.str S ag,aw,ax,aA,aB,aC,o,aJ,.str L af,aH,.V,.str T ah,.str ae aj]/\M tm 9= .W dc [.int .i64 cZ,.int .i64 c5,.str cQ cR,.str cS cU,de,I,.int .i64 c0,.int .i64 c6,.str cV cW,.str cX cY,df,c8,bz,.int .i64 aE,.int .i64 aF]/\ak tm) ?_ ?_
     . simp only [go_sem,hF,bI.O,bI.a_ (k:=15) bw rfl,dV.J,dU.J,dX.J,dW.J,b6.J];exact an.mk ⟨rfl,_,by simp only [go_sem,hF];trivial⟩
     clear hF;rintro tm _ ⟨rfl,dc,hF⟩;simp only [go_sem,hF,cE,b7,b6.O,aX,bZ,b0,eb.J,ea.J,dT.J,dS.J,bP.O,bP.J,bP.cells,a.O,aZ,bH,b1,aP.O,aP.ok,aP.cs];exact au.next (eJ,aL) rfl ⟨_,aP,by simp [aR]⟩ ay
   . rintro ⟨o,B⟩ tm ⟨aK,a,aR⟩ hF;simp only at a hF;simp only [go_sem];exact an.mk ⟨o,aK,⟨a,aR⟩,ay⟩
 clear hF;rintro tm B ⟨o,aK,⟨ar,dD⟩,hF⟩;have dZ:bN G 64=some (.agg [.str 0 0,.V,.V,.V,.V,.int .i64 0,.int .i64 0]):=aq;refine bn.kp [2,4] (λak tm H'=> ∃K v,(P 64 7 B H' K v/\v.length=u.length)/\M tm 7= .W 0 [.str S ag,aw,ax,aA,aB,aC,o,aJ,.str L af,aH,K,.str T ah,.str ae aj]/\ak tm) ?_ ?_
 . simp only [go_sem,hF,bO.O,bO.len];generalize dF:a1 _ _ _ _ _ _ _ _ _ _=cf;revert cf;refine cv [2,4,5,75] (λs=> [(7,.W 0 [.str S ag,aw,ax,aA,aB,aC,o,aJ,.str L af,aH,s.1,.str T ah,.str ae aj])]) (λs=>s.2) (λbQ s=> ∃v,P 64 7 B s.2 s.1 v/\v.length=bQ) u.length (.V,B) ⟨[],P.new _ _ ar.tidy,rfl⟩ ?_ ?_
   . clear hF;rintro bQ ⟨K,aL⟩ tm cm ⟨v,a,aR⟩ hF;simp only at a hF|-;obtain ⟨e,bw⟩:=bA cm;have bD:=aV bw;obtain ⟨fx,eF,bz,w,dt,aE,aF,rfl,⟨cg,ds,rfl,-⟩,⟨_,dM,_⟩,⟨_,aS,_⟩,⟨_,dP,_⟩,⟨_,dI,_⟩,⟨eC,rfl⟩,⟨eD,rfl⟩⟩:=id (C.bh e bD);have ee:=bp.up (ar.up.trans a.up);obtain ⟨aW,b4,aX⟩:=dA ad n ab ab _ bD aL _ a.tidy ee;have bb:Rows 7 [aW]:=λdp bx=>by rw [bs.1 bx];exact b4
     have aZ:cT G 29 1 [(0,.agg aW)] aL=some (.A [aW] true,aL):=
      mo (E:=G) (t:=29) (el:=64) (k:=7) (H:=aL) aq aq dZ al rfl al (.agg aW) ⟨b4.1,ba.2 λg c=>(b4.2 g c).1,ba.2 λg c=>(b4.2 g c).2⟩
     obtain ⟨eK,dq,b1,aP,-⟩:=a.app (E:=G) (t:=29) (b:=128) (i:=t64) aq aq rfl rfl al al (x:= .A [aW] true) (aQ:= [_]) (dR (.inr ⟨_,rfl⟩) bb.len) bb (by rw [aR];show _+1<_;omega);have cE:=a.up.get ar.tidy.1 (ar.up.get h.tidy.1 cD);refine au.kp [77,76,2,4,5,75] (λak tm H'=>aL=H'/\ ∃db,M tm 7= .W 0 [.str S ag,aw,ax,aA,aB,aC,o,aJ,.str L af,aH,K,.str T ah,.str ae aj]/\M tm 11= .W db [.str cg ds,eF,bz,w,dt,.int .i64 eC,.int .i64 eD]/\ak tm) ?_ ?_
     . simp only [go_sem,hF,bO.O,bO.a_ (k:=7) bw rfl,dM.J,aS.J,dP.J,dI.J];exact an.mk ⟨rfl,_,by simp only [go_sem,hF];trivial⟩
     clear hF;rintro tm _ ⟨rfl,db,hF⟩;simp only [go_sem,hF,cE,b7,aX,a.O,aZ,bH,b1,aP.O,aP.ok,aP.cs];exact au.next (eK,dq) rfl ⟨_,aP,by simp [aR]⟩ ay
   . rintro ⟨K,aL⟩ tm ⟨v,a,aR⟩ hF;simp only at a hF;simp only [go_sem];exact an.mk ⟨K,v,⟨a,aR⟩,ay⟩
 clear hF;rintro tm aL ⟨K,v,⟨j,dH⟩,hF⟩;simp only [go_sem,hF,h.ok,bU.ok,bV.ok,bW.ok,bX.ok,bK.J,bJ.J,ar.ok,j.ok];have bG:=ar.up.trans j.up;have bq:=br.trans bt;have cP:=bq.trans h.up;have aS: ∀ {I},I∈ [.str S ag,aw,ax,aA,aB,aC,o,aJ,.str L af,aH,K,.str T ah,.str ae aj]->y H.n 20 (.agg [.str S ag,aw,ax,aA,aB,aC,o,aJ,.str L af,aH,K,.str T ah,.str ae aj])=true->y H.n (18+1) I=true:=λa7 aN=>IK aN a7;have aG: ∀ {aX cy:Nat} {I eG},P aX cy z aD I eG->cc I o/\cc I K:=λaN=>⟨aN.pM ar (aT _),aN.pM j ar.up.n⟩;refine bn.mk ⟨⟨_,aw,ax,aA,aB,aC,o,aJ,_,aH,K,_,_,aK,v,rfl,⟨_,_,rfl,dk,c2⟩,⟨_,_,rfl,dj,c1⟩,⟨_,_,rfl,dm,c3⟩,⟨_,_,rfl,dn,c4⟩,(h.at j.tidy bG).gc bc bq (aS ai),(bU.at j.tidy bG).gc bc bq (aS ai),(bV.at j.tidy bG).gc bc bq (aS ai),(bW.at j.tidy bG).gc bc bq (aS ai),(bX.at j.tidy bG).gc bc bq (aS ai),
  (ar.at j.tidy j.up).gc bc cP (aS ai),cp,cn,j.gc bc (cP.trans ar.up) (aS ai),dD,dH,?_⟩⟩
 have:=(rH (l₁:= [aw,ax,aA,aB,aC]) (l₂:= [o,K])).2 ⟨dN,hq.2 ⟨λI a7=>by rw [bs.1 a7];exact (P.pM ar j (aT _)),hq.2 ⟨λI a7=>(by cases a7),List.Pairwise.nil⟩⟩,λI a7 dp bx=> ?_⟩
 . exact this
 simp only [b2,dG,or_false] at a7 bx;rcases a7 with rfl|rfl|rfl|rfl|rfl<;>rcases bx with rfl|rfl
 . exact (aG h).1
 . exact (aG h).2
 . exact (aG bU).1
 . exact (aG bU).2
 . exact (aG bV).1
 . exact (aG bV).2
 . exact (aG bW).1
 . exact (aG bW).2
 . exact (aG bX).1
 . exact (aG bX).2
def Vg {d s:List aa} {j i rop e k req p I u:Y} (f:fz d s j i rop e k req p I u) (ak:j.length+i.length+rop.length+e.length+k.length<800000) (ar: ∀r∈rop,nk r) (aq: ∀r∈e,nk r)
    {N:Nat} (hT:bL (eE req p I u) N) (hN:N<50000):bo λad n=> ∀H,Z H->
    ∃w H',FF H H' w j i rop e k req.length u.length/\ ∀tm,az G (X G R ad n) 41 [.agg d] H tm= .ok w tm H':=by
 obtain ⟨aI,aj⟩:=Vf f ak ar aq hT hN;refine ⟨aI+20,λad n aX aY H a=> ?_⟩;obtain ⟨n,rfl⟩:=bY n;obtain ⟨w,aT,an,A⟩:=aj ad n ab ab H _ a (Tn H) (ZP _);obtain ⟨bh,aV,bj,ba,bg,r,br,bt,rfl,⟨bB,bF,rfl,bw,bc⟩,ax,aC,⟨bA,bE,rfl,bu,bb⟩,aA,aF,⟨bC,bG,rfl,bx,bd⟩,⟨bD,bH,rfl,bz,bf⟩⟩:=f.eq;obtain ⟨bq,aU,bk,aW,bs,rfl,aG,aw,aE,ay,aH⟩:=f.bT.eq;obtain ⟨_,l,o,q,t,v,x,h,_,g,z,_,_,aN,aO,rfl,⟨S,ae,rfl,aQ,aK⟩,⟨Q,W,rfl,aP,aJ⟩,⟨T,af,rfl,aR,aL⟩,⟨V,ag,rfl,aS,aM⟩,K,L,M,O,P,B,E,D,C,al,ao,au⟩:=an.eq;obtain ⟨bp,aD,a7,a8⟩:=id E;obtain ⟨bm,aB,aZ,a1⟩:=id D;simp only [bl,a6] at A|-;refine bn.at (m:=4) rfl rfl rfl rfl rfl rfl rfl rfl ?_;simp only [go_sem,aG.J,aw.J,aE.J,ay.J,aH.J,ax.J,aC.J,aA.J,aF.J,A,K.ok,L.ok,M.ok,O.ok,P.ok,aD.J,aB.J,B.ok,C.ok];have b: ∀ {F},F∈ [.str S ae,l,o,q,t,v,x,h,.str Q W,g,z,.str T af,.str V ag]->y H.n 20 (.agg [.str S ae,l,o,q,t,v,x,h,.str Q W,g,z,.str T af,.str V ag])=true->y H.n (18+1) F=true:=λav ah=>IK ah av;have c:=U.refl H;exact bn.mk ⟨⟨_,l,o,q,t,v,x,h,_,g,z,_,_,aN,aO,rfl,⟨_,_,rfl,aQ,aK⟩,⟨_,_,rfl,aP,aJ⟩,⟨_,_,rfl,aR,aL⟩,⟨_,_,rfl,aS,aM⟩,K.gc a c (b ai),L.gc a c (b ai),M.gc a c (b ai),O.gc a c (b ai),P.gc a c (b ai),
  B.gc a c (b ai),E,D,C.gc a c (b ai),al,ao,au⟩⟩
def int_ne (j:Nat):((j:Int)==((j+1:Nat):Int))=false:=by simp<;>omega
def I9 {ad n:Nat} {d H:af} {v:aa} {rows:Y} {j:Nat} (c:P 35 6 d H v rows) (q:j<rows.length) (r:rows.length<1048560):
    ∃a H',(fI 35 6 d H' a (rows.eraseIdx j)/\cW a=cW v/\iX d.n v a H H')/\ ∀tm,az G (X G R ad (n+1)) 91 [v,.int .i64 (j:Nat),.int .i64 ((j+1:Nat):Nat)] H tm= .ok a tm H':=by
 obtain ⟨J,L,M,a,F,N,I,f,g,h,i,o,l,⟨K,A,B,C⟩,s,e,x,p,u⟩:=c.del (k:=6) (E:=G) (t:=33) (b:=96) (ti:=t35) (z:= .agg [.int .i64 0,.int .i64 0,.str 0 0,.str 0 0,.V,.V]) aq aq aq rfl rfl al al rfl rfl (λv y n=>fR n 20 20 v al (ba.1 (show (aa.cells (.agg [.int .i64 0,.int .i64 0,.str 0 0,.str 0 0,.V,.V])).all (D 20)=true from rfl) v y)) q r;have w:=int_ne j;refine bn.at (m:=30) rfl rfl rfl rfl rfl (by simp only [aO,c.nl];rfl) rfl rfl ?_;simp only [go_sem,c.O,c.len,f,w,g,h,A,B,i,bH,e.O,s,o,l,C,e.nl,dX,if_true];refine bn.mk ?_;rw [ft (yW u)];exact ⟨e,x,p⟩
def Uv {ad n:Nat} {d H:af} {v:aa} {rows:Y} {j:Nat} (c:P 9 1 d H v rows) (q:j<rows.length) (r:rows.length<1048560):
    ∃a H',(fI 9 1 d H' a (rows.eraseIdx j)/\cW a=cW v/\iX d.n v a H H')/\ ∀tm,az G (X G R ad (n+1)) 100 [v,.int .i64 (j:Nat),.int .i64 ((j+1:Nat):Nat)] H tm= .ok a tm H':=by
 obtain ⟨J,L,M,a,F,N,I,f,g,h,i,o,l,⟨K,A,B,C⟩,s,e,x,p,u⟩:=c.del (k:=1) (E:=G) (t:=22) (b:=16) (ti:=t9) (z:= .str 0 0) aq aq aq rfl rfl al al rfl rfl (λv y n=>fR n 20 20 v al (ba.1 (show (aa.cells (.str 0 0)).all (D 20)=true from rfl) v y)) q r;have w:=int_ne j;refine bn.at (m:=30) rfl rfl rfl rfl rfl (by simp only [aO,c.nl];rfl) rfl rfl ?_;simp only [go_sem,c.O,c.len,f,w,g,h,A,B,i,bH,e.O,s,o,l,C,e.nl,dX,if_true];refine bn.mk ?_;rw [ft (yW u)];exact ⟨e,x,p⟩
@[go_sem] theorem ag8:s 2 (.string ⟨#[48,49,50,51,52,53,54,55,56,57,97,98,99,100,101,102,103,104,105,106,107,108,109,110,111,112,113,114,115,116,117,118,119,120,121,122]⟩)= .str 36 237927390410950444456928663707796224754864904193074819559483181009558347043374296609072:=aq
@[go_sem] theorem acp:b 93= []:=aq
@[go_sem] theorem ack:b 168= []:=aq
@[go_sem] theorem acm:b 244= []:=aq
@[go_sem] theorem aco:b 306= []:=aq
@[go_sem] theorem acn:b 302= []:=aq
theorem QA (i:Nat) (a:i<10):m8 36 237927390410950444456928663707796224754864904193074819559483181009558347043374296609072 (some (.int .i64 (i:Nat))) (some (.int .i64 ((i:Int)+1))) none=some (.str 1 (48+i)):=by
 match i,a with
 |0,_=>rfl
 |1,_=>rfl
 |2,_=>rfl
 |3,_=>rfl
 |4,_=>rfl
 |5,_=>rfl
 |6,_=>rfl
 |7,_=>rfl
 |8,_=>rfl
 |9,_=>rfl
def XY (l m:Nat) (lo a8 tm H):ij G 9 (some TypeDesc.string) (.str l m) lo a8 none tm H=bb (m8 l m lo a8 none) tm H:=by
 have a:=KE G 9 (.str l m) lo a8 none tm H;rw [lA] at a;rw [a];simp only [go_sem]
theorem abA:d G R 306 (λi:Nat=>i<10) (λi=> [.int .i64 (i:Nat)]) (λi=> .str 1 (48+i)):=by refine d.run (m:=14) rfl rfl rfl rfl (λ_=>rfl) (λ_ _=>rfl) rfl rfl 0 λk l h j i c g f=> ?_;have a:decide ((i:Int)<10)=true:=da;have b:IntKind.i64.wrap ((i:Int)+1)=(i:Int)+1:=wrap64 _ ab ab;simp only [go_sem,a,b,XY,QA i c];refine e.mk ?_ f (U.refl _);rfl
theorem abl:d G R 244 (λi:Nat=>i<10) (λi=> [.int .i64 (i:Nat),.int .i64 10]) (λi=> .str 1 (48+i)):=by obtain ⟨k,f⟩:=abA;refine d.run (m:=52) rfl rfl rfl rfl (λ_=>rfl) (λ_ _=>rfl) rfl rfl (k+1) λl n p q i j b a=> ?_;have g:decide (0<=(i:Int))=true:=ai;have h:decide ((i:Int)<100)=true:=da;have c:=λo=>f l n ab ab i j b o a;simp only [go_sem,g,h,c];refine e.mk ?_ a (U.refl _);rfl
theorem abp:d G R 168 (λi:Nat=>i<10) (λi=> [.int .i64 (i:Nat)]) (λi=> .str 1 (48+i)):=by obtain ⟨h,f⟩:=abl;refine d.run (m:=4) rfl rfl rfl rfl (λ_=>rfl) (λ_ _=>rfl) rfl rfl (h+1) λj k n o i g b a=> ?_;have c:=λl=>f j k ab ab i g b l a;simp only [go_sem,c];refine e.mk ?_ a (U.refl _);rfl
theorem Ag:d G R 93 (λi:Nat=>i<10) (λi=> [.int .i64 (i:Nat)]) (λi=> .str 1 (48+i)):=by obtain ⟨h,f⟩:=abp;refine d.run (m:=4) rfl rfl rfl rfl (λ_=>rfl) (λ_ _=>rfl) rfl rfl (h+1) λj k n o i g b a=> ?_;have c:=λl=>f j k ab ab i g b l a;simp only [go_sem,c];refine e.mk ?_ a (U.refl _);rfl
end Go.aj
