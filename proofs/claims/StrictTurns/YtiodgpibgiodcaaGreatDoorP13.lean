/- A part of the proof. -/
import Derived.Test.YtiodgpibgiodcaaGreatDoorP00
import Derived.Test.YtiodgpibgiodcaaGreatDoorP07
import Derived.Test.YtiodgpibgiodcaaGreatDoorP10
import Derived.Test.YtiodgpibgiodcaaGreatDoorP12
set_option linter.all false
set_option maxHeartbeats 4000000
namespace Go.aj
open Go Go.Proofs.Tryz
set_option maxRecDepth 100000
open Classical in
theorem PY {P:List aa->Prop} {f:Nat} {g:List aa->List aa} {rows:Y} {ad n:Nat} {H:af} (ag: ∀r∈rows,∃b,(b=true->P r)/\ ∀tm,az G (X G R ad n) f (g r) H tm= .ok (.bool b) tm H): ∃p:List aa->Bool,∀r∈rows,(p r=true->P r)/\ ∀tm,az G (X G R ad n) f (g r) H tm= .ok (.bool (p r)) tm H:=by
 refine ⟨λr=>if bh: ∃b,(b=true->P r)/\ ∀tm,az G (X G R ad n) f (g r) H tm= .ok (.bool b) tm H then bh.choose else false,λr bh=> ?_⟩
 grind
def Oc (x fv:aa) (rows:Y) (p:List aa->Bool) (d:F x rows) (b: ∀r∈rows,gd r) (o:rows.length<4611686018427387904) (j:aD fv=true) (e: ∀t,O t fv=fv) (h:fv.cells= [fv]) (u:J fv=true)
    (ad n:Nat) (l:rows.length<ad) (H:af) (f:Tidy H) (k:y H.n 20 fv=true) (a: ∀r∈rows,∀tm,cx G (X G R ad n) fv [.agg r] (H.push (.cells (q 170) (q 170) 0 [fv])) tm= .ok (.bool (p r)) tm (H.push (.cells (q 170) (q 170) 0 [fv]))):
    ∀tm,az G (X G R ad (n+4)) 116 [x,fv] H tm= .ok (.bool (rows.all p)) tm H:=by
 have g:Tidy (H.push (.cells (q 170) (q 170) 0 [fv])):=f.push (by show [fv].all _=true;simp only [aO,kz (mN _) 20 fv k];rfl);have i:=Up x (.fn (.func 177) [] [.ptr H.n (q 170) 0 1]) rows (λr=> !p r) d (λr ag=>EJ (b r ag)) o rfl (λ_=>rfl) ad (n+1) l _ g (λr c tm=>by have a:=a r c;have v:=EJ (b r c);have w:=Zl (b r c);have z:r.take 2=r:=ah;simp only [eg,a6,bl];refine fa (aL.at (m:=6) rfl rfl rfl rfl rfl rfl rfl rfl ?_) tm;simp -implicitDefEqProofs only [go_sem,w,v,z,dL,e,a];exact ak.mk rfl rfl g (U.refl _));refine fa (aL.at (m:=7) rfl rfl rfl rfl rfl (by simp only [aO,d.aD,j];rfl) rfl rfl ?_);simp -implicitDefEqProofs only [go_sem,e,h,u,d.O,i];exact ak.mk ah rfl f ((U.refl _).push _)
def F8 (x fv:aa) (rows:Y) (p:List aa->Bool) (d:F x rows) (b: ∀r∈rows,xh r) (o:rows.length<4611686018427387904) (j:aD fv=true) (e: ∀t,O t fv=fv) (h:fv.cells= [fv]) (u:J fv=true)
    (ad n:Nat) (l:rows.length<ad) (H:af) (f:Tidy H) (k:y H.n 20 fv=true) (a: ∀r∈rows,∀tm,cx G (X G R ad n) fv [.agg r] (H.push (.cells (q 94) (q 94) 0 [fv])) tm= .ok (.bool (p r)) tm (H.push (.cells (q 94) (q 94) 0 [fv]))):
    ∀tm,az G (X G R ad (n+4)) 119 [x,fv] H tm= .ok (.bool (rows.all p)) tm H:=by
 have g:Tidy (H.push (.cells (q 94) (q 94) 0 [fv])):=f.push (by show [fv].all _=true;simp only [aO,kz (mN _) 20 fv k];rfl);have i:=Dt x (.fn (.func 178) [] [.ptr H.n (q 94) 0 1]) rows (λr=> !p r) d (λr ag=>Lt (b r ag)) o rfl (λ_=>rfl) ad (n+1) l _ g (λr c tm=>by have a:=a r c;have v:=Lt (b r c);have w:=Zm (b r c);have z:r.take 7=r:=ah;simp only [eg,a6,bl];refine fa (aL.at (m:=6) rfl rfl rfl rfl rfl rfl rfl rfl ?_) tm;simp -implicitDefEqProofs only [go_sem,w,v,z,dL,e,a];exact ak.mk rfl rfl g (U.refl _));refine fa (aL.at (m:=7) rfl rfl rfl rfl rfl (by simp only [aO,d.aD,j];rfl) rfl rfl ?_);simp -implicitDefEqProofs only [go_sem,e,h,u,d.O,i];exact ak.mk ah rfl f ((U.refl _).push _)
def Vp:d G R 112 (λp:Nat×Nat=>T p.1 p.2) (λp=> [.str p.1 p.2]) (λp=> .bool (isName p.1 p.2&& !eD.any (isStr p.1 p.2))):=by
 obtain ⟨u,a⟩:=MP;obtain ⟨v,g⟩:=Jj;obtain ⟨w,h⟩:=oZ 1000 al;refine d.run (m:=10) rfl rfl rfl rfl (λ_=>rfl) (λ_ _=>rfl) rfl rfl (u+v+w) λi j x y o t f c=> ?_;obtain ⟨l,n⟩:=o;have a:=λk=>a i j ab ab (l,n) t f k c;have g:=λk=>g i j ab ab f k c;have r:F (.A eD true) eD:= .inr ⟨_,rfl⟩;have h:=h i j ab ab (.A eD true) eD l n f AT al c r.cw;simp only at a;simp -implicitDefEqProofs only [go_sem,a];refine e.aE ?_ ?_<;>intro q<;>simp -implicitDefEqProofs only [go_sem,q,g,h]
 all_goals exact e.b c (U.refl _) ai
theorem hZ.look {b bJ:List aa} {kN jv:Y} (d:hZ b bJ (eD++kN) jv) (l m:Nat):F (jX false .V (c2 (cU l m) b bJ 0)) (mj kN jv l m):=by
 have c:=d.ex l m;have a:=d.v l m;unfold jr at c a;unfold mj my;rw [<-c]
 cases e:c2 (cU l m) b bJ 0 with
 |none=>exact .inl ⟨rfl,rfl⟩
 |some f=>rw [e] at a;exact a f.2 rfl
def hZ.same {a bJ:List aa} {kN jv:Y} (b:hZ a bJ kN jv):cN (.ck a bJ) (.ck a bJ)=true:=ER (ES b.k) (m5 _ λf e=>by obtain ⟨g,c,d⟩:=b.s f e;exact c.same (qI d))
section
variable {ax:aa} {s:List aa} {kN jv rop j3 aJ:Y} (ag:dO ax s kN jv rop j3 aJ)
include ag
theorem Vt {r} (C:gd r):dt 117 [ax,.agg r] dI bQ:=by
 obtain ⟨w,x,a,b,rfl,-⟩:=C;obtain ⟨E,d⟩:=sm ag;obtain ⟨F,t⟩:=oZ 1048562 al;obtain ⟨aj,an,M,ao,aq,ar⟩:=ag.val;have u:=ag.abs a b;have T:=ag.bT.n;have D:=ag.same;obtain ⟨h,j,q,ad,aw,aa,av,v,e,Q,hF⟩:=ag;have g:=e.look a b;have y: ∀c,iM G 134 (.ck j q) (.str a b) false c=some (jX false .V (c2 (cU a b) j q 0)):=λc=>tP (cK:=0) G xj lA rfl z22 e.k e.l;have af:=wI e.same;have ah:=wI (g.same (qI u.1));generalize jX false .V (c2 (cU a b) j q 0)=I at*;obtain ⟨K,N,ae,P,au,rfl,i,W,X,Y,Z⟩:=h.eq;have ai:=wI (i.same (qI h.so));simp only [bl,a6] at v;refine aL.run (m:=35) rfl rfl rfl rfl rfl (by simp only [aO,M];rfl) rfl rfl (E+F) λo p R S c f=> ?_;have d:=λH J L=>d o p ab ab (H,J) trivial c L f;have A:=t o p ab ab K kN a b c h.so ab f i.cw;have B:=t o p ab ab I (mj kN jv a b) w x c u.1 ab f g.cw;simp only at d;rw [v] at d D|-;simp -implicitDefEqProofs only [go_sem]
 iterate 4 all_goals try (refine ak.aE ?_ ?_<;>intro z<;>simp -implicitDefEqProofs only [go_sem,z,d,A,B,y,i.O,g.O])
 all_goals exact ak.bW f (U.refl _)
def q2 (r:List aa):Prop:= ∀d f a e g c,fB r d f a e g c->a.length<=8/\(∀h∈c,∃b:Int,h= [.int .i64 b]/\1<=b/\b<=a.length)/\c.Pairwise (· ≠ ·)
omit ag in
theorem fB.uniq {r l m args ls ms st wc J6 F_ J4 Kb eL} (ag:fB r l m args ls ms st) (g:fB r wc J6 F_ J4 Kb eL):l=wc/\m=J6/\args=F_/\ls=J4/\ms=Kb/\st=eL:=by obtain ⟨a,p,s,i,j,e,r4,r5,-⟩:=ag.eq;obtain ⟨uR,agq,s',vD,tt,BD,YG,YH,-⟩:=g.eq;rw [e] at BD;simp only [jn,aa.str.injEq] at BD;obtain ⟨⟨rfl,rfl⟩,rfl,⟨rfl,rfl⟩,-,-,-,rfl,-⟩:=BD;exact ⟨rfl,rfl,qe r4 YG,rfl,rfl,qe r5 YH⟩
omit ag in
theorem TN {x:List aa} (bj:c6 x) {l m args ls ms st} (b9:fB x l m args ls ms st) (i:Int) (ad n:Nat) (H:af) (hw:Tidy H) (id:Nat) (ku:H.get id=some (.cells (q 52) (q 52) 0 x)) (tm:List aa):
  az G (X G R ad (n+1)) 180 [.int .i64 i,.ptr id (q 52) 0 7] H tm= .ok (.bool (decide (i>=1)&&decide (i<=args.length))) tm H:=by
 obtain ⟨a,p,s,vD,tt,rfl,eO,bB,⟨gm,aeW,-⟩⟩:=b9.eq;refine fa (aL.at (m:=11) (rs:= [.tmp 3]) rfl rfl rfl rfl rfl rfl rfl rfl ?_) tm;simp only [go_sem];refine ak.aE ?_ ?_<;>intro g<;>simp only [go_sem,g,ku,eO.O,eO.len]
 all_goals exact ak.mk ai rfl hw (U.refl _)
theorem Vx {r} (t:c6 r):dt 120 [ax,.agg r] (j9 (q2 r)) bQ:=by
 obtain ⟨w,x,p,aq,ar,o,i⟩:=id t;obtain ⟨aZ,aF⟩:=Ji w x i.s1;obtain ⟨a1,aG⟩:=qn (e_ w x) (fL w x) (by unfold e_ fL;split;exact T.mod _ _;exact i.c5);obtain ⟨a7,aH⟩:=Dq w x;obtain ⟨a8,aI⟩:=sm ag;obtain ⟨bb,aK⟩:=oZ 1048562 al;obtain ⟨bc,aN⟩:=VO o.length (by have:=i.rS;omega);obtain ⟨bd,aP⟩:=(Vy t).bW;obtain ⟨bS,bU,bj,bV,bX,bY⟩:=ag.val;have bx:=ag.bT.n;have aW:=ag.same;have S:=ag.bT;have bw:=t.ok;have C:=i.rs;have aj:=i.hS;have aR: ∀ {h:Bool},(h=true->p.length<=8/\(∀Z∈o,∃e:Int,Z= [.int .i64 e]/\1<=e/\e<=p.length)/\o.Pairwise (· ≠ ·))->(h=true->q2 r):=λz K bI bK bk bJ bL bR aU=>by
  obtain ⟨-,-,rfl,-,-,rfl⟩:=i.uniq aU
  grind
 obtain ⟨-,bE,b0,bH,b2,bG,b1,P,bp,bq,hF⟩:=ag;obtain ⟨bg,bn,bN,bo,bZ,rfl,Y,bA,bB,bC,bD⟩:=S.eq;have bP:=wI (Y.same (qI S.so));simp only [bl,a6] at P;refine aL.run (m:=106) rfl rfl rfl rfl rfl (by simp only [aO,bj];rfl) rfl rfl (aZ+a1+a7+a8+bb+bc+bd+p.length+o.length+10) λg c bs bt d V=> ?_;obtain ⟨c,rfl⟩: ∃A,c=A+4:=⟨c-4,ab⟩;have l:Tidy (d.push (.cells (q 52) (q 52) 0 r)):=V.push (ba.2 λbh bz=>fR _ 20 20 bh al ah);have ao:U d (d.push (.cells (q 52) (q 52) 0 r)):=(U.refl d).push _;generalize N:d.push (.cells (q 52) (q 52) 0 r)=b at*;have k:b.get d.n=some (.cells (q 52) (q 52) 0 r):=by rw [<-N];exact dL _ _
 have au:=λa=>aF g (c+4) ab ab b a l;have av:=λa=>aG g (c+4) ab ab b a l;have aw:=λa=>aH g (c+4) ab ab b a l;have aA:=aK g (c+4) ab ab bg kN aq ar b S.so ab l Y.cw;obtain ⟨H,aB⟩:=aP g (c+4) ab ab b l;have aV:=t;obtain ⟨u,bf,E,e,aY,rfl,B,D,⟨bO,Q,bu,-⟩⟩:=i.eq;have ay: ∀a,az G (X G R g (c+4)) 114 [u,.fn (.func 118) [ax] []] b a= .ok (.bool (p.all λr=>match r with| [.str u h]=>my kN u h|_=>false)) a b:=
  y9 u (.fn (.func 118) [ax] []) p _ B aj (by have:=i.zk;omega) (by simp [aD]) (λ_=>rfl) rfl rfl g c ab b l (by show ([ax].all (y b.n 19)&& [].all (y b.n 19))=true;grind) (λF _ W r t a=>by obtain ⟨u,h,rfl,-⟩:=aj r t;simp only [eg,a6,fw,bl,jj];exact aI g c ab ab (u,h) trivial F a W)
 have aC: ∀a,az G (X G R g (c+4)) 181 [E,.fn (.func 180) [] [.ptr d.n (q 52) 0 7]] b a= .ok (.bool (o.all λr=>match r with| [.int _ e]=>decide (e>=1)&&decide (e<=p.length)|_=>false)) a b:=
  U8 E (.fn (.func 180) [] [.ptr d.n (q 52) 0 7]) o _ D C (by have:=i.rS;omega) rfl (λ_=>rfl) rfl rfl g c ab b l (by
    have z:Nat.blt d.n b.n=true:=h_ (by rw [<-N];simp [lq]);show (true&& [aa.ptr d.n (q 52) 0 7].all (y b.n 19))=true;simp only [aO,jm,y,z];rfl) (λF aX W r t a=>by
   obtain ⟨e,rfl⟩:=C r t;simp only [eg,a6,bl,jj];obtain ⟨A,aT⟩: ∃A,c=A+1:=⟨c-1,ab⟩;rw [aT];exact TN aV i e g A F W d.n (aX.get l.1 k) a)
 have ae:=ay;rw [P] at ae aW;have L:=aN g (c+4) ab ab E o b C ab l D.cw;obtain ⟨bm,br,L⟩:=L;refine ak.bM (λa f=>b=f/\aM 108 [(0,ax),(3,.ptr d.n (q 52) 0 7)] a) ?_ ?_
 . simp -implicitDefEqProofs only [go_sem,B.J,D.J,Q.J,N];exact an.mk ⟨rfl,w0⟩
 rintro a _ ⟨rfl,hF⟩;refine ak.bF hF (λj a f=>b=f/\aM 108 [(5,.str (e_ w x) (fL w x))] a/\j a) ?_ ?_
 . simp -implicitDefEqProofs only [go_sem,hF,k,au];exact an.mk ⟨rfl,dm⟩
 clear hF;rintro a _ ⟨rfl,hF⟩;refine ak.kp [0,3] (λj a f=>(b=f/\p.length<=8)/\j a) ?_ ?_
 . simp -implicitDefEqProofs only [go_sem,hF,av]
   iterate 5 all_goals try (refine an.aE ?_ ?_<;>intro v<;>simp -implicitDefEqProofs only [go_sem,hF,v,k,aw,B.O,B.len,ae,aA,P,Y.O])
   all_goals first
    |exact an.stop rfl (by simp -implicitDefEqProofs only [go_sem,hF];exact ak.gg V ao ai)
    |exact an.mk ⟨ah,dm⟩
 clear hF;rintro a _ ⟨⟨rfl,aQ⟩,hF⟩;refine ak.bF hF (λj a f=>b=f/\ ∃H,aM 108 [(7,.bool H)] a/\j a) ?_ ?_
 . simp -implicitDefEqProofs only [go_sem,hF,k,Q.O,Q.len];exact an.mk ⟨rfl,_,by simp -implicitDefEqProofs only [go_sem,hF];trivial⟩
 clear hF;rintro a _ ⟨rfl,H,hF⟩;refine ak.bM (λa f=>b=f/\ ∃ad,aM 108 [(0,ax),(3,.ptr d.n (q 52) 0 7),(8,.bool ad)] a) ?_ ?_
 . simp -implicitDefEqProofs only [go_sem,hF,k]
   iterate 7 all_goals try (refine an.aE ?_ ?_<;>intro v<;>simp -implicitDefEqProofs only [go_sem,hF,v,k])
   all_goals exact an.mk ⟨rfl,_,by simp -implicitDefEqProofs only [go_sem,hF];trivial⟩
 clear hF;rintro a _ ⟨rfl,ad,hF⟩;refine ak.bF hF (λj a f=>b=f/\ ∃I,aM 108 [(9,.bool I)] a/\j a) ?_ ?_
 . simp -implicitDefEqProofs only [go_sem,hF,k]
   iterate 7 all_goals try (refine an.aE ?_ ?_<;>intro v<;>simp -implicitDefEqProofs only [go_sem,hF,v,k])
   all_goals exact an.mk ⟨rfl,_,by simp -implicitDefEqProofs only [go_sem,hF];trivial⟩
 clear hF;rintro a _ ⟨rfl,I,hF⟩;refine ak.kp [0,3,8] (λj a f=>b=f/\M a 9= .bool I/\M a 10= .fn (.func 180) [] [.ptr d.n (q 52) 0 7]/\j a) ?_ ?_
 . simp -implicitDefEqProofs only [go_sem,hF];exact an.mk ⟨rfl,dm⟩
 clear hF;rintro a _ ⟨rfl,hF⟩;simp -implicitDefEqProofs only [go_sem,hF];have aS: ∀h:Bool,(h=true->(o.all λr=>match r with| [.int _ e]=>decide (e>=1)&&decide (e<=p.length)|_=>false)=true/\o.Pairwise (· ≠ ·))->ak (j9 (q2 [.str w x,u,.str aq ar,bf,.int .i64 e,.int .i64 aY,E])) bQ d (.ret (.bool h) b):=λh z=>ak.gg V ao (aR λK=>⟨aQ,(λZ af=>by
  obtain ⟨e,rfl⟩:=C Z af;have:=ba.1 (z K).1 _ af
  grind),(z K).2⟩)
 iterate 5 all_goals try (refine ak.aE ?_ ?_<;>intro v<;>simp -implicitDefEqProofs only [go_sem,hF,v,k,D.O,aC,L,aB])
 all_goals exact aS _ de
end
def Vw {ax:aa} {s:List aa} {kN jv rop j3 ad:Y} (w:dO ax s kN jv rop j3 ad) {r} (t:c6 r):dt 121 [ax,.agg r] dI bQ:=by
 obtain ⟨h,i,o,S,T,ao,k⟩:=id t;obtain ⟨N,H⟩:=qn h i k.c5;obtain ⟨P,I⟩:=Dq h i;obtain ⟨Q,x⟩:=sm w;obtain ⟨af,aq,A,ar,ag,au⟩:=w.val;have z:=k.hS;refine aL.run (m:=55) rfl rfl rfl rfl rfl (by simp only [aO,A];rfl) rfl rfl (N+P+Q+o.length+10) λf c ah ai b g=> ?_;obtain ⟨c,rfl⟩: ∃V,c=V+4:=⟨c-4,ab⟩;have D:=λa=>H f (c+4) ab ab b a g;have E:=λa=>I f (c+4) ab ab b a g;have v:=λh i a=>x f (c+4) ab ab (h,i) trivial b a g;simp only at v;obtain ⟨d,Z,ae,L,M,rfl,j,u,⟨al,q,aj,-⟩⟩:=k.eq;have F: ∀a,az G (X G R f (c+4)) 114 [d,.fn (.func 118) [ax] []] b a= .ok (.bool (o.all λr=>match r with| [.str d e]=>my kN d e|_=>false)) a b:=
  y9 d (.fn (.func 118) [ax] []) o _ j z (by have:=k.zk;omega) (by simp [aD]) (λ_=>rfl) rfl rfl f c ab b g (by show ([ax].all (y b.n 19)&& [].all (y b.n 19))=true;rw [aO,ag b.n 18];rfl) (λC _ K r t a=>by obtain ⟨d,e,rfl,-⟩:=z r t;simp only [eg,a6,fw,bl,jj];exact x f c ab ab (d,e) trivial C a K)
 refine ak.bM (λa l=>b=l/\aM 57 [(0,ax),(3,.W 0 [.str h i,d,.str S T,Z,.int .i64 L,.int .i64 M,ae])] a) ?_ ?_
 . simp only [go_sem,j.J,u.J,q.J];exact an.mk ⟨rfl,dC⟩
 rintro a _ ⟨rfl,hF⟩;refine ak.bF hF (λB a l=>b=l/\ ∃e,aM 57 [(5,.bool e)] a/\B a) ?_ ?_
 . simp only [go_sem,hF,q.O,q.len]
   iterate 4 all_goals try (refine an.aE ?_ ?_<;>intro p<;>simp only [go_sem,hF,p,u.O,u.len])
   all_goals exact an.mk ⟨rfl,_,by simp only [go_sem,hF];trivial⟩
 clear hF;rintro a _ ⟨rfl,e,hF⟩;simp only [go_sem,hF,D]
 iterate 6 all_goals try (refine ak.aE ?_ ?_<;>intro p<;>simp only [go_sem,hF,p,E,j.O,j.len,F,v,af,A])
 all_goals exact ak.bW g (U.refl _)
structure nm (rop j3:Y):Prop where
  names:((rop.map λr=> [M r 0])++(j3.map λr=> [M r 0])).Pairwise (· ≠ ·)
  ops: ∀r∈rop,q2 r
  len:rop.length+j3.length<=200
def Kg {rows:Y} (b: ∀r∈rows,c6 r):b8 (rows.map λr=> [M r 0]):=λr c=>by
 obtain ⟨g,d,rfl⟩:=cd.1 c;obtain ⟨e,f,i,l,m,p,a⟩:=b g d;obtain ⟨h,n,o,j,k,rfl,-⟩:=a.eq;exact ⟨e,f,rfl,a.c5,a.s1⟩
def U1 {s:List aa} {kN jv rop j3 ae} (u:oz s kN jv rop j3 ae):dt 64 [.agg s] (j9 (nm rop j3)) bQ:=by
 have cq:=u.n;obtain ⟨b3,af⟩:=VN 1048560 al;obtain ⟨b4,K⟩:=VP 1048560 al;obtain ⟨b5,bI⟩:=Vp;obtain ⟨ar,aw,aq,ah,au,bX,L,Z,N,T,ag⟩:=u.eq;obtain ⟨b6,bK⟩:bo λh e=>rop.length<=1000-> ∀c,Tidy c-> ∃D r,(bd c.n 9 1 rop.length r (rop.map λa=> [M a 0]) D/\Tidy r/\U c r)/\ ∀d,az G (X G R h e) 115 [aq] c d= .ok D d r:=by
  by_cases V:rop.length<=1000
  . obtain ⟨aG,aA⟩:=Ju aq rop N u.op V;exact ⟨aG,λh e af K _ c p=>aA h e af K c p trivial⟩
  . exact ⟨0,λ_ _ _ _ w=>absurd w V⟩
 obtain ⟨b9,bL⟩:bo λh e=>j3.length<=1000-> ∀c,Tidy c-> ∃D r,(bd c.n 9 1 j3.length r (j3.map λa=> [M a 0]) D/\Tidy r/\U c r)/\ ∀d,az G (X G R h e) 115 [ah] c d= .ok D d r:=by
  by_cases V:j3.length<=1000
  . obtain ⟨aG,aA⟩:=Ju ah j3 T u.cP V;exact ⟨aG,λh e af K _ c p=>aA h e af K c p trivial⟩
  . exact ⟨0,λ_ _ _ _ w=>absurd w V⟩
 obtain ⟨ca,bN⟩:=(Dw u).val;obtain ⟨cb,bO⟩:=dE (l:=uV s kN jv rop j3) (Q:=λj h e=>dO j s kN jv rop j3 ae->(∀a∈jv,∀c,Tidy c-> ∃o,∀d,az G (X G R h e) 117 [j,.agg a] c d= .ok (.bool o) d c)/\
   (∀a∈rop,∀c,Tidy c-> ∃o,(o=true->q2 a)/\ ∀d,az G (X G R h e) 120 [j,.agg a] c d= .ok (.bool o) d c)/\
   (∀a∈j3,∀c,Tidy c-> ∃o,∀d,az G (X G R h e) 121 [j,.agg a] c d= .ok (.bool o) d c)/\
   (∀aj ao c d,Tidy c->az G (X G R h e) 118 [j,.str aj ao] c d= .ok (.bool (my kN aj ao)) d c)) λj _=>by
  by_cases A:dO j s kN jv rop j3 ae
  . obtain ⟨bg,bC⟩:=aL.j8 (l:=jv) (f:=117) (g:=λa=> [j,.agg a]) (S:=λ_=>dI) λa i=>Vt A (u.be a i);obtain ⟨bh,bE⟩:=aL.j8 (l:=rop) (f:=120) (g:=λa=> [j,.agg a]) (S:=λa=>j9 (q2 a)) λa i=>Vx A (u.op a i);obtain ⟨bj,bG⟩:=aL.j8 (l:=j3) (f:=121) (g:=λa=> [j,.agg a]) (S:=λ_=>dI) λa i=>Vw A (u.cP a i);obtain ⟨bk,bH⟩:=sm A;refine ⟨bg+bh+bj+bk,λh e aZ a1 _=>⟨λa i c p=> ?_,λa i c p=> ?_,λa i c p=> ?_,λaj ao c d p=>bH h e ab ab (aj,ao) trivial c d p⟩⟩
    . obtain ⟨D,⟨o,rfl⟩,F⟩:=bC h e ab ab a i c p;exact ⟨o,F⟩
    . obtain ⟨D,⟨o,rfl,A⟩,F⟩:=bE h e ab ab a i c p;exact ⟨o,A,F⟩
    . obtain ⟨D,⟨o,rfl⟩,F⟩:=bG h e ab ab a i c p;exact ⟨o,F⟩
  . exact ⟨0,λ_ _ _ _ w=>absurd w A⟩
 subst bX;refine aL.run (m:=86) rfl rfl rfl rfl rfl rfl rfl rfl (b3+b4+b5+b6+b9+ca+cb+1048570) λh e cp V c p=> ?_;obtain ⟨e,rfl⟩: ∃cc,e=cc+4:=⟨e-4,ab⟩;obtain ⟨ck,-,br⟩:=af h (e+4) ab ab aw jv c u.be ab p Z.cw;obtain ⟨cl,-,bs⟩:=K h (e+4) ab ab au ae c u.bJ ab p ag.cw;obtain ⟨cm,-,bt⟩:=K h (e+4) ab ab ar kN c u.so ab p L.cw;have bu: ∀d,az G (X G R h (e+4)) 114 [ar,.fn (.func 112) [] []] c d= .ok (.bool (kN.all λa=>match a with| [.str B o]=>isName B o&& !eD.any (isStr B o)|_=>false)) d c:=
  y9 ar (.fn (.func 112) [] []) kN _ L u.so ab rfl (λ_=>rfl) rfl rfl h e ab c p rfl (λav _ aC a i d=>by obtain ⟨B,o,rfl,b2,-⟩:=u.so a i;simp only [eg,a6,fw,jj];exact bI h e ab ab (B,o) b2 av d aC)
 refine ak.bM (λd r=>c=r/\aM 87 [(1,.W 0 [ar,aw,aq,ah,au])] d) ?_ ?_
 . simp only [go_sem,L.J,Z.J,N.J,T.J,ag.J];exact an.mk ⟨rfl,dC⟩
 rintro d _ ⟨rfl,hF⟩;have b0:IntKind.i64.wrap ((rop.length:Int)+(j3.length:Int))=(rop.length:Int)+(j3.length:Int):=wrap64 _ ab ab;refine ak.bF hF (λE d r=>(c=r/\rop.length+j3.length<=200)/\E d) ?_ ?_
 . simp only [go_sem,hF,L.O,L.len]
   iterate 6 all_goals try (refine an.aE ?_ ?_<;>intro I<;>simp only [go_sem,hF,I,Z.O,Z.len,N.O,N.len,T.O,T.len,ag.O,br,bs,b0])
   all_goals first
    |exact an.stop rfl (by simp only [go_sem,hF];exact ak.gg p (U.refl _) λw=>by cases w)
    |exact an.mk ⟨⟨rfl,by simp at*;omega⟩,ay⟩
 clear hF;rintro d _ ⟨⟨rfl,bT⟩,hF⟩;refine ak.bF hF (λE d r=>c=r/\aM 87 [(3,.fn (.func 112) [] [])] d/\E d) ?_ ?_
 . simp only [go_sem];exact an.mk ⟨rfl,ay⟩
 clear hF;rintro d _ ⟨rfl,hF⟩;refine ak.kp [1] (λE d r=>(Tidy r/\U c r/\((rop.map λa=> [M a 0])++(j3.map λa=> [M a 0])).Pairwise (· ≠ ·))/\E d) ?_ ?_
 . obtain ⟨a8,bb,⟨aV,aX,aR⟩,bw⟩:=bK h (e+4) ab ab ab c p;obtain ⟨aJ,bc,⟨aW,b1,aB⟩,bx⟩:=bL h (e+4) ab ab ab bb aX;have aQ:b8 (rop.map λa=> [M a 0]):=Kg u.op;have ai:b8 (j3.map λa=> [M a 0]):=Kg u.cP;have bZ:bd c.n 9 1 rop.length bc (rop.map λa=> [M a 0]) a8:=aV.at λid ct _ I=>aB.get aX.1 I;obtain ⟨cj,bf,bB,aU,ax⟩:=bZ.app (x:=aJ) (b:=16) (k:=1) (t:=22) oe nI rfl rfl al al b1 (by have:=aR.n;have:=aB.n;omega) aQ.rows ((aW.cw (qK ai)).elems (qK ai)) ai.rows (by simp only [di];unfold b7;omega) (by simp only [di];omega);have aS:=ax.up c (aT _) (aR.trans aB);have aP:b8 ((rop.map λa=> [M a 0])++(j3.map λa=> [M a 0])):=λa i=>(cr.1 i).elim (aQ a) (ai a);obtain ⟨cn,bP,bz⟩:=K h (e+4) ab ab cj _ bf aP (by simp only [bD,di];omega) ax.tidy (aU.cw (qK aP));simp only [go_sem,hF,L.O,bt]
   iterate 3 all_goals try (refine an.aE ?_ ?_<;>intro I<;>simp only [go_sem,hF,I,L.O,N.O,T.O,bu,bw,bx,aV.O,aW.O,bB,aU.O,bz])
   all_goals first
    |exact an.stop rfl (by simp only [go_sem,hF];exact ak.gg p (U.refl _) λw=>by cases w)
    |exact an.stop rfl (by simp only [go_sem,hF];exact ak.gg p aS λw=>by cases w)
    |exact an.mk ⟨⟨ax.tidy,aS,bP de⟩,ay⟩
 clear hF;rintro d v ⟨⟨Y,bY,bW⟩,hF⟩;obtain ⟨j,⟨aK,bR⟩,bA⟩:=bN h (e+4) ab ab v Y;obtain ⟨aZ,a1,cg,ch⟩:=bO h e ab ab j bR aK;obtain ⟨aI,cu,a7,a8,aJ,cv⟩:=aK.val;refine ak.bF hF (λE d r=>v=r/\aM 87 [(4,j)] d/\E d) ?_ ?_
 . simp only [go_sem,hF,bA,aI];exact an.mk ⟨rfl,ay⟩
 clear hF;rintro d _ ⟨rfl,hF⟩;have z: ∀C,aD (.fn (.func C) [j] [])=true/\y v.n 20 (.fn (.func C) [j] [])=true:=λC=>⟨by simp [aD],by show ([j].all (y v.n 19)&& [].all (y v.n 19))=true;rw [aO,aJ v.n 18];rfl⟩;have aF: ∀aH C,Tidy (v.push (.cells (q aH) (q aH) 0 [.fn (.func C) [j] []])):=λaH C=>Y.push (by show [aa.fn (.func C) [j] []].all _=true;simp only [aO,kz (mN _) 20 _ (z C).2];rfl);obtain ⟨cd,bU⟩:=Br (f:=117) (g:=λa=> [j,.agg a]) (rows:=jv) (ad:=h) (n:=e) (H:=v.push (.cells (q 170) (q 170) 0 [.fn (.func 117) [j] []])) λa i=>aZ a i _ (aF _ _);obtain ⟨aY,aN⟩:=PY (P:=q2) (f:=120) (g:=λa=> [j,.agg a]) (rows:=rop) (ad:=h) (n:=e) (H:=v.push (.cells (q 94) (q 94) 0 [.fn (.func 120) [j] []])) λa i=>a1 a i _ (aF _ _);obtain ⟨cf,bV⟩:=Br (f:=121) (g:=λa=> [j,.agg a]) (rows:=j3) (ad:=h) (n:=e) (H:=v.push (.cells (q 94) (q 94) 0 [.fn (.func 121) [j] []])) λa i=>cg a i _ (aF _ _);have bm:=Oc aw (.fn (.func 117) [j] []) jv cd Z u.be ab (z _).1 (λ_=>rfl) rfl rfl h e ab v Y (z _).2 (λa i d=>by simp only [eg,a6,fw,bl];exact bU a i d);have bn:=F8 aq (.fn (.func 120) [j] []) rop aY N u.op ab (z _).1 (λ_=>rfl) rfl rfl h e ab v Y (z _).2 (λa i d=>by simp only [eg,a6,fw,bl];exact (aN a i).2 d);have bp:=F8 ah (.fn (.func 121) [j] []) j3 cf T u.cP ab (z _).1 (λ_=>rfl) rfl rfl h e ab v Y (z _).2 (λa i d=>by simp only [eg,a6,fw,bl];exact bV a i d);have bq: ∀d,az G (X G R h (e+4)) 114 [au,.fn (.func 118) [j] []] v d= .ok (.bool (ae.all λa=>match a with| [.str B o]=>my kN B o|_=>false)) d v:=
  y9 au (.fn (.func 118) [j] []) ae _ ag u.bJ ab (z _).1 (λ_=>rfl) rfl rfl h e ab v Y (z _).2 (λav _ aC a i d=>by obtain ⟨B,o,rfl,-⟩:=u.bJ a i;simp only [eg,a6,fw,bl,jj];exact ch B o av d aC)
 have bS: ∀o:Bool,(o=true->rop.all aY=true)->ak (j9 (nm rop j3)) bQ c (.ret (.bool o) v):=λo A=>ak.gg p bY λF=>⟨bW,λa i=>(aN a i).1 (ba.1 (A F) a i),bT⟩;simp only [go_sem,hF,Z.O,aI,a7,bm]
 iterate 4 all_goals try (refine ak.aE ?_ ?_<;>intro I<;>simp only [go_sem,hF,I,N.O,T.O,ag.O,aI,a7,bn,bp,bq])
 all_goals exact bS _ de
def Qz {E:Env} {cf:cb} {fid f t:Nat} {ops:Array Oper} {g:Array Nat} {ty:Nat} {e:String} {a:Array Edge} {tm:List aa} {H:af} {ds} (d:aD (O t (M tm t))=true):
    dv E cf fid ops [⟨none,.defer ⟨.value (.func f), #[.tmp t],g⟩,ty,e,a,none⟩] tm H ds= .normal tm H ((f,[O t (M tm t)])::ds):=by
 have b:B E tm (.tmp t)=O t (M tm t):=rfl;have c:B E tm (.func f)= .fn (.func f) [] []:=rfl;generalize O t (M tm t)=h at*;simp [dv,cJ,b,c,d,cH,bu]
def QP {E:Env} {cf:cb} {g:bU} {ad fid:Nat} {a b c:Code} {tm:List aa} {H:af} {d} {P:bP->Prop} (M:List aa->af->Prop) (j:dD M ⟨⟩ (evalCode E cf g ad fid a tm H [])) (k: ∀f e,M f e->evalCode E cf g ad fid b f e []= .normal f e d/\P (evalCode E cf g ad fid c f e [])):
    ∃r,evalCode E cf g ad fid (.seq a (.seq b c)) tm H []=mm d r/\P r:=by
 obtain ⟨f,e,h,l⟩:=j;obtain ⟨i,m⟩:=k f e l;refine ⟨_,?_,m⟩;rw [evalCode,h];simp only;rw [evalCode,i];exact QG E cf g ad fid d c f e
def an.end_ {Q:bP->Prop} {r:bP} (a:an (λ_ _=>False) Q ⟨⟩ r):Q r:=by
 rcases a with ⟨_,_,_,a⟩|⟨_,a⟩
 . exact a.elim
 . exact a
def YE {fid d:Nat} {v:aa} {tm:List aa} (a:G.loc fid d=false):cH G fid (some d) v tm=some (r tm d v):=by
 unfold cH;simp [a,nX]
def GD {cf:cb} {ad:Nat} {id:Nat} {b:Code} {i:Nat} {ty:Nat} {f:String} {d:Array Edge} {c:Option aa} {tm:List aa} {H:af}:
    k6 G cf R ad 61 (.seq (.region i #[⟨some 5,.call ⟨.builtin .recover, #[], #[]⟩,ty,f,d,none⟩] false) (.block id b)) c tm H=(evalCode G cf R ad 61 (.block id b) (r tm 5 (c.getD .dj)) H [],none):=by
 have e: ∀a tm,cH G 61 (some 5) a tm=some (r tm 5 a):=λa tm=>YE dC;simp only [k6,jN,cJ,e]
theorem GC {cf:cb} {ad id g:Nat} {H:af} {c:Option aa} {L:List aa} {H':af} (e: ∀b,f61.body=some b->k6 G cf R ad 61 b c ([.ptr id g 0 4]++List.replicate 13 (.av [])) H=(.normal L H' [],none)):mv G cf R ad 61 [.ptr id g 0 4] c H= .ok none H':=by unfold mv;rw [show G.fns 61=some f61 from rfl];have a: ∃b,f61.body=some b:=⟨_,rfl⟩;obtain ⟨b,a⟩:=a;have d:=e b a;simp only [a];rw [if_pos (by show 1<=14;decide)];rw [show List.replicate (f61.ntmps- [aa.ptr id g 0 4].length) (aa.av [])=List.replicate 13 (.av []) from rfl,d];rfl
@[go_sem ↓] theorem ad8 (E cf fid) (d ty pos b1 g tm H) (x ss a ok):evalOp E cf fid ⟨d,.typeAssert x ss a ok,ty,pos,b1,g⟩ tm H=bb (sD E (B E tm x) ss a ok) tm H:=rfl
def Ox (v):sD G (.iface 78 v) 20 78 true=some (.av [v,.bool true]):=aq
def OU:b4 G .eql 20 .dj .dj=some (.bool true):=aq
def OT (t v):b4 G .eql 20 (.iface t v) .dj=some (.bool false):=aq
theorem PI {cf:cb} {ad id g:Nat} {H:af}:mv G cf R ad 61 [.ptr id g 0 4] none H= .ok none H:=by
 refine GC (L:= ?_) λb a=> ?_
 rotate_left
 . cases a;rw [GD];simp -implicitDefEqProofs only [go_sem,Option.getD,OU];exact rfl
theorem PJ {cf:cb} {ad id g d:Nat} {H:af} {c:Int} {l m:Nat} {a b:Int} {h i j k:aa} (f:H.get id=some (.cells g d 0 [h,i,j,k])):
  mv G cf R ad 61 [.ptr id g 0 4] (some (.iface 78 (.agg [.int .i64 c,.str l m,.int .i64 a,.int .i64 b]))) H= .ok none (H.set id (.cells g g 0 [.int .i64 c,.str l m,.int .i64 a,.int .i64 b])):=by
 refine GC (L:= ?_) λb e=> ?_
 rotate_left
 . cases e;rw [GD];simp -implicitDefEqProofs only [go_sem,Option.getD,OT,Ox,f];exact rfl
structure gf (kN jv rop j3 m4:Y):Prop where
  v:nm rop j3
  s: ∀r∈rop,∀l m args ls ms st,fB r l m args ls ms st->st≠ []->pt kN jv m4 ls ms=false
def px:List aa:= [.int .i64 0,.str 0 0,.int .i64 0,.int .i64 0]
def Ay (H:af) (P:Prop) (r:bP):Prop:=(∃b a,r= .ret b a []/\M b 2= .ptr H.n (q 78) 0 4/\Tidy a/\U H a/\a.get H.n=some (.cells (q 78) (q 78) 0 px)/\P)\/
 (∃c b a,r= .aK c b a []/\M b 2= .ptr H.n (q 78) 0 4/\Tidy a/\U H a/\a.get H.n=some (.cells (q 78) (q 78) 0 px)/\fA c)
def Uf {d:List aa} {s:List aa} {kN jv rop j3 I req p cg u:Y} (C:fz d s kN jv rop j3 I req p cg u) {N:Nat} (hT:bL (eE req p cg u) N) (hN:N<50000):
    dt 36 [.agg d] (λv=> ∃c l m a b,v= .agg [.int .i64 c,.str l m,.int .i64 a,.int .i64 b]/\(c=0->gf kN jv rop j3 I)) bQ:=by
 have dB:=C.n1;have dA:=C.iN;obtain ⟨c8,bz⟩:=(Vu C).bW;obtain ⟨c9,bB⟩:=(U1 C.bT).val;obtain ⟨da,cA⟩:=(Dw C.bT).val;obtain ⟨db,cB⟩:=dE (l:=uV s kN jv rop j3) (Q:=λw h i=>dO w s kN jv rop j3 I->
   (∀r∈req,∀c e,Tidy e->dP e c d w->fK 65 [c,.agg r] h i e)/\
   (∀c e,Tidy e->dP e c d w->fK 66 [c] h i e)/\
   (∀c e,Tidy e->dP e c d w->AI 67 [c] h i e (∀r∈rop,∀l m cq cc cf bO,fB r l m cq cc cf bO->bO≠ []->pt kN jv I cc cf=false))/\
   (∀r∈u,∀c aP H e,Tidy e->dP e c d w->cG e 1 aP H->b8 H->H.length<=1048560->fK 68 [c,.agg r,aP] h i e)) λw _=>by
  by_cases aS:dO w s kN jv rop j3 I
  . obtain ⟨a8,br⟩:=dE (l:=req) (Q:=λr h i=> ∀c e,Tidy e->dP e c d w->fK 65 [c,.agg r] h i e) λr y=>by obtain ⟨c7,cS⟩:=Vk aS (C.kx r y) (N:=N) (λck cl cb a b c6 B bC bD aX=>by have:=(hT.left.left).flat (cd.2 ⟨r,y,rfl⟩);rw [B,xO bC bD,bm aX] at this;exact this) ab;exact ⟨c7,λh i bz bB c e bj aU=>cS h i bz bB c d e bj aU⟩
    obtain ⟨cm,bt⟩:=Vb aS C (N:=N) hT.left.right ab;obtain ⟨cn,bw⟩:=VQ aS C;obtain ⟨cp,bx⟩:=dE (l:=u) (Q:=λr h i=> ∀c aP H e,Tidy e->dP e c d w->cG e 1 aP H->b8 H->H.length<=1048560->fK 68 [c,.agg r,aP] h i e) λr y=>VI aS C (C.bh r y) (N:=N) (hT.right.flat (cd.2 ⟨r,y,rfl⟩)) hN;exact ⟨a8+cm+cn+cp,λh i df dg _=>⟨br h i ab ab,bt h i ab ab,bw h i ab ab,bx h i ab ab⟩⟩
  . exact ⟨0,λ_ _ _ _ aR=>absurd aR aS⟩
 obtain ⟨dc,cC⟩:=gu 2 al;obtain ⟨dd,cD⟩:=gu 16 al;have b9:=C;obtain ⟨eh,B,ai,dQ,ae,ak,bO,er,aF,⟨ag,ah,rfl,-⟩,aA,bJ,⟨Z,ad,rfl,-⟩,bI,y,⟨ao,aq,rfl,-⟩,⟨ax,ay,rfl,-⟩⟩:=C.eq;obtain ⟨ar,S,aj,T,aw,cW,bP,bU,bV,bX,bZ⟩:=C.bT.eq;subst cW;simp only [bl,a6] at aF;refine ⟨c8+c9+da+db+dc+dd+1048570,λh i dx dz e bj=> ?_⟩;obtain ⟨i,rfl⟩:=bY i;have de: ∀c,f36.body=some c-> ∃r,evalCode G (X G R h i) R h 36 c ([.agg d]++List.replicate 60 (.av [])) e []=mm [(61,[.ptr e.n (q 78) 0 4])] r/\Ay e (gf kN jv rop j3 I) r:=by
  intro c aU;cases aU;rw [aF];have dJ:(px.all J)=true:=rfl;have D:Tidy (e.push (.cells (q 78) (q 78) 0 px)):=bj.push rfl;have bK:U e (e.push (.cells (q 78) (q 78) 0 px)):=(U.refl e).push _;have bG:(e.push (.cells (q 78) (q 78) 0 px)).get e.n=some (.cells (q 78) (q 78) 0 px):=dL _ _;refine QP (λf g=>g=e.push (.cells (q 78) (q 78) 0 px)/\aM 61 [(1,.W 0 [.str ag ah,ar,S,aj,T,aw,B,ai,.str Z ad,ae,ak,.str ao aq,.str ax ay]),(2,.ptr e.n (q 78) 0 4),(3,.av [])] f) ?_ ?_
  . simp -implicitDefEqProofs only [go_sem,bP.J,bU.J,bV.J,bX.J,bZ.J,aA.J,bJ.J,bI.J,y.J];exact dD.mk ⟨rfl,w0⟩
  rintro f j ⟨b3,hF⟩;rw [<-b3] at D bK bG;clear b3;refine ⟨?_,?_⟩
  . rw [evalCode];refine Eq.trans (Qz (t:=2) (by rw [hF.2.1];rfl)) ?_;rw [hF.2.1];rfl
  have cV: ∀E g,M E 2= .ptr e.n (q 78) 0 4->Tidy g->U e g->g.get e.n=some (.cells (q 78) (q 78) 0 px)->gf kN jv rop j3 I->Ay e (gf kN jv rop j3 I) (.ret E g []):=λE g a b c d cz=> .inl ⟨E,g,rfl,a,b,c,d,cz⟩;have aN: ∀v,fA v-> ∀E g,M E 2= .ptr e.n (q 78) 0 4->Tidy g->U j g->Ay e (gf kN jv rop j3 I) (.aK v E g []):=λv bg E g K bN aG=> .inr ⟨v,E,g,rfl,K,bN,bK.trans aG,aG.get D.1 bG,bg⟩;refine an.end_ ?_;have ds:=D;obtain ⟨bo,bb⟩:=bz h i ab ab j D;obtain ⟨ch,⟨dp,rfl,cZ⟩,K⟩:=bB h i ab ab j D;obtain ⟨w,⟨b6,cN⟩,cr⟩:=cA h i ab ab j D;obtain ⟨br,bt,bw,bx⟩:=cB h i ab ab w cN b6;obtain ⟨di,ch,en,dj,dk,eo⟩:=b6.val;have ct:=λl m a b f=>cC h i ab ab l m a b j f D;have cu:=λl m a b f=>cD h i ab ab l m a b j f D;rw [aF] at bb;refine an.bM (λf g=>j=g/\aM 61 [(1,.W 0 [.str ag ah,ar,S,aj,T,aw,B,ai,.str Z ad,ae,ak,.str ao aq,.str ax ay]),(2,.ptr e.n (q 78) 0 4),(3,.W 0 [.int .i64 0,.int .i64 0])] f) ?_ ?_
  . simp -implicitDefEqProofs only [go_sem,hF];exact an.mk ⟨rfl,dm⟩
  clear hF;rintro f _ ⟨rfl,hF⟩;refine an.bF hF (λz f g=>j=g/\z f) ?_ ?_
  . simp -implicitDefEqProofs only [go_sem,hF,bb];refine an.aE ?_ ?_<;>intro bc<;>simp -implicitDefEqProofs only [go_sem,hF,bc,ct]
    all_goals first
     |exact an.mk ⟨rfl,dm⟩
     |exact an.stop rfl (aN _ (lO 2 al _ _ _ _) _ _ dm D (U.refl _))
  clear hF;rintro f _ ⟨rfl,hF⟩;refine an.bF hF (λz f g=>(j=g/\nm rop j3)/\z f) ?_ ?_
  . simp -implicitDefEqProofs only [go_sem,hF,K];refine an.aE ?_ ?_<;>intro bc<;>simp -implicitDefEqProofs only [go_sem,hF,bc,cu]
    all_goals first
     |exact an.mk ⟨⟨rfl,cZ bc⟩,dm⟩
     |exact an.stop rfl (aN _ (lO 16 al _ _ _ _) _ _ dm D (U.refl _))
  clear hF;rintro f _ ⟨⟨rfl,cL⟩,hF⟩;have aH:U j (j.push (.cells (q 123) (q 123) 0 ([.str ag ah,ar,S,aj,T,aw,B,ai,.str Z ad,ae,ak,.str ao aq,.str ax ay]++ [w]))):=(U.refl _).push _;have P:Tidy (j.push (.cells (q 123) (q 123) 0 ([.str ag ah,ar,S,aj,T,aw,B,ai,.str Z ad,ae,ak,.str ao aq,.str ax ay]++ [w]))):=D.push (by
   refine ba.2 λv bg=> ?_;simp only [bl,a6,b2,dG,or_false] at bg;rcases bg with rfl|rfl|rfl|rfl|rfl|rfl|rfl|rfl|rfl|rfl|rfl|rfl|rfl|rfl
   all_goals first
    |exact fR _ 20 20 _ al (bP.aI 19)
    |exact fR _ 20 20 _ al (bU.aI 19)
    |exact fR _ 20 20 _ al (bV.aI 19)
    |exact fR _ 20 20 _ al (bX.aI 19)
    |exact fR _ 20 20 _ al (bZ.aI 19)
    |exact fR _ 20 20 _ al (aA.aI 19)
    |exact fR _ 20 20 _ al (bJ.aI 19)
    |exact fR _ 20 20 _ al (bI.aI 19)
    |exact fR _ 20 20 _ al (y.aI 19)
    |exact dk _ _
    |rfl)
  have aW:dP (j.push (.cells (q 123) (q 123) 0 ([.str ag ah,ar,S,aj,T,aw,B,ai,.str Z ad,ae,ak,.str ao aq,.str ax ay]++ [w]))) (.ptr j.n (q 123) 0 14) d w:=⟨j.n,_,_,0,rfl,by rw [aF];exact dL _ _,aT _,by rw [aF];rfl⟩;refine an.bF hF (λz f g=>j.push (.cells (q 123) (q 123) 0 ([.str ag ah,ar,S,aj,T,aw,B,ai,.str Z ad,ae,ak,.str ao aq,.str ax ay]++ [w]))=g/\aM 61 [(4,.ptr j.n (q 123) 0 14)] f/\z f) ?_ ?_
  . simp -implicitDefEqProofs only [go_sem,hF,bP.J,bU.J,bV.J,bX.J,bZ.J,aA.J,bJ.J,bI.J,y.J,cr,di,ch,dj];exact an.mk ⟨rfl,dm⟩
  clear hF;rintro f F ⟨b4,hF⟩;rw [b4] at aH P aW;clear b4;refine an.bM (λf g=>F=g/\aM 61 [(1,.W 0 [.str ag ah,ar,S,aj,T,aw,B,ai,.str Z ad,ae,ak,.str ao aq,.str ax ay]),(2,.ptr e.n (q 78) 0 4),(4,.ptr j.n (q 123) 0 14)] f) ?_ ?_
  . simp -implicitDefEqProofs only [go_sem,hF,aA.O,aA.len];generalize cF:a1 _ _ _ _ _ _ _ _ _ _=bn;revert bn;refine hz _ _ _ _ (σ:=Unit) (λ_=> [(1,.W 0 [.str ag ah,ar,S,aj,T,aw,B,ai,.str Z ad,ae,ak,.str ao aq,.str ax ay]),(2,.ptr e.n (q 78) 0 4),(4,.ptr j.n (q 123) 0 14),(29,B)]) (λ_=>F) (λbk _=>True) 61 req.length () rfl rfl (λ_=>rfl) rfl trivial dm ab ab ?_ ?_
    . rintro bk _ f bH _ hF;obtain ⟨aZ,aL⟩:=bA bH;have aY:=aV aL;have o:=br aZ aY (.ptr j.n (q 123) 0 14) F P aW;obtain ⟨ck,cl,cb,a,b,rfl,bC,bD,⟨c6,aX,cR,-⟩,⟨ef,rfl⟩,⟨eg,rfl⟩⟩:=b9.kx aZ aY;obtain ⟨dM,ed,dV,dX,dW,dY,eu,ew,dR,dT,cE,-,-⟩:=bC.ea;obtain ⟨dN,ee,ej,df,ek,dg,ev,ey,dS,dU,cI,-,-⟩:=bD.ea;obtain ⟨rfl,c2,c4⟩:=cE.c;obtain ⟨rfl,c3,c5⟩:=cI.c;simp only [bl,a6] at aL o;simp -implicitDefEqProofs only [go_sem,hF,aA.O,aA.a_ (k:=15) aL rfl,c2.J,c4.J,c3.J,c5.J,aX.J];rcases o with o|⟨bq,aB,o⟩<;>simp -implicitDefEqProofs only [go_sem,o]
      . exact au.next () rfl trivial dm
      . exact au.stop rfl (by simp -implicitDefEqProofs only [go_sem];exact an.stop rfl (aN _ aB _ _ dm P aH))
    . intro s f L hF;simp -implicitDefEqProofs only [go_sem];exact an.mk ⟨rfl,dm⟩
  clear hF;rintro f _ ⟨rfl,hF⟩;refine an.bF hF (λz f g=>F=g/\z f) ?_ ?_
  . have o:=bt (.ptr j.n (q 123) 0 14) F P aW;simp -implicitDefEqProofs only [go_sem,hF];rcases o with o|⟨bq,aB,o⟩<;>simp -implicitDefEqProofs only [go_sem,o]
    . exact an.mk ⟨rfl,dm⟩
    . exact an.stop rfl (aN _ aB _ _ dm P aH)
  clear hF;rintro f _ ⟨rfl,hF⟩;refine an.bF hF (λz f g=>(F=g/\gf kN jv rop j3 I)/\z f) ?_ ?_
  . have o:=bw (.ptr j.n (q 123) 0 14) F P aW;simp -implicitDefEqProofs only [go_sem,hF];rcases o with ⟨cX,o⟩|⟨bq,aB,o⟩<;>simp -implicitDefEqProofs only [go_sem,o]
    . exact an.mk ⟨⟨rfl,cL,cX⟩,dm⟩
    . exact an.stop rfl (aN _ aB _ _ dm P aH)
  clear hF;rintro f _ ⟨⟨rfl,cK⟩,hF⟩;refine an.bF hF (λz f g=>F=g/\aM 61 [(7,.V)] f/\z f) ?_ ?_
  . simp -implicitDefEqProofs only [go_sem];exact an.mk ⟨rfl,dm⟩
  clear hF;rintro f _ ⟨rfl,hF⟩;refine an.kp [2] (λz f g=>(Tidy g/\U j g)/\z f) ?_ ?_
  . simp -implicitDefEqProofs only [go_sem,hF,y.O,y.len];generalize cF:a1 _ _ _ _ _ _ _ _ _ _=bn;revert bn;refine cv (σ:=aa×af) [2,4,44] (λs=> [(7,s.1)]) (λs=>s.2) (λbk s=>gw F s.2 s.1 bk) u.length (.V,F) ⟨[],bd.nil,λ_ aR=>(by cases aR),aT _,P,U.refl _⟩ (hlf:=(by have:=nV u;omega)) (hN:=(by have:=nV u;omega)) ?_ ?_
    . rintro bk ⟨v,a7⟩ f bH L hF;simp only at L hF|-;have dy:=nV u;obtain ⟨aZ,aL⟩:=bA bH;have aY:=aV aL;obtain ⟨H,b7,bE,cM,aJ,aC⟩:=id L;have o:=bx aZ aY (.ptr j.n (q 123) 0 14) v H a7 aJ (aW.up P.1 aC) (b7.cw (qK bE)) bE ab;obtain ⟨ec,ei,cb,ep,dq,a,b,rfl,⟨a8,bo,rfl,c0⟩,⟨el,cU,dF,dC⟩,⟨dK,aX,cR,dw⟩,⟨et,c1,dI,dH⟩,⟨dr,cP,dv,du⟩,⟨dZ,rfl⟩,⟨eb,rfl⟩⟩:=b9.bh aZ aY;obtain ⟨dh,cj,cx,b5⟩:=L.app (x:= .A [[.str a8 bo]] true) (aQ:= [[.str a8 bo]]) (.inl (.inr ⟨_,rfl⟩)) (λr y=>by rw [bs.1 y];exact ⟨_,_,rfl,c0⟩) (by show _+1<_;omega);simp -implicitDefEqProofs only [go_sem,hF,y.O,y.a_ (k:=7) aL rfl,cU.J,aX.J,c1.J,cP.J,L.O];rcases o with o|⟨bq,aB,o⟩<;>simp -implicitDefEqProofs only [go_sem,hF,o,L.O,cx,b5.O]
      . exact au.next (dh,cj) rfl b5 dm
      . exact au.stop rfl (by simp -implicitDefEqProofs only [go_sem];exact an.stop rfl (aN _ aB _ _ dm aJ (aH.trans aC)))
    . rintro ⟨v,a7⟩ f L hF;simp only at L hF;obtain ⟨H,b7,bE,cM,aJ,aC⟩:=L;simp -implicitDefEqProofs only [go_sem];exact an.mk ⟨⟨aJ,aH.trans aC⟩,dm⟩
  clear hF;rintro f a7 ⟨⟨aJ,aC⟩,hF⟩;have ca:a7.get e.n=some (.cells (q 78) (q 78) 0 [.int .i64 0,.str 0 0,.int .i64 0,.int .i64 0]):=aC.get D.1 bG;simp -implicitDefEqProofs only [go_sem,hF,ca];exact an.stop rfl (cV _ _ dm (aJ.set _ rfl) ((bK.trans aC).set (aT _) _) (nJ _ _ _ (by rw [ca];rfl)) cK)
 obtain ⟨r,cy,cH⟩:=de _ rfl;have b0: ∀f g c l m a b,M f 2= .ptr e.n (q 78) 0 4->g.get e.n=some (.cells (q 78) (q 78) 0 [.int .i64 c,.str l m,.int .i64 a,.int .i64 b])->hA G f36 f g= .ret (.agg [.int .i64 c,.str l m,.int .i64 a,.int .i64 b]) g:=λf g c l m a b bb K=>by
  have:hA G f36 f g=gp G [.cell 2 78] f g:=by unfold hA gp;simp only [dn,bu];rfl
  rw [this];simp -implicitDefEqProofs only [go_sem,bb,K]
 have b1: ∀c l m a b g,U e g->(∀f,X G R h (i+1) 36 [.agg d] e= .ret (.agg [.int .i64 c,.str l m,.int .i64 a,.int .i64 b]) g->az G (X G R h (i+1)) 36 [.agg d] e f= .ok (.agg [.int .i64 c,.str l m,.int .i64 a,.int .i64 b]) f e):=λc l m a b g cY f B=>by
  have cT:aD (.agg d)=true:=by rw [aF];rfl
  have cQ:=gV (v:= .agg [.int .i64 c,.str l m,.int .i64 a,.int .i64 b]) bj cY rfl;rw [jL G _ _ _ _ f rfl (by simp only [aO,cT];rfl),B];simp only [hV,show G.bS 36=false from rfl,fi g _ (.agg [.int .i64 c,.str l m,.int .i64 a,.int .i64 b]) (fr 20 bR _ al rfl),cQ];rfl
 have bp:=lN G R h i 36 60 [.agg d] e f36 _ rfl rfl rfl rfl;rw [cy] at bp;rcases cH with ⟨E,g,rfl,K,bN,aG,bf,cJ⟩|⟨v,E,g,rfl,K,bN,aG,bf,⟨c,l,m,a,b,rfl,aU⟩⟩
 . refine .inl ⟨_,⟨0,0,0,0,0,rfl,λ_=>cJ⟩,λf=>b1 _ _ _ _ _ g aG f ?_⟩;rw [bp];simp only [mm,a6,finish,mO,PI];exact b0 _ _ _ _ _ _ _ K bf
 . refine .inl ⟨_,⟨c,l,m,a,b,rfl,λaR=>absurd aR aU⟩,λf=>b1 c l m a b (g.set e.n (.cells (q 78) (q 78) 0 [.int .i64 c,.str l m,.int .i64 a,.int .i64 b])) (aG.set (aT _) _) f ?_⟩;rw [bp];have cO:mv G (X G R h i) R h 61 [.ptr e.n (q 78) 0 4] (some (.iface 78 (.agg [.int .i64 c,.str l m,.int .i64 a,.int .i64 b]))) g=_:=PJ bf;simp only [mm,a6,finish,mO,cO];exact b0 _ _ _ _ _ _ _ K (nJ _ _ _ (by rw [bf];rfl))
def U3 {d:List aa} {s:List aa} {kN jv rop j3 f req p e u:Y} (a:fz d s kN jv rop j3 f req p e u) {N:Nat} (hT:bL (eE req p e u) N) (hN:N<50000):
    dt 17 [.agg d] (j9 (gf kN jv rop j3 f)) bQ:=by
 obtain ⟨t,j⟩:=(Uf a hT hN).val;obtain ⟨T,G,W,L,R,Z,ag,aj,b,⟨S,V,rfl,-⟩,l,o,⟨M,O,rfl,-⟩,n,q,⟨ad,ae,rfl,-⟩,⟨al,an,rfl,-⟩⟩:=a.eq;obtain ⟨af,E,X,H,ai,r,x,y,z,A,B⟩:=a.bT.eq;subst r;simp only [bl,a6] at b;subst b;refine aL.run (m:=6) rfl rfl rfl rfl rfl rfl rfl rfl t λv w I K g c=> ?_;obtain ⟨ah,⟨F,P,Q,C,D,rfl,k⟩,h⟩:=j v w ab ab g c;simp -implicitDefEqProofs only [go_sem,x.J,y.J,z.J,A.J,B.J,l.J,o.J,n.J,q.J,h];exact ak.gg c (U.refl _) λi=>k (by simpa using i)
structure ec (K:Nat) (H:af) (fv:aa):Prop where
  nl:aD fv=true
  op: ∀t,O t fv=fv
  ok:J fv=true
  cs:fv.cells= [fv]
  ids:y H.n 20 fv=true
  f: ∃f a c,fv= .fn (.func f) a c
  call: ∀ad n,K<=ad->K<=n-> ∀H',U H H'->Tidy H'-> ∀l m tm,T l m->l<4611686018427387904->cx G (X G R ad n) fv [.str l m] H' tm= .ok (.str l m) tm H'
def ec.up {b:Nat} {H H' fv} (a:ec b H fv) (c:U H H'):ec b H' fv:=⟨a.nl,a.op,a.ok,a.cs,kz c.n 20 fv a.ids,a.f,λi j e g d h=>a.call i j e g d (c.trans h)⟩
def CA {f:Nat} {args:List aa} {ad n:Nat} {H:af} {v:aa} (b: ∃w H',(w=v/\H'=H)/\ ∀tm,az G (X G R ad n) f args H tm= .ok w tm H'): ∀tm,az G (X G R ad n) f args H tm= .ok v tm H:=by
 obtain ⟨w,H',⟨rfl,rfl⟩,a⟩:=b;exact a
def ec.mono {b L:Nat} {H fv} (a:ec b H fv) (h:b<=L):ec L H fv:=⟨a.nl,a.op,a.ok,a.cs,a.ids,a.f,λc d e g=>a.call c d ab ab⟩
def Tn (H:af):ec 1 H (.fn (.func 75) [] []):=by
 refine ⟨rfl,λ_=>rfl,rfl,rfl,rfl,⟨_,_,_,rfl⟩,λg a _ e d _ b f h c _ _=> ?_⟩;obtain ⟨a,rfl⟩:=bY a;simp only [eg,a6,fw];refine CA (bn.at (m:=3) (rs:= [.tmp 2]) rfl rfl rfl rfl rfl rfl rfl rfl ?_) c;simp only [go_sem];exact bn.mk ⟨rfl,gV b (U.refl _) rfl⟩
def To (H:af):ec 1 H (.fn (.func 288) [] []):=by
 refine ⟨rfl,λ_=>rfl,rfl,rfl,rfl,⟨_,_,_,rfl⟩,λg a _ e d _ b f h c _ _=> ?_⟩;obtain ⟨a,rfl⟩:=bY a;simp only [eg,a6,fw];refine jQ (aL.at (m:=3) (rs:= [.tmp 2]) rfl rfl rfl rfl rfl rfl rfl rfl ?_) c;simp only [go_sem];exact ak.mk rfl rfl b (U.refl _)
def IJ {H:af} {p:Nat} {fv:aa} {g b:Nat} (j:H.get p=some (.cells g b 0 [fv])) (h:b<=g) (o:H.l.length=H.n) {a:Nat} (u:1<=a) (i: ∀ad n,a<=ad->a<=n-> ∀H',U H H'->Tidy H'-> ∀l m tm,T l m->l<4611686018427387904->cx G (X G R ad n) fv [.str l m] H' tm= .ok (.str l m) tm H') (r: ∀t,O t fv=fv):
    ∀ad n,a+1<=ad->a+1<=n-> ∀H',U H H'->Tidy H'-> ∀l m tm,T l m->l<4611686018427387904->cx G (X G R ad n) (.fn (.func 145) [] [.ptr p g 0 1]) [.str l m] H' tm= .ok (.str l m) tm H':=by
 intro ad n v w H' c d l m tm s q;obtain ⟨n,rfl⟩:=bY n;have k:=c.get o j;have e:=λtm=>i ad n ab ab H' c d l m tm s q;simp only [eg,a6,bl];refine CA (bn.at (m:=8) (rs:= [.tmp 3]) rfl rfl rfl rfl rfl rfl rfl rfl ?_) tm;simp only [go_sem];refine bn.aE ?_ ?_<;>intro f<;>simp only [go_sem,f,k,h,r,e]
 all_goals exact bn.mk ⟨rfl,gV d (U.refl _) rfl⟩
def L_ {l m:Nat} (a:T l m):e_ l m+jM l m=l/\fL l m+k5 l m<<<(8*e_ l m)=m:=by
 unfold e_ jM fL k5
 cases d:jk l m with
 |false=>simp
 | true=>
   have e:2<l:=by simp [jk] at d;omega
   simp only [if_true];refine ⟨ab,?_⟩;have b:l-(l-2)=2:=ab;rw [b];have f:m<2^(8*l):=by unfold T at a;rwa [show (256:Nat)=2^8 from rfl,<-vW] at a
   have c:m>>>(8*(l-2))<2^(8*2):=by
    rw [yZ];refine Nat.div_lt_of_lt_mul ?_;rw [<-Nat.pow_add]
    rwa [show 8*(l-2)+8*2=8*l by omega]
   rw [tE c,yY,yZ,Nat.add_comm,rK];have:=yU m (2^(8*(l-2)))
   rwa [rK] at this|-
def Tp {H:af} {p:Nat} {fv:aa} {g d:Nat} (s:H.get p=some (.cells g d 0 [fv])) (q:d<=g) (v:H.l.length=H.n) {a:Nat} (y:1<=a) (r: ∀ad n,a<=ad->a<=n-> ∀H',U H H'->Tidy H'-> ∀l m tm,T l m->l<4611686018427387904->cx G (X G R ad n) fv [.str l m] H' tm= .ok (.str l m) tm H') (x: ∀t,O t fv=fv):
    ∀ad n,a+1<=ad->a+1<=n-> ∀H',U H H'->Tidy H'-> ∀l m tm,T l m->l<4611686018427387904->cx G (X G R ad n) (.fn (.func 146) [] [.ptr p g 0 1]) [.str l m] H' tm= .ok (.str l m) tm H':=by
 intro ad n z A H' f b l m tm e w;obtain ⟨n,rfl⟩:=bY n;have u:=f.get v s;obtain ⟨c,h⟩:=L_ e;have o:T (e_ l m) (fL l m):=by unfold e_ fL;split;exact T.mod _ _;exact e
 have j:=λtm=>r ad n ab ab H' f b (e_ l m) (fL l m) tm o ab;have k: ∀tm,az G (X G R ad n) 147 [.str l m] H' tm= .ok (.av [.str (e_ l m) (fL l m),.str (jM l m) (k5 l m)]) tm H':=λtm=>MR ad n ab ab (l,m) w H' tm b;have i:e_ l m+jM l m<=ht:=by rw [c];unfold ht;omega
 simp only [eg,a6,bl];refine CA (bn.at (m:=14) (rs:= [.tmp 3]) rfl rfl rfl rfl rfl rfl rfl rfl ?_) tm;simp only [go_sem,u,q,x,j,k,i];rw [c,h];exact bn.mk ⟨rfl,gV b (U.refl _) rfl⟩
def Tq {H:af} {p:Nat} {fv:aa} {g d:Nat} (s:H.get p=some (.cells g d 0 [fv])) (q:d<=g) (v:H.l.length=H.n) {a:Nat} (y:1<=a) (r: ∀ad n,a<=ad->a<=n-> ∀H',U H H'->Tidy H'-> ∀l m tm,T l m->l<4611686018427387904->cx G (X G R ad n) fv [.str l m] H' tm= .ok (.str l m) tm H') (x: ∀t,O t fv=fv):
    ∀ad n,a+1<=ad->a+1<=n-> ∀H',U H H'->Tidy H'-> ∀l m tm,T l m->l<4611686018427387904->cx G (X G R ad n) (.fn (.func 225) [] [.ptr p g 0 1]) [.str l m] H' tm= .ok (.str l m) tm H':=by
 intro ad n z A H' f b l m tm e w;obtain ⟨n,rfl⟩:=bY n;have u:=f.get v s;obtain ⟨c,h⟩:=L_ e;have o:T (e_ l m) (fL l m):=by unfold e_ fL;split;exact T.mod _ _;exact e
 have j:=λtm=>r ad n ab ab H' f b (e_ l m) (fL l m) tm o ab;have k: ∀tm,az G (X G R ad n) 147 [.str l m] H' tm= .ok (.av [.str (e_ l m) (fL l m),.str (jM l m) (k5 l m)]) tm H':=λtm=>MR ad n ab ab (l,m) w H' tm b;have i:e_ l m+jM l m<=ht:=by rw [c];unfold ht;omega
 simp only [eg,a6,bl];refine jQ (aL.at (m:=14) (rs:= [.tmp 3]) rfl rfl rfl rfl rfl rfl rfl rfl ?_) tm;simp only [go_sem,u,q,x,j,k,i];rw [c,h];exact ak.mk rfl rfl b (U.refl _)
def aN.RZ {r:List aa} (b:aN r): ∀v∈r,D 19 v=true:=λv a=>by
 obtain ⟨i,l,e,f,g,h,m,n,j,k,rfl,c,d⟩:=b.t;simp only [b2,dG,or_false] at a;rcases a with rfl|rfl|rfl|rfl|rfl|rfl
 . rfl
 . rfl
 . rfl
 . rfl
 . exact c.aI 18
 . exact d.aI 18
def FE (r:List aa) (ad n:Nat):Prop:= ∀(a:af) (c d b:aa),Tidy a->ec 10 a c->ec 10 a d->ec 10 a b-> ∃e,aN e/\ ∀f,az G (X G R ad n) 226 [.agg r,c,d,b] a f= .ok (.agg e) f a
def Jo (rows:Y) (ai: ∀r∈rows,aN r) (ag:rows.length<1048560) (ae:bo λad n=> ∀r∈rows,FE r ad n):
    bo λad n=> ∀x H p q h i j l f g fn,Tidy H->F x rows->H.get p=some (.cells h j 0 [f])->j<=h->H.get q=some (.cells i l 0 [fn])->l<=i->ec 10 H f->ec 10 H g->ec 10 H fn->
     ∃v,oB (λ_=>True) v/\ ∀tm,az G (X G R ad n) 287 [x,g,.ptr p h 0 1,.ptr q i 0 1] H tm= .ok v tm H:=by
 obtain ⟨an,T⟩:=ae;refine ⟨an+1048570,λad n aA aB x H p q h i j l f g fn hT e ao P ar Q B o z=> ?_⟩;obtain ⟨n,rfl⟩:=bY n;refine hg (aL.at (m:=22) rfl rfl rfl rfl rfl (by simp only [aO,e.aD,o.nl];rfl) rfl rfl ?_);simp only [go_sem,e.O,e.len];have hF:=trivial;generalize ax:a1 _ _ _ _ _ _ _ _ _ _=K;revert K;refine cv [1,2,3,10] (λb=> [(7,b.1)]) (λb=>b.2) (λC b=>eN (λ_=>True) H b.2 b.1 C) rows.length (.V,H) (eN.new _ H hT) ?_ ?_
 . rintro C ⟨v,c⟩ tm af a hF;simp only at a hF|-;obtain ⟨r,y⟩:=bA af;have u:=aV y;have W:Tidy c/\U H c:=by obtain ⟨D,-,-,-,L,M⟩:=a;exact ⟨L,M⟩
   obtain ⟨Z,d⟩:=W;obtain ⟨E,w,N⟩:=T ad n ab ab r u c f g fn Z (B.up d) (o.up d) (z.up d);have aq:=d.get hT.1 ao;have av:=d.get hT.1 ar;have aa:=jc w c;obtain ⟨aw,I,S,s⟩:=a.app (x:= .A [E] true) (aQ:= [E]) (.inl (.inr ⟨_,rfl⟩)) (λD ah=>by rw [bs.1 ah];exact ⟨w,trivial⟩) (by show _+1<_;omega);obtain ⟨aJ,aK,aC,aE,aF,aG,aM,D,aI,aH,rfl,al,aj⟩:=(ai r u).t;simp only [go_sem,hF,e.O,e.a_ (k:=6) y rfl,al.J,aj.J,aq,P,av,Q,B.op,o.op,z.op,a.O,N,aa,bH,S,s.O];exact au.next (aw,I) rfl s ay
 . rintro ⟨v,c⟩ tm a hF;simp only at a hF;simp only [go_sem,hF,a.O,a.nl,dX,if_true];exact ak.B_ hT a ag
def VM {r:List aa} {n:Nat} (B:e1 r n):n<1048560-> ∃k,∀ad h,k<=ad->k<=h->FE r ad h:=by
 induction B with
 | @mk r k n u v z A ae P F G I e R S az aA=>
 intro aG;have aw:(F++G).length<=((F++G).map I).sum:=qq λd f=>((cr.1 f).elim (R d) (S d)).pos;have T: ∀d∈F++G,I d<=((F++G).map I).sum:=λd f=>o3 f;rw [bD] at aw;obtain ⟨aB,ar⟩:=Jo F (λd f=>(R d f).i0) ab (dE λd f=>az d f (by have:=T d (hP _ f);omega));obtain ⟨aC,au⟩:=Jo G (λd f=>(S d f).i0) ab (dE λd f=>aA d f (by have:=T d (h7 _ f);omega));refine ⟨aB+aC+20,λad h aH aJ b l Q j X s E p=> ?_⟩;obtain ⟨h,rfl⟩:=bY h;have ax:Tidy (b.push (.cells (q 130) (q 130) 0 [l])):=X.push (by show [l].all _=true;simp only [aO,kz (mN _) 20 l s.ids];rfl);have C:Tidy ((b.push (.cells (q 130) (q 130) 0 [l])).push (.cells (q 130) (q 130) 0 [j])):=ax.push (by have ai:y ((b.push (.cells (q 130) (q 130) 0 [l])).n+1) 20 j=true:=kz (by simp [lq];omega) 20 j p.ids;show [j].all _=true;simp only [aO,ai];rfl);have o:U b ((b.push (.cells (q 130) (q 130) 0 [l])).push (.cells (q 130) (q 130) 0 [j])):=((U.refl b).push _).push _;have K:=ta b (.cells (q 130) (q 130) 0 [l]) (.cells (q 130) (q 130) 0 [j]);have L:((b.push (.cells (q 130) (q 130) 0 [l])).push (.cells (q 130) (q 130) 0 [j])).get (b.n+1)=some (.cells (q 130) (q 130) 0 [j]):=dL (b.push _) _;generalize av:(b.push (.cells (q 130) (q 130) 0 [l])).push (.cells (q 130) (q 130) 0 [j])=g at*;obtain ⟨H,⟨aP,w,aD,aK⟩,aj⟩:=ar ad h ab ab ae g _ _ _ _ _ _ _ Q _ C e.dh K (aT _) L (aT _) (s.up o) (E.up o) (p.up o);obtain ⟨N,⟨aQ,x,aF,aN⟩,ao⟩:=au ad h ab ab P g _ _ _ _ _ _ _ (.fn (.func 288) [] []) _ C e.cq K (aT _) L (aT _) (s.up o) ((To g).mono al) (p.up o);have af:=λa=>s.call ad h ab ab g o C u v a e.c5 e.s1;have ag:=λa=>p.call ad h ab ab g o C u v a e.c5 e.s1;have ah:=λa=>E.call ad h ab ab g o C z A a e.pw e.s2;refine ⟨[.int .i64 k,.int .i64 n,.str u v,.str z A,H,N],.mk ⟨rfl,e.c5,e.pw,e.s1,e.s2,w,x,ab,ab⟩ (λr B=>(aD r B).1) (λr B=>(aF r B).1),?_⟩;obtain ⟨rfl,Y,Z⟩:=e.c;refine jQ (aL.at (m:=48) (rs:= [.cell 8 35]) rfl rfl rfl rfl rfl (by simp only [aO,s.nl,E.nl,p.nl];rfl) rfl rfl ?_);refine ak.bM (λa i=>g=i/\aM 52 [(2,Q),(5,.ptr b.n (q 130) 0 1),(7,.ptr (b.n+1) (q 130) 0 1),(8,.W 0 [.int .i64 0,.int .i64 0,.str 0 0,.str 0 0,.V,.V]),(4,.W 0 [.int .i64 k,.int .i64 n,.str u v,.str z A,ae,P])] a) ?_ ?_
 . simp only [go_sem,Y.J,Z.J,s.op,s.ok,s.cs,p.op,p.ok,p.cs,av];exact an.mk ⟨rfl,dC⟩
 rintro a _ ⟨rfl,hF⟩;refine ak.bF hF (λt a i=>g=i/\t a) ?_ ?_
 . simp only [go_sem,hF]
   iterate 4 all_goals try (refine an.aE ?_ ?_<;>intro aq<;>simp only [go_sem,hF,aq,K,L,s.op,E.op,p.op,af,ag,ah])
   all_goals exact an.mk ⟨rfl,ay⟩
 clear hF;rintro a _ ⟨rfl,hF⟩;refine ak.bF hF (λt a i=>g=i/\aM 52 [(9,.fn (.func 287) [] [.ptr b.n (q 130) 0 1,.ptr (b.n+1) (q 130) 0 1])] a/\t a) ?_ ?_
 . simp only [go_sem,hF];exact an.mk ⟨rfl,ay⟩
 clear hF;rintro a _ ⟨rfl,hF⟩;refine ak.kp [2,5,7,8] (λt a i=>g=i/\M a 4= .W 0 [.int .i64 k,.int .i64 n,.str u v,.str z A,H,P]/\M a 9= .fn (.func 287) [] [.ptr b.n (q 130) 0 1,.ptr (b.n+1) (q 130) 0 1]/\t a) ?_ ?_
 . simp only [go_sem,hF,E.op,Y.O,aj,w.O,w.J,w.cells];exact an.mk ⟨rfl,ay⟩
 clear hF;rintro a _ ⟨rfl,hF⟩;refine ak.kp [2,5,7,8,9] (λt a i=>g=i/\M a 4= .W 0 [.int .i64 k,.int .i64 n,.str u v,.str z A,H,N]/\t a) ?_ ?_
 . simp only [go_sem,hF,Z.O,ao,x.O,x.J,x.cells];exact an.mk ⟨rfl,ay⟩
 clear hF;rintro a _ ⟨rfl,hF⟩;simp only [go_sem,hF,w.J,x.J];exact ak.mk rfl (by show (([.int .i64 k,.int .i64 n,.str u v,.str z A,H,N]:List aa).all (D 19))=true;simp only [aO,w.aI 18,x.aI 18];rfl) X o
def Tr {a:Nat} (e:1<=a) {H:af} {p:Nat} {fv:aa} {g b:Nat} (d:H.get p=some (.cells g b 0 [fv])) (h:b<=g) (i:H.l.length=H.n) (c:ec a H fv):ec (a+1) H (.fn (.func 225) [] [.ptr p g 0 1]):=
 ⟨rfl,λ_=>rfl,rfl,rfl,by have f:Nat.blt p H.n=true:=h_ (gW d);show ([].all (y H.n 19)&& [aa.ptr p g 0 1].all (y H.n 19))=true;simp only [aO,jm,y,f];rfl,⟨_,_,_,rfl⟩,Tq d h i e c.call c.op⟩
def l9 (r:List aa) (ad n:Nat):Prop:= ∀(a:af) (b:aa),Tidy a->ec 9 a b-> ∃c,aN c/\ ∀d,az G (X G R ad n) 150 [b,.agg r] a d= .ok (.agg c) d a
def Jn {r:List aa} {n:Nat} (l:e1 r n) (hN:n<1048560): ∃k,∀ad d,k<=ad->k<=d->l9 r ad d:=by
 obtain ⟨E,v⟩:=VM l hN;refine ⟨E+20,λad d H I b a o c=> ?_⟩;obtain ⟨d,rfl⟩:=bY d;have p:Tidy (b.push (.cells (q 192) (q 192) 0 [a])):=o.push (by show [a].all _=true;simp only [aO,kz (mN _) 20 a c.ids];rfl);have g:U b (b.push (.cells (q 192) (q 192) 0 [a])):=(U.refl b).push _;have s:(b.push (.cells (q 192) (q 192) 0 [a])).get b.n=some (.cells (q 192) (q 192) 0 [a]):=dL _ _;have F: ∀e,b.push (.cells (q 192) (q 192) 0 [a])=e->e=e:=λ_ _=>rfl;generalize w:b.push (.cells (q 192) (q 192) 0 [a])=e at*;obtain ⟨h,f,u⟩:=v ad d ab ab e _ a a p (Tr al s (aT _) p.1 (c.up g)) ((c.up g).mono al) ((c.up g).mono al);refine ⟨h,f,jQ (aL.at (m:=10) (rs:= [.cell 4 35]) rfl rfl rfl rfl rfl (by simp only [aO,c.nl];rfl) rfl rfl ?_)⟩;obtain ⟨X,Z,K,L,M,N,af,ah,S,V,rfl,z,A⟩:=l.i0.t;have y:=f.row;have G:h.all J=true:=ba.2 λj i=>(y.2 j i).1;have x:D 20 (.agg h)=true:=by show h.all (D 19)=true;exact ba.2 λj i=>aN.RZ f j i
 obtain ⟨Y,ae,O,P,Q,R,ag,ai,T,W,rfl,B,C⟩:=f.t;simp only [go_sem,z.J,A.J,B.J,C.J,c.op,c.ok,c.cs,w,s,u];exact ak.mk rfl x o g
def y_ (rows:Y) (P: ∀r∈rows,aN r) (L:rows.length<1048560) (I:bo λad n=> ∀r∈rows,l9 r ad n):
    bo λad n=> ∀x H e,Tidy H->F x rows->ec 9 H e-> ∃v,oB (λ_=>True) v/\ ∀tm,az G (X G R ad n) 151 [e,x] H tm= .ok v tm H:=by
 obtain ⟨T,B⟩:=I;refine ⟨T+1048570,λad n aa ae x H e hT d f=> ?_⟩;obtain ⟨n,rfl⟩:=bY n;refine hg (aL.at (m:=20) rfl rfl rfl rfl rfl (by simp only [aO,d.aD,f.nl];rfl) rfl rfl ?_);simp only [go_sem,d.O,d.len];have hF:=trivial;generalize Z:a1 _ _ _ _ _ _ _ _ _ _=s;revert s;refine cv [0,8] (λb=> [(5,b.1)]) (λb=>b.2) (λl b=>eN (λ_=>True) H b.2 b.1 l) rows.length (.V,H) (eN.new _ H hT) ?_ ?_
 . rintro l ⟨v,c⟩ tm K a hF;simp only at a hF|-;obtain ⟨r,j⟩:=bA K;have h:=aV j;have C:Tidy c/\U H c:=by obtain ⟨o,-,-,-,u,w⟩:=a;exact ⟨u,w⟩
   obtain ⟨D,N⟩:=C;obtain ⟨p,i,y⟩:=B ad n ab ab r h c e D (f.up N);have E:=jc i c;obtain ⟨W,q,z,g⟩:=a.app (x:= .A [p] true) (aQ:= [p]) (.inl (.inr ⟨_,rfl⟩)) (λo M=>by rw [bs.1 M];exact ⟨i,trivial⟩) (by show _+1<_;omega);obtain ⟨an,ao,af,ag,ah,ai,aq,o,al,aj,rfl,S,Q⟩:=(P r h).t;simp only [go_sem,hF,d.O,d.a_ (k:=6) j rfl,S.J,Q.J,f.op,a.O,y,E,bH,z,g.O];exact au.next (W,q) rfl g ay
 . rintro ⟨v,c⟩ tm a hF;simp only at a hF;simp only [go_sem,hF,a.O,a.nl,dX,if_true];exact ak.B_ hT a L
def hi (el k:Nat) (b H:af) (v:aa) (B:Nat):Prop:= ∃a,bd b.n el k a.length H a v/\Rows k a/\a.length<=B/\Tidy H/\U b H
def hi.O {el k b H v B} (a:hi el k b H v B) (t):O t v=v:=by obtain ⟨c,a,-⟩:=a;exact a.O t
def hi.nl {el k b H v B} (a:hi el k b H v B):aD v=true:=by obtain ⟨c,a,-⟩:=a;exact a.aD
def hi.ok {el k b H v B} (a:hi el k b H v B):v.cells= [v]/\J v=true:=by obtain ⟨c,a,-⟩:=a;exact a.cells
def hi.new (el k:Nat) (H:af) (b:Tidy H):hi el k H H .V 0:=⟨[],bd.nil,λ_ a=>(by cases a),aT _,b,U.refl _⟩
def hi.app {t el k b:Nat} {i:TypeInfo} {c H v B} (z:aW G t=some (.slice el)) (hT:G.T el=some i) (s:i.size=k) (p:i.bytes=b) (u:0<k) (q:b<=4096) (o:hi el k c H v B) {r:List aa} (w:r.length=k/\ ∀v∈r,J v=true/\D 20 v=true) (F:B+1<1048560):
    ∃a H',cI G t t v (.A [r] true) H=some (a,H')/\hi el k c H' a (B+1):=by
 obtain ⟨g,C,l,I,y,j⟩:=o;have e:Rows k [r]:=λf d=>by rw [bs.1 d];exact w
 obtain ⟨a,H',m,E,h⟩:=C.app (x:= .A [r] true) (aQ:= [r]) z hT s p u q y j.n l (dR (.inr ⟨_,rfl⟩) e.len) e (by have:(g.length+ [r].length)*(b+1)<=1048560*4097:=kF (by show g.length+1<=_;omega) ab;unfold b7;omega) (by show _+1<_;omega);exact ⟨a,H',m,g++ [r],by rw [bD];exact E,λf d=>(cr.1 d).elim (l f) (e f),by rw [bD];show _+1<=_;omega,h.tidy,h.up c (aT _) j⟩
def xi (k:Nat) (v:aa):Prop:= ∃a,F v a/\Rows k a/\a.length<1048560
def ak.Sr {el k a H v B} (d:0<k) (g:Tidy a) (b:hi el k a H v B) (i:B<1048560):ak (xi k) bQ a (.ret v H):=by
 obtain ⟨h,f,c,j,l,e⟩:=b;exact ak.W d g c f (aT _) e λm b=>⟨h,b,c,ab⟩
def O2 {r} (a:r.length=10/\ ∀v∈r,J v=true/\D 20 v=true) (H:af):cT G 28 1 [(0,.agg r)] H=some (.A [r] true,H):=
 mo (E:=G) (t:=28) (el:=83) (k:=10) (H:=H) (z:= .agg [.str 0 0,.str 0 0,.int .i64 0,.int .i64 0,.str 0 0,.str 0 0,.V,.V,.int .i64 0,.int .i64 0]) aq aq aq al rfl al (.agg r) ⟨a.1,ba.2 λv b=>(a.2 v b).1,ba.2 λv b=>(a.2 v b).2⟩
def Jm (rows:Y) (aj: ∀r∈rows,iz r) (ah:rows.length<1048560) (af:bo λad n=> ∀r∈rows,l9 (dQ r) ad n):
    bo λad n=> ∀x H g,Tidy H->F x rows->ec 9 H g-> ∃v,xi 10 v/\ ∀tm,az G (X G R ad n) 149 [g,x] H tm= .ok v tm H:=by
 obtain ⟨aw,aa⟩:=af;refine ⟨aw+1048570,λad n aF aG x H g hT e f=> ?_⟩;obtain ⟨n,rfl⟩:=bY n;refine hg (aL.at (m:=33) rfl rfl rfl rfl rfl (by simp only [aO,e.aD,f.nl];rfl) rfl rfl ?_);simp only [go_sem,e.O,e.len];have hF:=trivial;generalize aE:a1 _ _ _ _ _ _ _ _ _ _=Q;revert Q;refine cv [0,8] (λd=> [(5,d.1)]) (λd=>d.2) (λM d=>hi 83 10 H d.2 d.1 M) rows.length (.V,H) (hi.new _ _ H hT) ?_ ?_
 . rintro M ⟨v,c⟩ tm ag a hF;simp only at a hF|-;obtain ⟨r,s⟩:=bA ag;have I:=aV s;have ae:Tidy c/\U H c:=by obtain ⟨ax,-,-,-,S,T⟩:=a;exact ⟨S,T⟩
   obtain ⟨q,u⟩:=ae;obtain ⟨N,K,A⟩:=aa ad n ab ab r I c g q (f.up u);obtain ⟨aB,aC,z,o,p,rfl,⟨h,j,rfl,w⟩,⟨i,l,rfl,y⟩,C,⟨o,rfl⟩,⟨p,rfl⟩⟩:=aj r I;rw [show dQ ([.str h j,.str i l]++z++ [.int .i64 o,.int .i64 p])=z by unfold dQ;rw [fu,qh ai];simp [C.len]] at A;have L:=iz.row (r:= [.str h j,.str i l]++N++ [.int .i64 o,.int .i64 p]) ⟨_,_,N,_,_,rfl,⟨_,_,rfl,w⟩,⟨_,_,rfl,y⟩,K,⟨_,rfl⟩,⟨_,rfl⟩⟩;have E:=O2 L c;obtain ⟨aA,P,B,D⟩:=a.app (t:=28) (b:=144) aq B4 rfl rfl al al L ab;have W:=λtm=>f.call ad n ab ab c u q h j tm w.1 w.2;have Z:=λtm=>f.call ad n ab ab c u q i l tm y.1 y.2;obtain ⟨aW,aY,aH,aI,aJ,aK,a7,ax,aS,aR,rfl,ao,an⟩:=C.t;obtain ⟨aX,aZ,aM,aN,aP,aQ,a8,ba,aT,aU,rfl,ar,av⟩:=K.t;simp only [bl,a6] at s E B;simp only [go_sem,hF,e.O,e.a_ (k:=10) s rfl,ao.J,an.J,ar.J,av.J,f.op,W,Z,a.O,A,E,bH,B,D.O];exact au.next (aA,P) rfl D ay
 . rintro ⟨v,c⟩ tm a hF;simp only at a hF;simp only [go_sem,hF,a.O,a.nl,dX,if_true];exact ak.Sr al hT a ah
def xx {r} (a:r.length=11/\ ∀v∈r,J v=true/\D 20 v=true) (H:af):cT G 61 1 [(0,.agg r)] H=some (.A [r] true,H):=
 mo (E:=G) (t:=61) (el:=85) (k:=11) (H:=H) (z:= .agg [.str 0 0,.str 0 0,.int .i64 0,.int .i64 0,.str 0 0,.str 0 0,.V,.V,.V,.int .i64 0,.int .i64 0]) aq aq aq al rfl al (.agg r) ⟨a.1,ba.2 λv b=>(a.2 v b).1,ba.2 λv b=>(a.2 v b).2⟩
def O3 {v} (a:J v=true/\D 20 v=true) (H:af):cT G 62 1 [(0,.agg [v])] H=some (.A [[v]] true,H):=
 mo (E:=G) (t:=62) (el:=114) (k:=1) (H:=H) (z:= .agg [.V]) aq aq aq al rfl al (.agg [v]) ⟨rfl,by show [v].all J=true;simp [a.1],by show [v].all (D 20)=true;simp [a.2]⟩
def oB.aI {A v} (b:oB A v):(∀t,O t v=v)/\J v=true/\v.cells= [v]/\ ∀d,D (d+1) v=true:=by
 obtain ⟨c,a,-⟩:=b;exact ⟨a.O,a.J,a.cells,a.aI⟩
def Vi {r:List aa} (aj:lI r) {N:Nat} (hT:bL (pf r) N) (hN:N<50000):bo λad n=> ∀H d,Tidy H->ec 9 H d-> ∃ah,(ah.length=7/\ ∀v∈ah,J v=true/\D 20 v=true)/\ ∀tm,az G (X G R ad n) 152 [d,.agg r] H tm= .ok (.agg ah) tm H:=by
 obtain ⟨ea,bE,z,a,bZ,aF,aG,rfl,⟨j,q,rfl,cz⟩,⟨bG,aK,cT,dR⟩,⟨c9,bt,cR,dO⟩,⟨cm,aN,cX,dT⟩,⟨cq,aY,cQ,dN⟩,⟨B,rfl⟩,⟨C,rfl⟩⟩:=aj;rw [LA aK bt aN] at hT;have cS:=hT.len;simp only [bD,di] at cS;have b4:=hT.right;have bq: ∀ {bK:Y},bL bK N->bo λad n=> ∀r∈bK,l9 r ad n:=λs=>dE λr aj=>Jn (s.g_ aj).1 (by have:=(s.g_ aj).2;omega);obtain ⟨df,bk⟩:=dE (l:=bG) (Q:=λf ad n=>l9 (dd f) ad n/\ ∀ai H d,Tidy H->F ai (cu f)->ec 9 H d-> ∃v,oB (λ_=>True) v/\ ∀tm,az G (X G R ad n) 151 [d,ai] H tm= .ok v tm H) λf bx=>by obtain ⟨j,bj⟩:=bq (hT.left.one (cd.2 ⟨f,bx,rfl⟩));have P:=b4.left.left.flat (cd.2 ⟨f,bx,rfl⟩);have:=P.len;obtain ⟨bV,ae⟩:=y_ (cu f) P.i0 ab (bq P);exact ⟨j+bV,λad n bI bJ=>⟨bj ad n ab ab _ (bs.2 rfl),λai H d=>ae ad n ab ab ai H d⟩⟩
 obtain ⟨dg,bn⟩:=y_ c9 cR ab (bq b4.left.right);obtain ⟨dh,cO⟩:=dE (l:=cm) (Q:=λf ad n=> ∀ai H d,Tidy H->F ai (cC f)->ec 9 H d-> ∃v,oB (λ_=>True) v/\ ∀tm,az G (X G R ad n) 151 [d,ai] H tm= .ok v tm H) λf bx=>by have P:=b4.right.flat (cd.2 ⟨f,bx,rfl⟩);have:=P.len;obtain ⟨bV,ae⟩:=y_ (cC f) P.i0 ab (bq P);exact ⟨bV,λad n bI bJ ai H d=>ae ad n bI bJ ai H d⟩
 refine ⟨df+dg+dh+1048580,λad n dP dQ H d T u=> ?_⟩;obtain ⟨n,rfl⟩:=bY n;obtain ⟨Z,cW,aA⟩:=bn ad n ab ab z H d T bt u;obtain ⟨du,cf,dv,bC⟩:=cW.aI;have bW:=λtm=>u.call ad n ab ab H (U.refl _) T j q tm cz.1 cz.2
 suffices dj: ∃v,(∃ah,v= .agg ah/\(ah.length=7/\ ∀v∈ah,J v=true/\D 20 v=true))/\ ∀tm,az G (X G R ad (n+1)) 152 [d,.agg [.str j q,bE,z,a,bZ,.int .i64 B,.int .i64 C]] H tm= .ok v tm H by obtain ⟨v,⟨ah,rfl,cU⟩,ax⟩:=dj;exact ⟨ah,cU,ax⟩
 refine hg (aL.at (m:=95) rfl rfl rfl rfl rfl (by simp only [aO,u.nl];rfl) rfl rfl ?_);refine ak.bM (λtm p=>H=p/\aM 97 [(0,d),(3,.W 0 [.str j q,bE,z,a,bZ,.int .i64 B,.int .i64 C]),(4,.W 0 [.str 0 0,.V,.V,.V,.V,.int .i64 0,.int .i64 0]),(5,.av [])] tm) ?_ ?_
 . simp only [go_sem,aK.J,bt.J,aN.J,aY.J];exact an.mk ⟨rfl,dC⟩
 rintro tm _ ⟨rfl,hF⟩;refine ak.kp [0,3,4] (λL tm p=>H=p/\M tm 5= .W 0 [.str j q,.V,Z,.V,.V,.int .i64 B,.int .i64 C]/\L tm) ?_ ?_
 . simp only [go_sem,hF,bt.O,u.op,bW,aA,du,cf,dv];exact an.mk ⟨rfl,ay⟩
 clear hF;rintro tm _ ⟨rfl,hF⟩;refine ak.kp [0,3,4] (λL tm p=> ∃o,hi 85 11 H p o bG.length/\M tm 5= .W 0 [.str j q,o,Z,.V,.V,.int .i64 B,.int .i64 C]/\L tm) ?_ ?_
 . simp only [go_sem,hF,aK.O,aK.len];generalize ct:a1 _ _ _ _ _ _ _ _ _ _=aR;revert aR;refine cv [0,3,4,26] (λe=> [(5,.W 0 [.str j q,e.1,Z,.V,.V,.int .i64 B,.int .i64 C])]) (λe=>e.2) (λag e=>hi 85 11 H e.2 e.1 ag) bG.length (.V,H) (hi.new _ _ H T) ?_ ?_
   . rintro ag ⟨o,g⟩ tm a7 c hF;simp only at c hF|-;obtain ⟨f,af⟩:=bA a7;have bb:=aV af;have aW:Tidy g/\U H g:=by obtain ⟨aP,-,-,-,aF,aG⟩:=c;exact ⟨aF,aG⟩
     obtain ⟨aB,S⟩:=aW;obtain ⟨bj,ae⟩:=bk ad n ab ab f bb;obtain ⟨dJ,dK,dI,cF,bQ,bR,rfl,⟨bO,bS,rfl,b8⟩,⟨bP,bT,rfl,b9⟩,b1,⟨dV,bz,dU,-⟩,⟨bQ,rfl⟩,⟨bR,rfl⟩⟩:=cT f bb;rw [zy b1.len] at bj;rw [zz b1.len,bm bz] at ae;obtain ⟨cn,cr,cM⟩:=bj g d aB (u.up S);obtain ⟨bN,bw,b0⟩:=ae cF g d aB bz (u.up S);obtain ⟨cg,bg,ch,cj⟩:=bw.aI;obtain ⟨dx,c6,c7,c8⟩:=id bw;have cy:=lG.row (r:= [.str bO bS,.str bP bT]++cn++ [bN,.int .i64 bQ,.int .i64 bR]) ⟨_,_,cn,_,_,_,rfl,⟨_,_,rfl,b8⟩,⟨_,_,rfl,b9⟩,cr,⟨dx,c6,λr aj=>(c7 r aj).1,c8⟩,⟨_,rfl⟩,⟨_,rfl⟩⟩;have bp:=xx cy g;obtain ⟨ar,I,aJ,w⟩:=c.app (t:=61) (b:=168) (i:=t85) aq aq rfl rfl al al cy ab;have bW:=λtm=>u.call ad n ab ab g S aB bO bS tm b8.1 b8.2;have cG:=λtm=>u.call ad n ab ab g S aB bP bT tm b9.1 b9.2;obtain ⟨dk,dr,c2,c3,c4,c5,dB,aP,dX,dW,rfl,cZ,cY⟩:=b1.t;obtain ⟨dm,ds,da,db,dc,de,dD,dF,dY,dZ,rfl,c0,c1⟩:=cr.t;simp only [bl,a6] at af bp aJ;have dH:True:=trivial;refine au.bM (λtm p=>g=p/\ ∃ck,aM 97 [(28,.int .i64 (ag:Nat)),(27,.int .i64 (bG.length:Nat)),(0,d),(3,.W 0 [.str j q,bE,z,a,bZ,.int .i64 B,.int .i64 C]),(4,.W 0 [.str 0 0,.V,.V,.V,.V,.int .i64 0,.int .i64 0]),(5,.W 0 [.str j q,o,Z,.V,.V,.int .i64 B,.int .i64 C]),(26,bE),(7,.W ck [.str bO bS,.str bP bT,.int .i64 dk,.int .i64 dr,.str c2 c3,.str c4 c5,dB,aP,cF,.int .i64 bQ,.int .i64 bR])] tm) ?_ ?_
     . simp only [go_sem,hF,aK.O,aK.a_ (k:=11) af rfl,cZ.J,cY.J,bz.J];exact an.mk ⟨rfl,_,by simp only [go_sem,hF];trivial⟩
     clear hF;rintro tm _ ⟨rfl,ck,hF⟩;refine au.bF hF (λL tm p=>g=p/\L tm) ?_ ?_
     . simp only [go_sem,hF];refine an.aE ?_ ?_<;>intro aU<;>simp only [go_sem,hF,aU,u.op,cG]
       all_goals exact an.mk ⟨rfl,ay⟩
     clear hF;rintro tm _ ⟨rfl,hF⟩;refine au.kp [28,27,0,3,4,5,26] (λL tm p=>g=p/\M tm 7= .W ck [.str bO bS,.str bP bT,.int .i64 dm,.int .i64 ds,.str da db,.str dc de,dD,dF,bN,.int .i64 bQ,.int .i64 bR]/\L tm) ?_ ?_
     . simp only [go_sem,hF,u.op,bW,bz.O,cM,b0,cg,bg,ch,c0.J,c1.J];exact an.mk ⟨rfl,ay⟩
     clear hF;rintro tm _ ⟨rfl,hF⟩;simp only [go_sem,hF,c.O,w.ok.2,w.ok.1,bp,bH,aJ,w.O];exact au.next (ar,I) rfl w ay
   . rintro ⟨o,g⟩ tm c hF;simp only at c hF;simp only [go_sem];exact an.mk ⟨o,c,ay⟩
 clear hF;rintro tm g ⟨o,cw,hF⟩;obtain ⟨cE,cb,dA,ee,aB,S⟩:=id cw;refine ak.kp [0,3,4] (λL tm p=> ∃E,hi 114 1 g p E cm.length/\M tm 5= .W 0 [.str j q,o,Z,E,.V,.int .i64 B,.int .i64 C]/\L tm) ?_ ?_
 . simp only [go_sem,hF,aN.O,aN.len];generalize ct:a1 _ _ _ _ _ _ _ _ _ _=aR;revert aR;refine cv [0,3,4,63] (λe=> [(5,.W 0 [.str j q,o,Z,e.1,.V,.int .i64 B,.int .i64 C])]) (λe=>e.2) (λag e=>hi 114 1 g e.2 e.1 ag) cm.length (.V,g) (hi.new _ _ g aB) ?_ ?_
   . rintro ag ⟨E,I⟩ tm a7 c hF;simp only at c hF|-;obtain ⟨f,af⟩:=bA a7;have bb:=aV af;have aW:Tidy I/\U g I:=by obtain ⟨aP,-,-,-,aF,aG⟩:=c;exact ⟨aF,aG⟩
     obtain ⟨aX,aC⟩:=aW;have ae:=cO ad n ab ab f bb;obtain ⟨cp,rfl,⟨cI,br,dM,dL⟩⟩:=cX f bb;rw [show cC [cp]=cI from bm br] at ae;obtain ⟨bN,bw,b0⟩:=ae cp I d aX br ((u.up S).up aC);obtain ⟨cg,bg,ch,cj⟩:=bw.aI;have bp:=O3 ⟨bg,cj 19⟩ I;obtain ⟨ar,K,aJ,w⟩:=c.app (t:=62) (b:=24) (i:=t114) aq aq rfl rfl al al (r:= [bN]) ⟨rfl,λv ao=>by rw [bs.1 ao];exact ⟨bg,cj 19⟩⟩ ab;simp only [go_sem,hF,aN.O,aN.a_ (k:=1) af rfl,br.J,br.O,u.op,b0,cg,bg,ch,bp,bH,c.O,aJ,w.O,w.ok.2,w.ok.1];exact au.next (ar,K) rfl w ay
   . rintro ⟨E,I⟩ tm c hF;simp only at c hF;simp only [go_sem];exact an.mk ⟨E,c,ay⟩
 clear hF;rintro tm I ⟨E,cx,hF⟩;obtain ⟨cD,ca,dz,ed,aX,aC⟩:=id cx;refine ak.kp [0,4] (λL tm p=> ∃h,gw I p h cq.length/\M tm 5= .W 0 [.str j q,o,Z,E,h,.int .i64 B,.int .i64 C]/\L tm) ?_ ?_
 . simp only [go_sem,hF,aY.O,aY.len];generalize ct:a1 _ _ _ _ _ _ _ _ _ _=aR;revert aR;refine cv [0,4,81] (λe=> [(5,.W 0 [.str j q,o,Z,E,e.1,.int .i64 B,.int .i64 C])]) (λe=>e.2) (λag e=>gw I e.2 e.1 ag) cq.length (.V,I) ⟨[],bd.nil,λ_ s=>(by cases s),aT _,aX,U.refl _⟩ ?_ ?_
   . rintro ag ⟨h,K⟩ tm a7 c hF;simp only at c hF|-;obtain ⟨f,af⟩:=bA a7;have aW:Tidy K/\U I K:=by obtain ⟨aP,-,-,-,aF,aG⟩:=c;exact ⟨aF,aG⟩
     obtain ⟨b3,bc⟩:=aW;obtain ⟨aD,cl,rfl,b7⟩:=cQ f (aV af);have cH:=λtm=>u.call ad n ab ab K (S.trans (aC.trans bc)) b3 aD cl tm b7.1 b7.2;obtain ⟨ar,bU,aJ,w⟩:=c.app (x:= .A [[.str aD cl]] true) (aQ:= [[.str aD cl]]) (.inl (.inr ⟨_,rfl⟩)) (λr aj=>by rw [bs.1 aj];exact ⟨_,_,rfl,b7⟩) (by show _+1<_;omega);obtain ⟨bI,bJ⟩:ar.cells= [ar]/\J ar=true:=by obtain ⟨aP,s,-⟩:=w;exact s.cells
     obtain ⟨dw,cA⟩:h.cells= [h]/\J h=true:=by obtain ⟨aP,s,-⟩:=c;exact s.cells
     simp only [go_sem,hF,aY.O,aY.a_ (k:=1) af rfl,u.op,cH,c.O,aJ,w.O,bI,bJ];exact au.next (ar,bU) rfl w ay
   . rintro ⟨h,K⟩ tm c hF;simp only at c hF;simp only [go_sem];exact an.mk ⟨h,c,ay⟩
 clear hF;rintro tm K ⟨h,cP,hF⟩;obtain ⟨cB,bB,dy,eb,b3,bc⟩:=id cP;have dq:bd H.n 85 11 cE.length K cE o:=cb.at λid dt _ aU=>bc.get aX.1 (aC.get aB.1 aU);have dp:bd H.n 114 1 cD.length K cD E:=(ca.at λid dt _ aU=>bc.get aX.1 aU).mono S.n (aT _);have dn:bd H.n 9 1 cB.length K cB h:=bB.mono (eT S.n aC.n) (aT _);have cJ:cc o E:=λid aS aA=>by have bk:=cb.lt aS;have bn:=ca.ge aA;omega
 have cK:cc o h:=λid aS aA=>by have bk:=cb.lt aS;have bn:=bB.ge aA;have:=aC.n;omega
 have cL:cc E h:=λid aS aA=>by have bk:=ca.lt aS;have bn:=bB.ge aA;omega
 have bX: ∀ {v a:aa} {aw:Nat},D (aw+1) v=true->cc v a:=λs id ax=>by rw [vi s] at ax;cases ax
 have aH: ∀ {v a:aa} {aw:Nat},D (aw+1) a=true->cc v a:=λs id _ ax=>by rw [vi s] at ax;cases ax
 obtain ⟨bh,bU,cN,dS,cV,b6,P⟩:=Ey 48 al H (λv a=>J a=true/\ ∀aw,D (aw+1) a=true) [.str j q,o,Z,E,h,.int .i64 B,.int .i64 C] K b3 (S.trans (aC.trans bc)) (λv ao=>by
  have aD: ∀ {bK a},F a bK->J a=true/\ ∀aw,D (aw+1) a=true:=λz=>⟨z.J,z.aI⟩;simp only [b2,dG,or_false] at ao;rcases ao with rfl|rfl|rfl|rfl|rfl|rfl|rfl
  . exact .inl ⟨rfl,rfl,λ_=>rfl⟩
  . exact .inr ⟨_,_,_,_,al,dA,dq,λa z=>aD z⟩
  . exact .inl ⟨bC 48,cf,bC⟩
  . exact .inr ⟨_,_,_,_,al,dz,dp,λa z=>aD z⟩
  . exact .inr ⟨_,_,_,_,al,dy.rows,dn,λa z=>aD z⟩
  . exact .inl ⟨rfl,rfl,λ_=>rfl⟩
  . exact .inl ⟨rfl,rfl,λ_=>rfl⟩) (by
  simp only [hq,b2,dG,or_false,List.Pairwise.nil,and_true];refine ⟨λa _=> @bX _ _ 0 rfl,λa T=> ?_,λa _=>bX (bC 0),λa T=> ?_,λa T=> ?_,λa _=> @bX _ _ 0 rfl,λa s=>s.elim⟩
  . rcases T with rfl|rfl|rfl|rfl|rfl
    . exact aH (bC 0)
    . exact cJ
    . exact cK
    . exact @aH _ _ 0 rfl
    . exact @aH _ _ 0 rfl
  . rcases T with rfl|rfl|rfl
    . exact cL
    . exact @aH _ _ 0 rfl
    . exact @aH _ _ 0 rfl
  . rcases T with rfl|rfl<;>exact @aH _ _ 0 rfl)
 obtain ⟨dw,cA⟩:h.cells= [h]/\J h=true:=bB.cells;simp only [go_sem,hF,cf,cw.ok.2,cx.ok.2,cA];refine .inl ⟨.agg bh,⟨bh,rfl,b6,λv ao=> ?_⟩,.agg [.str j q,o,Z,E,h,.int .i64 B,.int .i64 C],K,bU,rfl,?_,gV T cV ?_⟩
 . obtain ⟨bf,a8⟩:=jo ao;have b5:bf<bh.length:=(e6.1 a8).1;have:=P bf _ v (lj (by rw [<-b6];exact b5)) a8;exact ⟨this.1,this.2 19⟩
 . show aZ (49+1) _ _=_;rw [aZ];simp only [cN,bu]
 . show bh.all (y H.n 19)=true;refine ba.2 λv ao=> ?_;obtain ⟨bf,a8⟩:=jo ao;have b5:bf<bh.length:=(e6.1 a8).1;have:=P bf _ v (lj (by rw [<-b6];exact b5)) a8;exact fR H.n 19 19 v (aT _) (this.2 18)
def gB (x:aa) (rows:Y):aa:=match x,rows with
 | .V,_=> .V
 |_,[]=> .A [] true
 |_,_::_=> .A rows false
def xH {x rows} (a:F x rows):F (gB x rows) rows:=by
 rcases a with ⟨rfl,rfl⟩|⟨b,rfl⟩
 . exact .inl ⟨rfl,rfl⟩
 . cases rows with
   |nil=>exact .inr ⟨_,rfl⟩
   |cons=>exact .inr ⟨_,rfl⟩
structure ei (el k:Nat) (a7 H:af) (v x:aa) (rows:Y):Prop where
  tidy:Tidy H
  up:U a7 H
  alt:(rows= []/\v=gB x []/\cW v=none)\/(x≠ .V/\rows≠ []/\P el k a7 H v rows)
section
variable {el k:Nat} {a7 H:af} {v x:aa} {rows:Y}
theorem Bs (x):gB x []= .V\/gB x []= .A [] true:=by cases x<;>first|exact .inl rfl|exact .inr rfl
theorem ei.cw (a:ei el k a7 H v x rows):cG H k v rows:=by
 rcases a.alt with ⟨rfl,rfl,-⟩|⟨-,-,a⟩
 . rcases Bs x with b|b<;>rw [b]
   . exact .inl (.inl ⟨rfl,rfl⟩)
   . exact .inl (.inr ⟨_,rfl⟩)
 . exact a.cw
theorem ei.facts (a:ei el k a7 H v x rows):(∀t,O t v=v)/\J v=true/\v.cells= [v]/\aD v=true:=by
 rcases a.alt with ⟨rfl,rfl,-⟩|⟨-,-,a⟩
 . rcases Bs x with b|b<;>rw [b]<;>exact ⟨λ_=>rfl,rfl,rfl,rfl⟩
 . exact ⟨a.O,a.ok,a.cs,a.nl⟩
theorem ei.at (a:ei el k a7 H v x rows) {H':af} (c:Tidy H') (b:U H H'):ei el k a7 H' v x rows:=
 ⟨c,a.up.trans b,a.alt.imp id λ⟨d,e,f⟩=>⟨d,e,f.at c b⟩⟩
theorem ei.mono {b:af} (a:ei el k a7 H v x rows) (c:U b a7):ei el k b H v x rows:=⟨a.tidy,c.trans a.up,a.alt.imp id λ⟨d,e,f⟩=>⟨d,e,f.mono c⟩⟩
theorem ei.bS (f:ei el k a7 H v x rows) {H':af} (c:Tidy H') (b:U a7 H') (g: ∀id o,H.get id=some o->cW v=some id->H'.get id=some o):ei el k a7 H' v x rows:=
 ⟨c,b,f.alt.imp id λ⟨d,e,a⟩=>⟨d,e,a.W.at ah,a.rw,c,b,a.ex⟩⟩
theorem ei.gc {a:af} {w:aa} (b:ei el k a7 H v x rows) (e:Tidy a) (c:U a a7) {d:Nat} (h:y a.n 20 w=true->y a.n (d+1) v=true):ei el k a (gc a.n w H) v x rows:=by
 rcases b.alt with ⟨rfl,rfl,l⟩|⟨i,j,g⟩
 . have:Tidy (gc a.n w H)/\U a (gc a.n w H):=by
    rcases H9 e (c.trans b.up) w with f|⟨f,-⟩<;>rw [f]
    . exact ⟨b.tidy,c.trans b.up⟩
    . exact ⟨e,U.refl _⟩
   exact ⟨this.1,this.2,ah⟩
 . have:=g.gc e c h;exact ⟨this.tidy,this.up,ah⟩
theorem ei.aZ (d:Nat) (g:20<=d) (h:0<k) (i:F x rows) (e:ei el k a7 H v x rows): ∃a,Go.aj.aZ (d+1) v H=some (gB x rows,a)/\Tidy a/\(∀c,c.n<=a7.n->U c H->U c a)/\(∀id o,H.get id=some o->cW v≠some id->a.get id=some o):=by
 rcases e.alt with ⟨rfl,rfl,-⟩|⟨l,m,f⟩
 . rcases Bs x with b|b<;>rw [b]<;>exact ⟨H,rfl,e.tidy,ai,ah⟩
 . have b:gB x rows=dk rows:=by
    rcases i with ⟨rfl,-⟩|⟨j,rfl⟩
    . grind
    . cases rows with
      |nil=>grind
      |cons=>rfl
   rw [b];exact f.aZ d g h
theorem ei.ge (b:ei el k a7 H v x rows) {id:Nat} (e:cW v=some id):a7.n<=id/\id<H.n:=by
 rcases b.alt with ⟨rfl,rfl,c⟩|⟨-,-,a⟩
 . grind
 . exact ⟨a.W.ge e,a.W.lt e⟩
end
def Fe:aW G 22=some (.slice 9):=aq
def B3:G.T 9=some t9:=aq
@[go_sem] theorem acS (H):cT G 22 0 [] H=some (.A [] true,H):=aq
def OI (rows c):b4 G .eql 22 (.A rows c) .V=some (.bool false):=aq
def Og {H:af} {x:aa} {rows:Y} (o:Tidy H) (g:F x rows) (b:Rows 1 rows) (q:rows.length<1048560) (m:rows≠ []): ∃d H',cI G 22 22 (.A [] true) x H=some (d,H')/\P 9 1 H H' d rows:=by
 obtain ⟨d,H',a,f,e⟩:=bd.app (c:=0) (n0:=H.n) (H:=H) (rows:= []) (aQ:=rows) (v:= .A [] true) (x:=x) Fe B3 rfl rfl al al (.inr (.inl rfl)) o ab (λp b=>by cases b) (dR g b.len) b (by have j:(([]:Y).length+rows.length)<=1048560:=ah;have l:t9.bytes+1<=33:=al;exact eT (kF j l) (by unfold b7;omega)) ab;rw [gH,a6] at f;refine ⟨d,H',a,⟨f,b,e.tidy,e.up H ab (U.refl _),.inr ⟨m,?_⟩⟩⟩;have h:hx G 9 1 (.slice 9) x H=some (rows.flatten,rows.length):=dR g b.len;unfold cI at a;simp only [Fe,B3,show t9.size=1 from rfl,show t9.bytes=16 from rfl,h] at a;rw [if_pos al] at a
 cases rows with
 |nil=>grind
 | cons p r=>
   simp only [cl,b.ok,if_true,bu,dn,c8] at a;split at a
   . simp only [N,bz] at a;rw [<-a.1];exact λi=>by cases i
   grind
def I5 {ad n:Nat} {x:aa} {rows:Y} {H:af} (b:Tidy H) (h:F x rows) (j:Rows 1 rows) (i:rows.length<1048560):
    ∃v H',ei 9 1 H H' v x rows/\ ∀tm,az G (X G R ad (n+1)) 101 [x] H tm= .ok v tm H':=by
 refine bn.at (m:=7) rfl rfl rfl rfl rfl (by simp only [aO,h.aD];rfl) rfl rfl ?_;rcases h with ⟨rfl,rfl⟩|⟨a,rfl⟩
 . simp only [go_sem];refine bn.mk ?_;rw [ft ab];exact ⟨b,U.refl _,.inl ⟨rfl,rfl,rfl⟩⟩
 . have f:=OI rows a
   cases g:rows with
   | nil=>
     subst g;have c:cI G 22 22 (.A [] true) (.A [] a) H=some (.A [] true,H):=by cases a<;>kernel_rfl
     simp only [go_sem,f,c,bH];refine bn.mk ?_;rw [ft ab];exact ⟨b,U.refl _,.inl ⟨rfl,rfl,rfl⟩⟩
   | cons p o=>
     rw [<-g];obtain ⟨l,H',c,e⟩:=Og b (x:= .A rows a) (.inr ⟨a,rfl⟩) j i ah;simp only [go_sem,f,c,bH,e.O,e.nl,dX,if_true];refine bn.mk ?_;have:=e.gc b (U.refl _) (v:=l) (d:=19) id;exact ⟨this.tidy,this.up,ah⟩
def MU:aW G 48=some (.slice 88):=aq
def H5:G.T 88=some t88:=aq
@[go_sem] theorem acR (H):cT G 48 0 [] H=some (.A [] true,H):=aq
def OH (rows c):b4 G .eql 48 (.A rows c) .V=some (.bool false):=aq
def Of {H:af} {x:aa} {rows:Y} (o:Tidy H) (g:F x rows) (b:Rows 2 rows) (q:rows.length<1048560) (m:rows≠ []): ∃d H',cI G 48 48 (.A [] true) x H=some (d,H')/\P 88 2 H H' d rows:=by
 obtain ⟨d,H',a,f,e⟩:=bd.app (c:=0) (n0:=H.n) (H:=H) (rows:= []) (aQ:=rows) (v:= .A [] true) (x:=x) MU H5 rfl rfl al al (.inr (.inl rfl)) o ab (λp b=>by cases b) (dR g b.len) b (by have j:(([]:Y).length+rows.length)<=1048560:=ah;have l:t88.bytes+1<=33:=al;exact eT (kF j l) (by unfold b7;omega)) ab;rw [gH,a6] at f;refine ⟨d,H',a,⟨f,b,e.tidy,e.up H ab (U.refl _),.inr ⟨m,?_⟩⟩⟩;have h:hx G 88 2 (.slice 88) x H=some (rows.flatten,rows.length):=dR g b.len;unfold cI at a;simp only [MU,H5,show t88.size=2 from rfl,show t88.bytes=32 from rfl,h] at a;rw [if_pos al] at a
 cases rows with
 |nil=>grind
 | cons p r=>
   simp only [cl,b.ok,if_true,bu,dn,c8] at a;split at a
   . simp only [N,bz] at a;rw [<-a.1];exact λi=>by cases i
   grind
def Ui {ad n:Nat} {x:aa} {rows:Y} {H:af} (b:Tidy H) (h:F x rows) (j:Rows 2 rows) (i:rows.length<1048560):
    ∃v H',ei 88 2 H H' v x rows/\ ∀tm,az G (X G R ad (n+1)) 285 [x] H tm= .ok v tm H':=by
 refine bn.at (m:=7) rfl rfl rfl rfl rfl (by simp only [aO,h.aD];rfl) rfl rfl ?_;rcases h with ⟨rfl,rfl⟩|⟨a,rfl⟩
 . simp only [go_sem];refine bn.mk ?_;rw [ft ab];exact ⟨b,U.refl _,.inl ⟨rfl,rfl,rfl⟩⟩
 . have f:=OH rows a
   cases g:rows with
   | nil=>
     subst g;have c:cI G 48 48 (.A [] true) (.A [] a) H=some (.A [] true,H):=by cases a<;>kernel_rfl
     simp only [go_sem,f,c,bH];refine bn.mk ?_;rw [ft ab];exact ⟨b,U.refl _,.inl ⟨rfl,rfl,rfl⟩⟩
   | cons p o=>
     rw [<-g];obtain ⟨l,H',c,e⟩:=Of b (x:= .A rows a) (.inr ⟨a,rfl⟩) j i ah;simp only [go_sem,f,c,bH,e.O,e.nl,dX,if_true];refine bn.mk ?_;have:=e.gc b (U.refl _) (v:=l) (d:=19) id;exact ⟨this.tidy,this.up,ah⟩
def MT:aW G 50=some (.slice 3):=aq
def H4:G.T 3=some t3:=aq
@[go_sem] theorem acQ (H):cT G 50 0 [] H=some (.A [] true,H):=aq
def OG (rows c):b4 G .eql 50 (.A rows c) .V=some (.bool false):=aq
def Oe {H:af} {x:aa} {rows:Y} (o:Tidy H) (g:F x rows) (b:Rows 1 rows) (q:rows.length<1048560) (m:rows≠ []): ∃d H',cI G 50 50 (.A [] true) x H=some (d,H')/\P 3 1 H H' d rows:=by
 obtain ⟨d,H',a,f,e⟩:=bd.app (c:=0) (n0:=H.n) (H:=H) (rows:= []) (aQ:=rows) (v:= .A [] true) (x:=x) MT H4 rfl rfl al al (.inr (.inl rfl)) o ab (λp b=>by cases b) (dR g b.len) b (by have j:(([]:Y).length+rows.length)<=1048560:=ah;have l:t3.bytes+1<=33:=al;exact eT (kF j l) (by unfold b7;omega)) ab;rw [gH,a6] at f;refine ⟨d,H',a,⟨f,b,e.tidy,e.up H ab (U.refl _),.inr ⟨m,?_⟩⟩⟩;have h:hx G 3 1 (.slice 3) x H=some (rows.flatten,rows.length):=dR g b.len;unfold cI at a;simp only [MT,H4,show t3.size=1 from rfl,show t3.bytes=8 from rfl,h] at a;rw [if_pos al] at a
 cases rows with
 |nil=>grind
 | cons p r=>
   simp only [cl,b.ok,if_true,bu,dn,c8] at a;split at a
   . simp only [N,bz] at a;rw [<-a.1];exact λi=>by cases i
   grind
def Ug {ad n:Nat} {x:aa} {rows:Y} {H:af} (b:Tidy H) (h:F x rows) (j:Rows 1 rows) (i:rows.length<1048560):
    ∃v H',ei 3 1 H H' v x rows/\ ∀tm,az G (X G R ad (n+1)) 286 [x] H tm= .ok v tm H':=by
 refine bn.at (m:=7) rfl rfl rfl rfl rfl (by simp only [aO,h.aD];rfl) rfl rfl ?_;rcases h with ⟨rfl,rfl⟩|⟨a,rfl⟩
 . simp only [go_sem];refine bn.mk ?_;rw [ft ab];exact ⟨b,U.refl _,.inl ⟨rfl,rfl,rfl⟩⟩
 . have f:=OG rows a
   cases g:rows with
   | nil=>
     subst g;have c:cI G 50 50 (.A [] true) (.A [] a) H=some (.A [] true,H):=by cases a<;>kernel_rfl
     simp only [go_sem,f,c,bH];refine bn.mk ?_;rw [ft ab];exact ⟨b,U.refl _,.inl ⟨rfl,rfl,rfl⟩⟩
   | cons p o=>
     rw [<-g];obtain ⟨l,H',c,e⟩:=Oe b (x:= .A rows a) (.inr ⟨a,rfl⟩) j i ah;simp only [go_sem,f,c,bH,e.O,e.nl,dX,if_true];refine bn.mk ?_;have:=e.gc b (U.refl _) (v:=l) (d:=19) id;exact ⟨this.tidy,this.up,ah⟩
def EL {l:Y} (b: ∀r∈l,gd r):Rows 2 l:=λr c=>by
 obtain ⟨d,e,f,g,rfl,-⟩:=b r c;exact ⟨rfl,λv a=>by simp only [b2,dG,or_false] at a;rcases a with rfl|rfl<;>exact ⟨rfl,rfl⟩⟩
def Zs {l:Y} (a: ∀r∈l,∃i,r= [.int .i64 i]):Rows 1 l:=λr b=>by
 obtain ⟨d,rfl⟩:=a r b;exact ⟨rfl,λv c=>by rw [bs.1 c];exact ⟨rfl,rfl⟩⟩
def Uh {ad n:Nat} {l m ls ms:Nat} {a p s:aa} {i j:Int} {q r rs:Y} {H:af} (o:Tidy H) (t:F a q) (z:F p r) (A:F s rs) (M:Rows 1 q) (N:Rows 2 r) (P:Rows 1 rs) (Q:q.length<1048560) (S:r.length<1048560) (T:rs.length<1048560):
    ∃w H',(∃b c s',w= .agg [.str l m,b,.str ls ms,c,.int .i64 i,.int .i64 j,s']/\ei 9 1 H H' b a q/\ei 88 2 H H' c p r/\ei 3 1 H H' s' s rs/\cc b c/\cc b s'/\cc c s')/\ ∀tm,az G (X G R ad (n+1+1)) 224 [.agg [.str l m,a,.str ls ms,p,.int .i64 i,.int .i64 j,s]] H tm= .ok w tm H':=by
 obtain ⟨b,ak,e,I⟩:=I5 (ad:=ad) (n:=n) o t M Q;obtain ⟨c,al,f,K⟩:=Ui (ad:=ad) (n:=n) e.tidy z N S;obtain ⟨s',an,d,L⟩:=Ug (ad:=ad) (n:=n) f.tidy A P T;obtain ⟨V,W,Z,aq⟩:=e.facts;obtain ⟨ab,ae,ag,ar⟩:=f.facts;obtain ⟨ah,ai,aj,au⟩:=d.facts;refine bn.at (m:=15) rfl rfl rfl rfl rfl rfl rfl rfl ?_;simp only [go_sem,t.O,t.J,z.O,z.J,A.O,A.J,I,K,L,V,W,Z,ab,ae,ag,ah,ai,aj];have u: ∀ {g},(g=b\/g=c\/g=s')->y H.n 20 (.agg [.str l m,b,.str ls ms,c,.int .i64 i,.int .i64 j,s'])=true->y H.n (18+1) g=true:=λ{g} ao C=>by
  have C: [.str l m,b,.str ls ms,c,.int .i64 i,.int .i64 j,s'].all (y H.n 19)=true:=C
  grind
 have D:=e.up;have B:=f.up;have E:=d.up;refine bn.mk ⟨b,c,s',rfl,(e.at d.tidy (B.trans E)).gc o (U.refl _) (u (.inl rfl)),(f.at d.tidy E).gc o D (u (.inr (.inl rfl))),d.gc o (D.trans B) (u (.inr (.inr rfl))),λid x h=> ?_,λid x h=> ?_,λid x h=> ?_⟩
 . have:=(e.ge x).2;have:=(f.ge h).1;omega
 . have:=(e.ge x).2;have:=(d.ge h).1;have:=B.n;omega
 . have:=(f.ge x).2;have:=(d.ge h).1;omega
theorem od {α:Type} {l:List α} {j:Nat} {x:α} (a:l[j]? =some x):l.take (j+1)=l.take j++ [x]:=by rw [fg,a];rfl
def Jp (N:Nat) (hN:N<900000):bo λad n=> ∀x rows H fv,b8 rows->rows.length<=N->Tidy H->cG H 1 x rows->ec 9 H fv->
    ∃v H',P 9 1 H H' v rows/\ ∀tm,az G (X G R ad n) 222 [x,fv] H tm= .ok v tm H':=by
 refine ⟨N+20,λad n Y ae x rows H fv p Z l e j=> ?_⟩;obtain ⟨n,rfl⟩:=bY n;refine bn.at (m:=20) rfl rfl rfl rfl rfl (by simp only [aO,e.aD,j.nl];rfl) rfl rfl ?_;simp only [go_sem,e.O,e.len];generalize T:a1 _ _ _ _ _ _ _ _ _ _=u;revert u;have hF:=trivial;refine cv [1,8] (λc=> [(5,c.1)]) (λc=>c.2) (λr c=>P 9 1 H c.2 c.1 (rows.take r)) rows.length (.V,H) (P.new _ _ l) ?_ ?_
 . rintro r ⟨v,o⟩ tm B a hF;simp only at a hF|-;obtain ⟨Q,k⟩:=bA B;have C:=aV k;obtain ⟨ag,D,F,af,I⟩:=(e.up l.1 a.up).at p.len k;obtain ⟨f,g,rfl,M,z⟩:=p Q C;have J:=I _ rfl;have y:=j.call ad n ab ab o a.up a.tidy f g;have q:Rows 1 [[aa.str f g]]:=λah K=>by rw [bs.1 K];exact ⟨rfl,λv L=>by rw [bs.1 L];exact ⟨rfl,rfl⟩⟩
   obtain ⟨S,s,w,h,W⟩:=a.app (E:=G) (t:=22) (b:=16) (i:=t9) Fe B3 rfl rfl al al (x:= .A [[.str f g]] true) (aQ:= [[.str f g]]) (dR (.inr ⟨_,rfl⟩) q.len) q (by rw [h6];show _+1<_;omega);rw [<-od k] at h;simp only [go_sem,hF,e.O,D,F,J,j.op,a.O,y _ M z,bH,w,h.O];exact au.next (S,s) rfl h ay
 . rintro ⟨v,o⟩ tm a hF;simp only at a hF;rw [bX] at a;simp only [go_sem,hF,a.O,a.nl,dX,if_true];exact bn.mk (a.gc l (U.refl _) (d:=19) id)
@[go_sem] theorem ZP (f):f_ (some (.fn (.func f) [] [])) (some (.fn (.func f) [] []))=true:=by simp [f_,cN,eu]
@[go_sem] theorem LV (f a b c d):f_ (some (.fn (.func f) [] [.ptr a b c d])) (some (.fn (.func f) [] [.ptr a b c d]))=true:=by simp [f_,cN,eu]
def Yw {a H:af} {v w e p s' s:aa} {rows o h rs:Y} {l m ls ms:Nat} {i j:Int} (g:P 52 7 a H v rows) (y:P 9 1 a H w o) (B:ei 88 2 a H e p h) (C:ei 3 1 a H s' s rs)
    (M:cc v w) (d2:cc v e) (N:cc v s') (O:cc w e) (Q:cc w s') (R:cc e s') (V:F p h) (W:F s rs):
    ∃H',cT G 24 1 [(0,.agg [.str l m,w,.str ls ms,e,.int .i64 i,.int .i64 j,s'])] H=some (.A [[.str l m,dk o,.str ls ms,gB p h,.int .i64 i,.int .i64 j,gB s rs]] true,H')/\P 52 7 a H' v rows:=by
 obtain ⟨ao,S,q,r,n⟩:=y.aZ 49 al al;have u:=g.bS q (r a ab g.up) λid d c b=>n id d c (M id b);have Z:=B.bS q (r a ab g.up) λid d c b=>n id d c (λf=>O id f b);have ag:=C.bS q (r a ab g.up) λid d c b=>n id d c (λf=>Q id f b);obtain ⟨ar,f,I,K,D⟩:=Z.aZ 49 al al V;have L:=u.bS I (K a ab u.up) λid d c b=>D id d c (d2 id b);have ah:=ag.bS I (K a ab u.up) λid d c b=>D id d c (λf=>R id f b);obtain ⟨x,T,aj,ak,X⟩:=ah.aZ 49 al al W;have an:=L.bS aj (ak a ab L.up) λid d c b=>X id d c (N id b);refine ⟨x,?_,an⟩;have ok: ∀v∈ [aa.agg [.str l m,w,.str ls ms,e,.int .i64 i,.int .i64 j,s']],v.cells.length=7/\v.cells.all J=true:=λv g=>by rw [bs.1 g];refine ⟨rfl,?_⟩;show [aa.str l m,w,.str ls ms,e,.int .i64 i,.int .i64 j,s'].all J=true;simp only [aO,jm,y.ok,B.facts.2.1,C.facts.2.1];rfl
 have U:cD (aZ bR) ([aa.agg [.str l m,w,.str ls ms,e,.int .i64 i,.int .i64 j,s']].flatMap aa.cells) H=some ([.str l m,dk o,.str ls ms,gB p h,.int .i64 i,.int .i64 j,gB s rs],x):=by show cD (aZ (49+1)) [.str l m,w,.str ls ms,e,.int .i64 i,.int .i64 j,s'] H=_;have ad: ∀l m H,aZ (49+1) (.str l m) H=some (.str l m,H):=λ_ _ _=>rfl;have ae: ∀i H,aZ (49+1) (.int .i64 i) H=some (.int .i64 i,H):=λ_ _=>rfl;simp only [cD,ad,ae,S,f,T]
 exact A5 (E:=G) (t:=24) (el:=52) (k:=7) (z:= .agg Aq) aq aq aq al rfl [.agg [.str l m,w,.str ls ms,e,.int .i64 i,.int .i64 j,s']] ok ai U
def ct:List aa->List aa
 | [g,c,h,a,d,e,b]=> [g,dk (f c),h,gB a (f a),d,e,gB b (f b)]
 |r=>r
def nk (r:List aa):Prop:= ∀c e a d f b,fB r c e a d f b->a.length<800000/\b.length<800000
def Jw (rows:Y) (cu: ∀r∈rows,c6 r) (cx: ∀r∈rows,nk r) (dh:rows.length<800000):bo λad n=> ∀x H aF ao aA ai bb aB aj bc aC ak bd,Tidy H->F x rows->ec 9 H aF->ec 9 H ao->f_ (some aF) (some aF)=true->f_ (some ao) (some ao)=true->
    H.get aA=some (.cells ai bb 0 [aF])->bb<=ai->H.get aB=some (.cells aj bc 0 [.fn (.func 222) [] []])->bc<=aj->H.get aC=some (.cells ak bd 0 [ao])->bd<=ak->
    ∃v H',P 52 7 H H' v (rows.map ct)/\ ∀tm,az G (X G R ad n) 223 [x,.ptr aA ai 0 1,.ptr aB aj 0 1,.ptr aC ak 0 1] H tm= .ok v tm H':=by
 obtain ⟨bQ,cl⟩:=Jp 800000 al;refine ⟨bQ+1048580,λad n dg dm x H aF ao aA ai bb aB aj bc aC ak bd ar aJ bP aK dv cL cJ cC cK cD bV bU=> ?_⟩;obtain ⟨n,rfl⟩: ∃cF,n=cF+1+1+1:=⟨n-3,ab⟩;refine bn.at (m:=58) rfl rfl rfl rfl rfl (by simp only [aO,aJ.aD];rfl) rfl rfl ?_;simp only [go_sem,aJ.O,aJ.len];generalize cm:a1 _ _ _ _ _ _ _ _ _ _=ba;revert ba;have hF:=trivial;refine cv [1,2,3,11] (λc=> [(6,c.1)]) (λc=>c.2) (λQ c=>P 52 7 H c.2 c.1 ((rows.map ct).take Q)) rows.length (.V,H) (P.new _ _ ar) ?_ ?_
 . rintro Q ⟨v,bB⟩ tm df a hF;simp only at a hF|-;obtain ⟨r,bq⟩: ∃r,rows[Q]? =some r:=de;have bL:=aV bq;obtain ⟨o,q,S,p,s,aR,D⟩:=cu r bL;obtain ⟨dt,du⟩:=cx r bL _ _ _ _ _ _ D;obtain ⟨bC,I,c,u,w,rfl,bp,aH,g,aG,ds,br⟩:=D.eq;have bh:=a.up.get ar.1 cJ;have bj:=a.up.get ar.1 cK;have aU:=a.up.get ar.1 bV;refine au.kp [13,12,1,2,3,11] (λax tm H'=>bB=H'/\ ∃aP,M tm 6=v/\M tm 8= .W aP [.str o q,bC,.str p s,I,.int .i64 u,.int .i64 w,c]/\ax tm) ?_ ?_
   . simp only [go_sem,hF,aJ.O,aJ.a_ (k:=7) bq rfl,bp.J,aG.J,aH.J];exact an.mk ⟨rfl,_,by simp only [go_sem,hF];trivial⟩
   clear hF;rintro tm _ ⟨rfl,aP,hF⟩;obtain ⟨_,a7,⟨bD,y,T,rfl,h,B,L,c4,c7,bG⟩,b8⟩:=Uh (ad:=ad) (n:=n) (l:=o) (m:=q) (ls:=p) (ms:=s) (i:=u) (j:=w) a.tidy bp aG aH D.hS.rows (EL br) (Zs D.rs) ab ab ab;obtain ⟨cb,cd,c8,c9⟩:=h.facts;obtain ⟨cf,cg,db,dc⟩:=B.facts;obtain ⟨dw,cM,dx,dy⟩:=L.facts;refine au.kp [13,12,1,2,3,6,11] (λax tm H'=>a7=H'/\M tm 8= .W aP [.str o q,bD,.str p s,y,.int .i64 u,.int .i64 w,T]/\ax tm) ?_ ?_
   . simp only [go_sem,hF,b8,cd,cg,cM];exact an.mk ⟨rfl,ay⟩
   clear hF;rintro tm _ ⟨rfl,hF⟩;have bh:=h.up.get a.tidy.1 bh;have bj:=h.up.get a.tidy.1 bj;have aU:=h.up.get a.tidy.1 aU;have aX:=a.up.trans h.up;obtain ⟨Z,a8,e,ca⟩:=cl ad (n+1+1) ab ab bD S a7 ao D.hS ab h.tidy h.cw (aK.up aX);have b3:=λtm=>bP.call ad (n+1+1) ab ab a7 aX h.tidy o q tm D.c5 D.s1;have bg:=λtm=>aK.call ad (n+1+1) ab ab a8 (aX.trans e.up) e.tidy p s tm D.pw D.s2;have ch:=e.up.get h.tidy.1 aU;refine au.bM (λtm H'=>a8=H'/\aM 62 [(13,.int .i64 (Q:Nat)),(12,.int .i64 (rows.length:Nat)),(1,.ptr aA ai 0 1),(2,.ptr aB aj 0 1),(3,.ptr aC ak 0 1),(6,v),(11,x),(8,.W aP [.str o q,Z,.str p s,y,.int .i64 u,.int .i64 w,T])] tm) ?_ ?_
   . simp only [go_sem,hF,cb,bh,bj,aU,ch,cC,cD,bU,bP.op,aK.op,b3,ca,bg,e.O,e.ok,e.cs,cL];exact an.mk ⟨rfl,ay⟩
   clear hF;rintro tm _ ⟨rfl,hF⟩;have dz:=h.up.n;have bI:cc v y:=λid x K=>by have:=a.W.lt x;have:=(B.ge K).1;omega
   have bZ:cc v T:=λid x K=>by have:=a.W.lt x;have:=(L.ge K).1;omega
   have b0:cc v Z:=λid x K=>by have:=a.W.lt x;have:=e.W.ge K;omega
   have bJ:cc Z y:=λid x K=>by have:=e.W.ge x;have:=(B.ge K).2;omega
   have b1:cc Z T:=λid x K=>by have:=e.W.ge x;have:=(L.ge K).2;omega
   have bf:=a.at e.tidy (h.up.trans e.up);have B:=(B.at e.tidy e.up).mono a.up;have L:=(L.at e.tidy e.up).mono a.up;have bE:=e.mono aX;refine au.bF hF (λax tm H'=>(P 52 7 H H' v ((rows.map ct).take Q)/\P 9 1 H H' Z S/\ei 88 2 H H' y I g/\ei 3 1 H H' T c aR)/\ax tm) ?_ ?_
   . have cp:=B.cw.len;simp only [go_sem,hF,cf,cp];generalize cm:a1 _ _ _ _ _ _ _ _ _ _=ba;revert ba;refine cv [13,12,1,2,3,6,11,8,36] (λ_=> []) (λc=>c) (λdn H'=>P 52 7 H H' v ((rows.map ct).take Q)/\P 9 1 H H' Z S/\ei 88 2 H H' y I g/\ei 3 1 H H' T c aR) g.length a8 ah ?_ ?_
     . clear hF;rintro aw ag tm cn ⟨aL,bT,aZ,bR⟩ hF;obtain ⟨a6,aW⟩: ∃a6,g[aw]? =some a6:=ah;have cr:=aV aW;obtain ⟨cG,bO,cA,cB,-⟩:=aZ.cw.at (EL br).len aW;obtain ⟨bt,bu,ae,af,rfl,-,cO,-,cE⟩:=br a6 cr;have bk:P 88 2 H ag y g:=by
        rcases aZ.alt with ⟨C,-⟩|⟨-,-,C⟩
        all_goals grind
       obtain ⟨cH,cI,aS,dA,cP,dB,cQ,cR,cS,cT,z,bw⟩:=bk.pn aW 1 [.str ae af] (aT 2) (λv aY=>by rw [bs.1 aY];exact ⟨rfl,rfl⟩);have b4:cH=cG:=ah;subst b4;have cy:g.set aw (putAt 1 [aa.str ae af] [aa.str bt bu,aa.str ae af])=g:=by show g.set aw [aa.str bt bu,aa.str ae af]=g;have dj:aw<g.length:=cn;have:=e6.1 aW;obtain ⟨_,N⟩:=this;rw [<-N,List.set_getElem_self]
       rw [cy] at z;have cU: ∀tm,hf 1 cI [.str ae af] tm ag= .ok (.av []) tm aS:=cT;have bQ:=aL.bS z.tidy z.up λid aN C N=>bw.other id aN C (bI id N);have dp:=bT.bS z.tidy z.up λid aN C N=>bw.other id aN C (bJ id N);have dq:=bR.bS z.tidy z.up λid aN C N=>bw.other id aN C (λb5=>bG id b5 N);have dr:ei 88 2 H aS y I g:=⟨z.tidy,z.up,.inr ⟨λN=>by
        rcases aZ.alt with ⟨C,-⟩|⟨C,-⟩
        all_goals grind,ah,z⟩⟩
       have bK:=bk.O;have da:=bk.ok;have cj:=aL.up.get ar.1 bV;have bg:=λtm=>aK.call ad (n+1+1) ab ab ag aL.up aL.tidy ae af tm cO cE;refine au.bM (λtm H'=>ag=H'/\ ∃bW,aM 62 [(38,.int .i64 (aw:Nat)),(37,.int .i64 (g.length:Nat)),(13,.int .i64 (Q:Nat)),(12,.int .i64 (rows.length:Nat)),(1,.ptr aA ai 0 1),(2,.ptr aB aj 0 1),(3,.ptr aC ak 0 1),(6,v),(11,x),(8,.W aP [.str o q,Z,.str p s,y,.int .i64 u,.int .i64 w,T]),(36,y),(9,.int .i64 (aw:Nat)),(10,.W bW [.str bt bu,.str ae af])] tm) ?_ ?_
       . simp only [go_sem,hF,bK,bO,cA,cB];exact an.mk ⟨rfl,_,by simp only [go_sem,hF];trivial⟩
       clear hF;rintro tm _ ⟨rfl,bW,hF⟩;simp only [go_sem,hF];refine au.aE ?_ ?_<;>intro ck<;>simp only [go_sem,hF,ck,bK,cj,bU,aK.op,bg,bO,cP,cQ,cR,cS,cU]
       . exact au.next ag rfl ah ay
       . exact au.next aS rfl ah ay
     . rintro ag tm ⟨aL,bT,aZ,bR⟩ hF;simp only [go_sem];exact an.mk ah
   clear hF;rintro tm cV ⟨⟨bf,bE,B,L⟩,hF⟩;obtain ⟨aS,b7,cz⟩:=Yw (l:=o) (m:=q) (ls:=p) (ms:=s) (i:=u) (j:=w) bf bE B L b0 bI bZ bJ b1 bG aG aH;have bN:Rows 7 [[aa.str o q,dk S,.str p s,gB I g,.int .i64 u,.int .i64 w,gB c aR]]:=λa6 cq=>by
    rw [bs.1 cq];refine ⟨rfl,λv aY=> ?_⟩;have bx:=fW S;have bz:=xH aG;have bA:=xH aH;simp only [b2,dG,or_false] at aY;rcases aY with rfl|rfl|rfl|rfl|rfl|rfl|rfl
    . exact ⟨rfl,rfl⟩
    . exact ⟨bx.J,bx.aI _⟩
    . exact ⟨rfl,rfl⟩
    . exact ⟨bz.J,bz.aI _⟩
    . exact ⟨rfl,rfl⟩
    . exact ⟨rfl,rfl⟩
    . exact ⟨bA.J,bA.aI _⟩
   obtain ⟨cN,bY,b6,bl,dd⟩:=cz.app (E:=G) (t:=24) (b:=120) (i:=t52) aq aq rfl rfl al al (x:= .A [[.str o q,dk S,.str p s,gB I g,.int .i64 u,.int .i64 w,gB c aR]] true) (aQ:= [_]) (dR (.inr ⟨_,rfl⟩) bN.len) bN ah;have b9:(rows.map ct)[Q]? =some [aa.str o q,dk S,.str p s,gB I g,.int .i64 u,.int .i64 w,gB c aR]:=by rw [hO,bq];show some [aa.str o q,dk (f bC),.str p s,gB I (f I),.int .i64 u,.int .i64 w,gB c (f c)]=_;rw [bm bp,bm aG,bm aH]
   rw [<-od b9] at bl;obtain ⟨cW,cX,cY,cZ⟩:=B.facts;obtain ⟨c0,c1,c2,c3⟩:=L.facts;simp only [go_sem,hF,bf.O,b7,bH,b6,bl.O];exact au.next (cN,bY) rfl bl ay
 . rintro ⟨v,bB⟩ tm a hF;simp only at a hF;rw [show (rows.map ct).take rows.length=rows.map ct by rw [<-di ct,bX]] at a;simp only [go_sem,hF,a.O,a.nl,dX,if_true];exact bn.mk (a.gc ar (U.refl _) (d:=19) id)
def U0 {s:List aa} {kN jv rop j3 aR:Y} (T:oz s kN jv rop j3 aR) (cp:kN.length+jv.length+rop.length+j3.length+aR.length<800000) (b5: ∀r∈rop,nk r) (b1: ∀r∈j3,nk r):
    bo λad n=> ∀H K p,Tidy H->ec 9 H K->ec 9 H p->f_ (some K) (some K)=true->f_ (some p) (some p)=true->
    ∃ w H',(∃z B C D F,w= .agg [z,B,C,D,F]/\P 9 1 H H' z kN/\P 166 2 H H' B jv/\P 52 7 H H' C (rop.map ct)/\P 52 7 H H' D (j3.map ct)/\P 9 1 H H' F aR/\ [z,B,C,D,F].Pairwise cc)/\
      ∀tm,az G (X G R ad n) 148 [.agg s,p,K] H tm= .ok w tm H':=by
 obtain ⟨bb,aL⟩:=Jp 800000 al;obtain ⟨bc,aW⟩:=Jw rop T.op b5 ab;obtain ⟨b8,bW⟩:=Jw j3 T.cP b1 ab;obtain ⟨bw,bL,bu,bl,bz,rfl,a7,aH,a6,aZ,a8⟩:=T.eq;refine ⟨bb+bc+b8+1048580,λad n cr b4 H K p ao Z h bk aK=> ?_⟩;obtain ⟨n,rfl⟩:=bY n;refine bn.at (m:=52) rfl rfl rfl rfl rfl (by simp only [aO,Z.nl,h.nl];rfl) rfl rfl ?_;have bm: ∀ {H:af} {aI:aa},Tidy H->y H.n 20 aI=true->Tidy (H.push (.cells (q 130) (q 130) 0 [aI])):=λaC b7=>aC.push (by show [_].all _=true;simp only [aO,jm,kz (mN _) 20 _ b7];rfl);have aG:=bm ao h.ids;have aN:U H (H.push (.cells (q 130) (q 130) 0 [p])):=(U.refl H).push _;have a:=bm aG (kz aN.n 20 _ Z.ids);have b6:=aN.trans ((U.refl _).push (.cells (q 130) (q 130) 0 [K]));refine bn.bM (λtm Q=>(Tidy Q/\U H Q/\Q.get (H.n+1)=some (.cells (q 130) (q 130) 0 [K])/\Q.get H.n=some (.cells (q 130) (q 130) 0 [p]))/\aM 55 [(3,.W 0 [bw,bL,bu,bl,bz]),(4,.ptr H.n (q 130) 0 1),(5,.ptr (H.n+1) (q 130) 0 1),(6,.W 0 [.V,.V,.V,.V,.V]),(9,.av []),(11,.av [])] tm) ?_ ?_
 . simp only [go_sem,a7.J,aH.J,a6.J,aZ.J,a8.J,h.op,Z.op,h.ok,Z.ok,h.cs,Z.cs];exact an.mk ⟨⟨a,b6,vo _ _ _,yg _ _ _⟩,dC⟩
 rintro tm Q ⟨⟨aG,aN,aP,o⟩,hF⟩;have br:Tidy (Q.push (.cells (q 254) (q 254) 0 [.fn (.func 222) [] []])):=aG.push rfl;have ak:=(U.refl Q).push (.cells (q 254) (q 254) 0 [.fn (.func 222) [] []]);refine bn.bF hF (λS tm ag=> ∃aw aj aS,(Tidy ag/\U Q ag/\ag.get aw=some (.cells aj aS 0 [.fn (.func 222) [] []])/\aS<=aj)/\aM 55 [(7,.ptr aw aj 0 1)] tm/\S tm) ?_ ?_
 . simp only [go_sem,hF];exact an.mk ⟨_,_,_,⟨br,ak,dL _ _,aT _⟩,ay⟩
 clear hF ak br;rintro tm ag ⟨aw,aj,aS,⟨a,ak,ae,bd⟩,hF⟩;refine bn.kp [3,4,6,11,9] (λS tm H'=>ag=H'/\M tm 7= .ptr aw aj 0 1/\M tm 8= .fn (.func 223) [] [.ptr (H.n+1) (q 130) 0 1,.ptr aw aj 0 1,.ptr H.n (q 130) 0 1]/\S tm) ?_ ?_
 . simp only [go_sem,hF];exact an.mk ⟨rfl,ay⟩
 clear hF;rintro tm _ ⟨rfl,hF⟩;have u:=aN.trans ak;have aP:=ak.get aG.1 aP;have o:=ak.get aG.1 o;obtain ⟨z,bB,d,aU⟩:=aL ad n ab ab bw kN ag p T.so ab a (.inl a7) (h.up u);obtain ⟨F,bC,j,bU⟩:=aL ad n ab ab bz aR bB p T.bJ ab d.tidy (.inl a8) (h.up (u.trans d.up));have L:=d.up.trans j.up;obtain ⟨C,bD,g,bS⟩:=aW ad n ab ab bu bC K p _ _ _ _ _ _ _ _ _ j.tidy a6 (Z.up (u.trans L)) (h.up (u.trans L)) bk aK (L.get a.1 aP) (aT _) (L.get a.1 ae) bd (L.get a.1 o) (aT _);have N:=L.trans g.up;obtain ⟨D,aJ,f,bT⟩:=bW ad n ab ab bl bD K p _ _ _ _ _ _ _ _ _ g.tidy aZ (Z.up (u.trans N)) (h.up (u.trans N)) bk aK (N.get a.1 aP) (aT _) (N.get a.1 ae) bd (N.get a.1 o) (aT _);have aF:=N.trans f.up;refine bn.kp [3,4,6,11] (λS tm H'=>aJ=H'/\M tm 9= .W 0 [z,.V,C,D,F]/\S tm) ?_ ?_
 . have bf:=ae;have bg:=d.up.get a.1 ae;have cA:=L.get a.1 ae;have cB:=N.get a.1 ae;have cC:=aF.get a.1 ae;have cd:=o;have cf:=d.up.get a.1 o;have cD:=L.get a.1 o;have cE:=N.get a.1 o;have cF:=aF.get a.1 o;simp only [go_sem,hF,a7.O,a6.O,aZ.O,a8.O,bf,bg,cd,cf,bd,aT,h.op,aU,bU,bS,bT,aK,d.O,d.ok,d.cs,g.O,g.ok,g.cs,f.O,f.ok,f.cs,j.O,j.ok,j.cs];exact an.mk ⟨rfl,ay⟩
 clear hF;rintro tm _ ⟨rfl,hF⟩;have o:=aF.get a.1 o;have aY:=u.trans aF;have b0:=EL T.be;refine bn.kp [3,4,6] (λS tm H'=> ∃B,P 166 2 aJ H' B jv/\M tm 9= .W 0 [z,B,C,D,F]/\S tm) ?_ ?_
 . simp only [go_sem,hF,aH.O,aH.len];generalize cq:a1 _ _ _ _ _ _ _ _ _ _=bK;revert bK;refine cv [3,4,6,33] (λs=> [(9,.W 0 [z,s.1,C,D,F])]) (λs=>s.2) (λbt s=>P 166 2 aJ s.2 s.1 (jv.take bt)) jv.length (.V,aJ) (P.new _ _ f.tidy) ?_ ?_
   . rintro bt ⟨aI,ah⟩ tm b3 l hF;simp only at l hF|-;obtain ⟨r,aX⟩:=bA b3;have bp:=aV aX;obtain ⟨ar,ax,aA,aB,rfl,ch,cj,b9,ca⟩:=T.be r bp;have cb:=l.up.get f.tidy.1 o;have bN:=λtm=>h.call ad n ab ab ah (aY.trans l.up) l.tidy ar ax tm ch b9;have bO:=λtm=>h.call ad n ab ab ah (aY.trans l.up) l.tidy aA aB tm cj ca;have bq:Rows 2 [[aa.str ar ax,.str aA aB]]:=λv c=>b0 v (by rw [bs.1 c];exact bp);obtain ⟨cg,bE,bV,aD,-⟩:=l.app (E:=G) (t:=23) (b:=32) (i:=t166) aq aq rfl rfl al al (x:= .A [[.str ar ax,.str aA aB]] true) (aQ:= [_]) (dR (.inr ⟨_,rfl⟩) bq.len) bq (by rw [h6];show _+1<_;omega);rw [<-od aX] at aD;have bZ:cT G 23 1 [(0,.agg [.str ar ax,.str aA aB])] ah=some (.A [[.str ar ax,.str aA aB]] true,ah):=aq;simp only [go_sem,hF,aH.O,aH.a_ (k:=2) aX rfl,cb,aT,h.op,bN,bO,aK,bZ,bH,l.O,bV,aD.O,aD.ok,aD.cs];exact au.next (cg,bE) rfl aD ay
   . rintro ⟨aI,ah⟩ tm l hF;simp only at l hF;rw [bX] at l;simp only [go_sem];exact an.mk ⟨aI,l,ay⟩
 clear hF;rintro tm ah ⟨B,e,hF⟩;simp only [go_sem,hF,d.ok,e.ok,g.ok,f.ok,j.ok];have aE: ∀ {v},v∈ [z,B,C,D,F]->y H.n 20 (.agg [z,B,C,D,F])=true->y H.n (18+1) v=true:=λ{v} c aC=>by have aC: [z,B,C,D,F].all (y H.n 19)=true:=aC;exact ba.1 aC v c
 have ck:=(d.at (aF.trans e.up|>λ_=>e.tidy) ((j.up.trans g.up).trans (f.up.trans e.up)));have cn:=j.at e.tidy (g.up.trans (f.up.trans e.up));have cl:=g.at e.tidy (f.up.trans e.up);have cm:=f.at e.tidy e.up;refine bn.mk ⟨z,B,C,D,F,rfl,ck.gc ao u (aE ai),e.gc ao aY (aE ai),cl.gc ao (u.trans L) (aE ai),cm.gc ao (u.trans N) (aE ai),cn.gc ao (u.trans d.up) (aE ai),?_⟩;have cu:=d.up.n;have cz:=j.up.n;have cx:=g.up.n;have cy:=f.up.n;have cw:=e.up.n;have I: ∀ {aU bb bR bc bG bh bj bI:_} {bx w:aa} {bf bg},P aU bb bG bh bx bf->P bR bc bj bI w bg->bh.n<=bj.n->cc bx w:=λaL aW b4 id bP bQ=>by have:=aL.W.lt bP;have:=aW.W.ge bQ;omega
 refine hq.2 ⟨λv c=> ?_,hq.2 ⟨λv c=> ?_,hq.2 ⟨λv c=> ?_,hq.2 ⟨λv c=> ?_,hq.2 ⟨λv c=> ?_,List.Pairwise.nil⟩⟩⟩⟩⟩
 . simp only [b2,dG,or_false] at c;rcases c with rfl|rfl|rfl|rfl
   . exact I d e ab
   . exact I d g ab
   . exact I d f ab
   . exact I d j ab
 . simp only [b2,dG,or_false] at c;rcases c with rfl|rfl|rfl
   . exact (I g e ab).symm
   . exact (I f e ab).symm
   . exact (I j e ab).symm
 . simp only [b2,dG,or_false] at c;rcases c with rfl|rfl
   . exact I g f ab
   . exact (I j g ab).symm
 . simp only [b2,dG,or_false] at c;subst c;exact (I j f ab).symm
 . cases c
def P.pM {g k h l:Nat} {c a b d:af} {u w:aa} {m o:Y} (i:P g k c a u m) (j:P h l b d w o) (p:a.n<=b.n):cc u w:=λid e f=>by have:=i.W.lt e;have:=j.W.ge f;omega
def IK {n d:Nat} {l:List aa} (a:y n (d+1) (.agg l)=true) {q:aa} (b:q∈l):y n d q=true:=ba.1 (show l.all (y n d)=true from a) q b
def D9 (l:Y):l.length<=(l.map ju).sum:=by
 induction l with
 |nil=>simp
 | cons a l b=>
   have:1<=ju a:=by unfold ju;omega
   simp only [fS,kE,cl];omega
structure FF (mc H:af) (w:aa) (kN jv rop j3 m4:Y) (ne W_:Nat):Prop where
  eq: ∃n v1 v2 v3 v4 v5 uE o k m sr st uG K6 K7,w= .agg [n,v1,v2,v3,v4,v5,uE,o,k,m,sr,st,uG]/\kW n/\kW k/\kW st/\kW uG/\P 9 1 mc H v1 kN/\P 166 2 mc H v2 jv/\P 52 7 mc H v3 (rop.map ct)/\P 52 7 mc H v4 (j3.map ct)/\P 9 1 mc H v5 m4/\
    P 81 15 mc H uE K6/\xi 10 o/\xi 10 m/\P 64 7 mc H sr K7/\K6.length=ne/\K7.length=W_/\ [v1,v2,v3,v4,v5,uE,sr].Pairwise cc
def Vf {d s:List aa} {kN jv rop j3 cD req p bQ u:Y} (C:fz d s kN jv rop j3 cD req p bQ u) (dx:kN.length+jv.length+rop.length+j3.length+cD.length<800000) (dF: ∀r∈rop,nk r) (dD: ∀r∈j3,nk r)
    {N:Nat} (hT:bL (eE req p bQ u) N) (hN:N<50000):bo λad n=> ∀H fv,Tidy H->ec 1 H fv->f_ (some fv) (some fv)=true->
    ∃w H',FF H H' w kN jv rop j3 cD req.length u.length/\ ∀tm,az G (X G R ad n) 74 [.agg d,fv] H tm= .ok w tm H':=by
 obtain ⟨cw,aX⟩:=U0 C.bT dx dF dD;have cj: ∀ {c6:Y} {cE:Nat},cE<100000->bL c6 cE->bo λad n=> ∀r∈c6,l9 r ad n:=λeM aL=>dE λr a7=>Jn (aL.g_ a7).1 (by have:=(aL.g_ a7).2;omega);have cJ: ∀ {cx:Y},(∀r∈cx,r∈p++bQ)->bo λad n=> ∀r∈cx,l9 (dQ r) ad n:=λ{cx} cK=>by obtain ⟨en,aL⟩:=cj ab hT.left.right;exact ⟨en,λad n aD aE r a7=>aL ad n aD aE (dQ r) (cd.2 ⟨r,cK r a7,rfl⟩)⟩
 have ew:p.length<1048560:=by have:=C.iN;omega
 have ev:bQ.length<1048560:=by have:=C.iN;omega
 have e8:req.length<1048556:=by have:=C.iN;omega
 have e9:u.length<1048556:=by have aX:=C.iN;have:=D9 u;omega
 obtain ⟨ep,bg⟩:=Jm p C.b9 ew (cJ λr a7=>hP _ a7);obtain ⟨er,du⟩:=Jm bQ C.hm ev (cJ λr a7=>h7 _ a7);obtain ⟨et,dv⟩:=dE (l:=req) (Q:=λe ad n=>l9 (e.take 6) ad n/\l9 ((e.drop 6).take 6) ad n/\ ∀b8 H bd,Tidy H->F b8 (f (M e 12))->ec 9 H bd-> ∃g,oB (λ_=>True) g/\ ∀tm,az G (X G R ad n) 151 [bd,b8] H tm= .ok g tm H) λe b4=>by have j:bL (eo e) N:=hT.left.left.flat (cd.2 ⟨e,b4,rfl⟩);obtain ⟨cb,b1⟩:=cj ab j;have ch:bL (f (M e 12)) N:=j.right;have:=ch.len;obtain ⟨dm,cg⟩:=y_ (f (M e 12)) ch.i0 ab (cj ab ch);exact ⟨cb+dm,λad n fi fj=>⟨b1 ad n ab ab _ (by simp [eo]),b1 ad n ab ab _ (by simp [eo]),λb8 H bd=>cg ad n ab ab b8 H bd⟩⟩
 obtain ⟨eu,dw⟩:=dE (l:=u) (Q:=λe ad n=> ∀H bd,Tidy H->ec 9 H bd-> ∃aU,(aU.length=7/\ ∀g∈aU,J g=true/\D 20 g=true)/\ ∀tm,az G (X G R ad n) 152 [bd,.agg e] H tm= .ok (.agg aU) tm H) λe b4=>
  Vi (C.bh e b4) (hT.right.flat (cd.2 ⟨e,b4,rfl⟩)) hN
 obtain ⟨ff,cG,cz,eT,cy,r,fo,fr,rfl,⟨S,af,rfl,dg,cY⟩,bG,cu,⟨L,ae,rfl,df,cX⟩,ct,bK,⟨T,ag,rfl,dh,cZ⟩,⟨Z,ah,rfl,di,c0⟩⟩:=C.eq;obtain ⟨c9,cF,c3,cI,dc,rfl,ej,dY,ei,eb,ek⟩:=C.bT.eq;refine ⟨cw+ep+er+et+eu+1048580,λad n cK eN H fv bb aS eL=> ?_⟩;obtain ⟨n,rfl⟩:=bY n;simp only [bl,a6];refine bn.at (m:=89) rfl rfl rfl rfl rfl (by simp only [aO,aS.nl];rfl) rfl rfl ?_;have bt:Tidy (H.push (.cells (q 130) (q 130) 0 [fv])):=bb.push (by show [_].all _=true;simp only [aO,jm,kz (mN _) 20 _ aS.ids];rfl);have bq:=(U.refl H).push (.cells (q 130) (q 130) 0 [fv]);refine bn.bM (λtm ak=>(Tidy ak/\U H ak/\ak.get H.n=some (.cells (q 130) (q 130) 0 [fv]))/\aM 91 [(2,.W 0 [.str S af,c9,cF,c3,cI,dc,cG,cz,.str L ae,cy,r,.str T ag,.str Z ah]),(3,.ptr H.n (q 130) 0 1),(4,.W 0 [.str 0 0,.V,.V,.V,.V,.V,.V,.V,.str 0 0,.V,.V,.str 0 0,.str 0 0]),(7,.av []),(9,.av []),(11,.av [])] tm) ?_ ?_
 . simp only [go_sem,ej.J,dY.J,ei.J,eb.J,ek.J,bG.J,cu.J,ct.J,bK.J,aS.op,aS.ok,aS.cs];exact an.mk ⟨⟨bt,bq,dL _ _⟩,dC⟩
 clear bt bq;rintro tm ak ⟨⟨bt,bq,cA⟩,hF⟩;have cn:ec 9 ak (.fn (.func 145) [] [.ptr H.n (q 130) 0 1]):=ec.mono ⟨rfl,λ_=>rfl,rfl,rfl,by have aY:Nat.blt H.n ak.n=true:=h_ (gW cA);show ([].all (y ak.n 19)&& [aa.ptr H.n (q 130) 0 1].all (y ak.n 19))=true;simp only [aO,jm,y,aY];rfl,⟨_,_,_,rfl⟩,IJ cA (aT _) bt.1 (aT _) (λad n aX bg H' bD=>aS.call ad n aX bg H' (bq.trans bD)) aS.op⟩ (show 2<=9 by decide);have bj:Tidy (ak.push (.cells (q 192) (q 192) 0 [.fn (.func 145) [] [.ptr H.n (q 130) 0 1]])):=bt.push (by show [_].all _=true;simp only [aO,jm,kz (mN _) 20 _ cn.ids];rfl);have br:=(U.refl ak).push (.cells (q 192) (q 192) 0 [.fn (.func 145) [] [.ptr H.n (q 130) 0 1]]);refine bn.bM (λtm z=> ∃bc bf cf,(Tidy z/\U ak z/\z.get bc=some (.cells bf cf 0 [.fn (.func 145) [] [.ptr H.n (q 130) 0 1]])/\cf<=bf)/\aM 91 [(2,.W 0 [.str S af,c9,cF,c3,cI,dc,cG,cz,.str L ae,cy,r,.str T ag,.str Z ah]),(4,.W 0 [.str 0 0,.V,.V,.V,.V,.V,.V,.V,.str 0 0,.V,.V,.str 0 0,.str 0 0]),(5,.ptr bc bf 0 1),(7,.av []),(9,.av []),(11,.av [])] tm) ?_ ?_
 . simp only [go_sem,hF];exact an.mk ⟨_,_,_,⟨bj,br,dL _ _,aT _⟩,ay⟩
 clear hF br bj;rintro tm z ⟨bc,bf,cf,⟨bj,br,b7,b6⟩,hF⟩;have ea:ec 9 z (.fn (.func 146) [] [.ptr bc bf 0 1]):=ec.mono ⟨rfl,λ_=>rfl,rfl,rfl,by have aY:Nat.blt bc z.n=true:=h_ (gW b7);show ([].all (y z.n 19)&& [aa.ptr bc bf 0 1].all (y z.n 19))=true;simp only [aO,jm,y,aY];rfl,⟨_,_,_,rfl⟩,Tp b7 b6 bj.1 (show 1<=2 by decide) (λad n aX bg H' bD=>IJ cA (aT _) bt.1 (aT _) (λad n aX bg H' bD=>aS.call ad n aX bg H' (bq.trans bD)) aS.op ad n aX bg H' (br.trans bD)) cn.op⟩ (show 3<=9 by decide);have cp:=cn.up br;refine bn.bF hF (λaj tm H'=>z=H'/\aM 91 [(6,.fn (.func 146) [] [.ptr bc bf 0 1])] tm/\aj tm) ?_ ?_
 . simp only [go_sem,hF];exact an.mk ⟨rfl,ay⟩
 clear hF;rintro tm _ ⟨rfl,hF⟩;obtain ⟨_,aC,⟨ar,aw,ax,aA,aB,rfl,h,bS,bU,bV,bW,dI⟩,ds⟩:=aX ad n ab ab z _ _ bj ea cp (LV _ _ _ _ _) (LV _ _ _ _ _);have bk:=cp.up h.up;obtain ⟨aH,cm,dr⟩:=bg ad n ab ab cz aC _ h.tidy cu bk;obtain ⟨aG,cl,dq⟩:=du ad n ab ab cy aC _ h.tidy ct bk;have cB:=h.up.get bj.1 b7;refine bn.kp [2,4,5,9,11] (λaj tm H'=>aC=H'/\M tm 7= .W 0 [.str S af,ar,aw,ax,aA,aB,.V,aH,.str L ae,aG,.V,.str T ag,.str Z ah]/\aj tm) ?_ ?_
 . have aW:=λtm=>cp.call ad n ab ab z (U.refl _) bj S af tm dg cY;have bX:=λtm=>bk.call ad n ab ab aC (U.refl _) h.tidy L ae tm df cX;have bZ:=λtm=>bk.call ad n ab ab aC (U.refl _) h.tidy T ag tm dh cZ;have cH:=λtm=>bk.call ad n ab ab aC (U.refl _) h.tidy Z ah tm di c0;obtain ⟨eD,bJ,ef,eh⟩:=id cm;obtain ⟨eC,bI,ed,ee⟩:=id cl;simp only [eg,a6,bl] at aW bX bZ cH;simp only [go_sem,hF,cu.O,ct.O,b7,cB,b6,aW,bX,bZ,cH,ds,dr,dq,h.ok,bS.ok,bU.ok,bV.ok,bW.ok,bJ.O,bJ.J,bJ.cells,bI.O,bI.J,bI.cells];exact an.mk ⟨rfl,ay⟩
 clear hF;rintro tm _ ⟨rfl,hF⟩;obtain ⟨eD,bJ,ef,eh⟩:=id cm;obtain ⟨eC,bI,ed,ee⟩:=id cl;have dU:bN G 81=some (.agg [.int .i64 0,.int .i64 0,.str 0 0,.str 0 0,.V,.V,.int .i64 0,.int .i64 0,.str 0 0,.str 0 0,.V,.V,.V,.int .i64 0,.int .i64 0]):=aq;refine bn.kp [2,4,5,11] (λaj tm H'=> ∃o aJ,(P 81 15 aC H' o aJ/\aJ.length=req.length)/\M tm 7= .W 0 [.str S af,ar,aw,ax,aA,aB,o,aH,.str L ae,aG,.V,.str T ag,.str Z ah]/\aj tm) ?_ ?_
 . simp only [go_sem,hF,bG.O,bG.len];generalize dz:a1 _ _ _ _ _ _ _ _ _ _=ca;revert ca;refine cv [2,4,5,11,45] (λs=> [(7,.W 0 [.str S af,ar,aw,ax,aA,aB,s.1,aH,.str L ae,aG,.V,.str T ag,.str Z ah])]) (λs=>s.2) (λbP s=> ∃aJ,P 81 15 aC s.2 s.1 aJ/\aJ.length=bP) req.length (.V,aC) ⟨[],P.new _ _ h.tidy,rfl⟩ ?_ ?_
   . clear hF;rintro bP ⟨o,B⟩ tm ck ⟨aJ,a,aP⟩ hF;simp only at a hF|-;obtain ⟨e,bu⟩:=bA ck;have bC:=aV bu;obtain ⟨eJ,eK,bx,aD,aE,rfl,eH,eI,⟨fm,b5,eS,eO⟩,⟨aD,rfl⟩,⟨aE,rfl⟩⟩:=C.kx e bC;obtain ⟨b1,cg,dt⟩:=dv ad n ab ab _ bC;obtain ⟨cV,c1,cM,cN,cO,cP,da,I,eY,eU,rfl,dP,dO⟩:=eH.t;obtain ⟨cW,c2,cQ,cR,cS,cU,db,c4,eZ,eV,rfl,dT,dS⟩:=eI.t;have cq:=bk.up a.up;obtain ⟨bz,dd,aW⟩:=(show l9 [.int .i64 cV,.int .i64 c1,.str cM cN,.str cO cP,da,I] ad n from b1) B _ a.tidy cq;obtain ⟨bB,de,bX⟩:=(show l9 [.int .i64 cW,.int .i64 c2,.str cQ cR,.str cS cU,db,c4] ad n from cg) B _ a.tidy cq;obtain ⟨bR,dJ,bZ⟩:=dt bx B _ a.tidy (by show F bx (f bx);rw [bm b5];exact b5) cq;obtain ⟨eR,bO,eP,eQ⟩:=id dJ;have c5:=dd.row;have v:=de.row;have a8:Rows 15 [bz++bB++ [bR,.int .i64 aD,.int .i64 aE]]:=λdj bw=>by
      rw [bs.1 bw];refine ⟨by simp [c5.1,v.1],λg c=> ?_⟩;rcases cr.1 c with c|c
      . rcases cr.1 c with c|c
        . exact c5.2 g c
        . exact v.2 g c
      . simp only [b2,dG,or_false] at c;rcases c with rfl|rfl|rfl
        . exact ⟨bO.J,bO.aI _⟩
        . exact ⟨rfl,rfl⟩
        . exact ⟨rfl,rfl⟩
     have aY:cT G 27 1 [(0,.agg (bz++bB++ [bR,.int .i64 aD,.int .i64 aE]))] B=some (.A [bz++bB++ [bR,.int .i64 aD,.int .i64 aE]] true,B):=
      mo (E:=G) (t:=27) (el:=81) (k:=15) (H:=B) aq aq dU al rfl al (.agg (bz++bB++ [bR,.int .i64 aD,.int .i64 aE])) ⟨(a8 _ (bs.2 rfl)).1,ba.2 λg c=>((a8 _ (bs.2 rfl)).2 g c).1,ba.2 λg c=>((a8 _ (bs.2 rfl)).2 g c).2⟩
     obtain ⟨eF,aK,b0,aN,-⟩:=a.app (E:=G) (t:=27) (b:=232) (i:=t81) aq aq rfl rfl al al (x:= .A [bz++bB++ [bR,.int .i64 aD,.int .i64 aE]] true) (aQ:= [_]) (dR (.inr ⟨_,rfl⟩) a8.len) a8 (by rw [aP];show _+1<_;omega);obtain ⟨e3,fh,e4,e5,e6,e7,fq,fl,e1,eX,rfl,dX,dW⟩:=dd.t;obtain ⟨e2,fg,fa,fb,fc,fe,fp,fk,e0,eW,rfl,dN,dM⟩:=de.t;simp only [bl,a6] at bu aY b0;have cC:=a.up.get h.tidy.1 cB;refine au.kp [47,46,2,4,5,11,45] (λaj tm H'=>B=H'/\ ∃c8,M tm 7= .W 0 [.str S af,ar,aw,ax,aA,aB,o,aH,.str L ae,aG,.V,.str T ag,.str Z ah]/\M tm 9= .W c8 [.int .i64 cV,.int .i64 c1,.str cM cN,.str cO cP,da,I,.int .i64 cW,.int .i64 c2,.str cQ cR,.str cS cU,db,c4,bx,.int .i64 aD,.int .i64 aE]/\aj tm) ?_ ?_
     . simp only [go_sem,hF,bG.O,bG.a_ (k:=15) bu rfl,dP.J,dO.J,dT.J,dS.J,b5.J];exact an.mk ⟨rfl,_,by simp only [go_sem,hF];trivial⟩
     clear hF;rintro tm _ ⟨rfl,c8,hF⟩;simp only [go_sem,hF,cC,b6,b5.O,aW,bX,bZ,dX.J,dW.J,dN.J,dM.J,bO.O,bO.J,bO.cells,a.O,aY,bH,b0,aN.O,aN.ok,aN.cs];exact au.next (eF,aK) rfl ⟨_,aN,by simp [aP]⟩ ay
   . rintro ⟨o,B⟩ tm ⟨aJ,a,aP⟩ hF;simp only at a hF;simp only [go_sem];exact an.mk ⟨o,aJ,⟨a,aP⟩,ay⟩
 clear hF;rintro tm B ⟨o,aJ,⟨ao,dy⟩,hF⟩;have dV:bN G 64=some (.agg [.str 0 0,.V,.V,.V,.V,.int .i64 0,.int .i64 0]):=aq;refine bn.kp [2,4] (λaj tm H'=> ∃K v,(P 64 7 B H' K v/\v.length=u.length)/\M tm 7= .W 0 [.str S af,ar,aw,ax,aA,aB,o,aH,.str L ae,aG,K,.str T ag,.str Z ah]/\aj tm) ?_ ?_
 . simp only [go_sem,hF,bK.O,bK.len];generalize dz:a1 _ _ _ _ _ _ _ _ _ _=ca;revert ca;refine cv [2,4,5,75] (λs=> [(7,.W 0 [.str S af,ar,aw,ax,aA,aB,o,aH,.str L ae,aG,s.1,.str T ag,.str Z ah])]) (λs=>s.2) (λbP s=> ∃v,P 64 7 B s.2 s.1 v/\v.length=bP) u.length (.V,B) ⟨[],P.new _ _ ao.tidy,rfl⟩ ?_ ?_
   . clear hF;rintro bP ⟨K,aK⟩ tm ck ⟨v,a,aP⟩ hF;simp only at a hF|-;obtain ⟨e,bu⟩:=bA ck;have bC:=aV bu;obtain ⟨fs,eA,bx,w,dp,aD,aE,rfl,⟨cb,dn,rfl,-⟩,⟨_,dH,_⟩,⟨_,aR,_⟩,⟨_,dK,_⟩,⟨_,dB,_⟩,⟨ey,rfl⟩,⟨ez,rfl⟩⟩:=id (C.bh e bC);have dZ:=bk.up (ao.up.trans a.up);obtain ⟨aU,b3,aW⟩:=dw ad n ab ab _ bC aK _ a.tidy dZ;have a8:Rows 7 [aU]:=λdj bw=>by rw [bs.1 bw];exact b3
     have aY:cT G 29 1 [(0,.agg aU)] aK=some (.A [aU] true,aK):=
      mo (E:=G) (t:=29) (el:=64) (k:=7) (H:=aK) aq aq dV al rfl al (.agg aU) ⟨b3.1,ba.2 λg c=>(b3.2 g c).1,ba.2 λg c=>(b3.2 g c).2⟩
     obtain ⟨eG,dk,b0,aN,-⟩:=a.app (E:=G) (t:=29) (b:=128) (i:=t64) aq aq rfl rfl al al (x:= .A [aU] true) (aQ:= [_]) (dR (.inr ⟨_,rfl⟩) a8.len) a8 (by rw [aP];show _+1<_;omega);have cC:=a.up.get ao.tidy.1 (ao.up.get h.tidy.1 cB);refine au.kp [77,76,2,4,5,75] (λaj tm H'=>aK=H'/\ ∃c7,M tm 7= .W 0 [.str S af,ar,aw,ax,aA,aB,o,aH,.str L ae,aG,K,.str T ag,.str Z ah]/\M tm 11= .W c7 [.str cb dn,eA,bx,w,dp,.int .i64 ey,.int .i64 ez]/\aj tm) ?_ ?_
     . simp only [go_sem,hF,bK.O,bK.a_ (k:=7) bu rfl,dH.J,aR.J,dK.J,dB.J];exact an.mk ⟨rfl,_,by simp only [go_sem,hF];trivial⟩
     clear hF;rintro tm _ ⟨rfl,c7,hF⟩;simp only [go_sem,hF,cC,b6,aW,a.O,aY,bH,b0,aN.O,aN.ok,aN.cs];exact au.next (eG,dk) rfl ⟨_,aN,by simp [aP]⟩ ay
   . rintro ⟨K,aK⟩ tm ⟨v,a,aP⟩ hF;simp only at a hF;simp only [go_sem];exact an.mk ⟨K,v,⟨a,aP⟩,ay⟩
 clear hF;rintro tm aK ⟨K,v,⟨j,dA⟩,hF⟩;simp only [go_sem,hF,h.ok,bS.ok,bU.ok,bV.ok,bW.ok,bJ.J,bI.J,ao.ok,j.ok];have bE:=ao.up.trans j.up;have bp:=bq.trans br;have cL:=bp.trans h.up;have aR: ∀ {I},I∈ [.str S af,ar,aw,ax,aA,aB,o,aH,.str L ae,aG,K,.str T ag,.str Z ah]->y H.n 20 (.agg [.str S af,ar,aw,ax,aA,aB,o,aH,.str L ae,aG,K,.str T ag,.str Z ah])=true->y H.n (18+1) I=true:=λaZ aL=>IK aL aZ;have aF: ∀ {aW cw:Nat} {I eB},P aW cw z aC I eB->cc I o/\cc I K:=λaL=>⟨aL.pM ao (aT _),aL.pM j ao.up.n⟩;refine bn.mk ⟨⟨_,ar,aw,ax,aA,aB,o,aH,_,aG,K,_,_,aJ,v,rfl,⟨_,_,rfl,dg,cY⟩,⟨_,_,rfl,df,cX⟩,⟨_,_,rfl,dh,cZ⟩,⟨_,_,rfl,di,c0⟩,(h.at j.tidy bE).gc bb bp (aR ai),(bS.at j.tidy bE).gc bb bp (aR ai),(bU.at j.tidy bE).gc bb bp (aR ai),(bV.at j.tidy bE).gc bb bp (aR ai),(bW.at j.tidy bE).gc bb bp (aR ai),
  (ao.at j.tidy j.up).gc bb cL (aR ai),cm,cl,j.gc bb (cL.trans ao.up) (aR ai),dy,dA,?_⟩⟩
 have:=(rH (l₁:= [ar,aw,ax,aA,aB]) (l₂:= [o,K])).2 ⟨dI,hq.2 ⟨λI aZ=>by rw [bs.1 aZ];exact (P.pM ao j (aT _)),hq.2 ⟨λI aZ=>(by cases aZ),List.Pairwise.nil⟩⟩,λI aZ dj bw=> ?_⟩
 . exact this
 simp only [b2,dG,or_false] at aZ bw;rcases aZ with rfl|rfl|rfl|rfl|rfl<;>rcases bw with rfl|rfl
 . exact (aF h).1
 . exact (aF h).2
 . exact (aF bS).1
 . exact (aF bS).2
 . exact (aF bU).1
 . exact (aF bU).2
 . exact (aF bV).1
 . exact (aF bV).2
 . exact (aF bW).1
 . exact (aF bW).2
def Vg {d s:List aa} {kN jv rop j3 h req p D u:Y} (e:fz d s kN jv rop j3 h req p D u) (af:kN.length+jv.length+rop.length+j3.length+h.length<800000) (al: ∀r∈rop,nk r) (ak: ∀r∈j3,nk r)
    {N:Nat} (hT:bL (eE req p D u) N) (hN:N<50000):bo λad n=> ∀H,Tidy H->
    ∃w H',FF H H' w kN jv rop j3 h req.length u.length/\ ∀tm,az G (X G R ad n) 41 [.agg d] H tm= .ok w tm H':=by
 obtain ⟨aE,ae⟩:=Vf e af al ak hT hN;refine ⟨aE+20,λad n aT aU H a=> ?_⟩;obtain ⟨n,rfl⟩:=bY n;obtain ⟨w,aP,ah,v⟩:=ae ad n ab ab H _ a (Tn H) (ZP _);obtain ⟨bc,aR,bd,aZ,bb,r,bk,bp,rfl,⟨bw,bB,rfl,br,a7⟩,ar,ax,⟨bu,bA,rfl,bq,a1⟩,av,aB,⟨bx,bC,rfl,bs,a8⟩,⟨bz,bD,rfl,bt,ba⟩⟩:=e.eq;obtain ⟨bj,aQ,bf,aS,bm,rfl,aC,aq,aA,au,aD⟩:=e.bT.eq;obtain ⟨_,i,j,k,l,o,q,g,_,f,t,_,_,aJ,aK,rfl,⟨O,T,rfl,aM,aG⟩,⟨M,S,rfl,aL,aF⟩,⟨P,V,rfl,aN,aH⟩,⟨Q,W,rfl,aO,aI⟩,E,F,I,K,L,x,B,A,z,ag,aj,an⟩:=ah.eq;obtain ⟨bh,ay,aX,aY⟩:=id B;obtain ⟨bg,aw,aV,aW⟩:=id A;simp only [bl,a6] at v|-;refine bn.at (m:=4) rfl rfl rfl rfl rfl rfl rfl rfl ?_;simp only [go_sem,aC.J,aq.J,aA.J,au.J,aD.J,ar.J,ax.J,av.J,aB.J,v,E.ok,F.ok,I.ok,K.ok,L.ok,ay.J,aw.J,x.ok,z.ok];have b: ∀ {C},C∈ [.str O T,i,j,k,l,o,q,g,.str M S,f,t,.str P V,.str Q W]->y H.n 20 (.agg [.str O T,i,j,k,l,o,q,g,.str M S,f,t,.str P V,.str Q W])=true->y H.n (18+1) C=true:=λao Z=>IK Z ao;have c:=U.refl H;exact bn.mk ⟨⟨_,i,j,k,l,o,q,g,_,f,t,_,_,aJ,aK,rfl,⟨_,_,rfl,aM,aG⟩,⟨_,_,rfl,aL,aF⟩,⟨_,_,rfl,aN,aH⟩,⟨_,_,rfl,aO,aI⟩,E.gc a c (b ai),F.gc a c (b ai),I.gc a c (b ai),K.gc a c (b ai),L.gc a c (b ai),
  x.gc a c (b ai),B,A,z.gc a c (b ai),ag,aj,an⟩⟩
def int_ne (j:Nat):((j:Int)==((j+1:Nat):Int))=false:=by simp<;>omega
def I9 {ad n:Nat} {d H:af} {v:aa} {rows:Y} {j:Nat} (c:P 35 6 d H v rows) (q:j<rows.length) (r:rows.length<1048560):
    ∃a H',(fI 35 6 d H' a (rows.eraseIdx j)/\cW a=cW v/\iX d.n v a H H')/\ ∀tm,az G (X G R ad (n+1)) 91 [v,.int .i64 (j:Nat),.int .i64 ((j+1:Nat):Nat)] H tm= .ok a tm H':=by
 obtain ⟨J,L,M,a,F,N,I,f,g,h,i,o,l,⟨K,A,B,C⟩,s,e,x,p,u⟩:=c.del (k:=6) (E:=G) (t:=33) (b:=96) (ti:=t35) (z:= .agg [.int .i64 0,.int .i64 0,.str 0 0,.str 0 0,.V,.V]) aq aq aq rfl rfl al al rfl rfl (λv y n=>fR n 20 20 v al (ba.1 (show (aa.cells (.agg [.int .i64 0,.int .i64 0,.str 0 0,.str 0 0,.V,.V])).all (D 20)=true from rfl) v y)) q r;have w:=int_ne j;refine bn.at (m:=30) rfl rfl rfl rfl rfl (by simp only [aO,c.nl];rfl) rfl rfl ?_;simp only [go_sem,c.O,c.len,f,w,g,h,A,B,i,bH,e.O,s,o,l,C,e.nl,dX,if_true];refine bn.mk ?_;rw [ft (yW u)];exact ⟨e,x,p⟩
def Uv {ad n:Nat} {d H:af} {v:aa} {rows:Y} {j:Nat} (c:P 9 1 d H v rows) (q:j<rows.length) (r:rows.length<1048560):
    ∃a H',(fI 9 1 d H' a (rows.eraseIdx j)/\cW a=cW v/\iX d.n v a H H')/\ ∀tm,az G (X G R ad (n+1)) 100 [v,.int .i64 (j:Nat),.int .i64 ((j+1:Nat):Nat)] H tm= .ok a tm H':=by
 obtain ⟨J,L,M,a,F,N,I,f,g,h,i,o,l,⟨K,A,B,C⟩,s,e,x,p,u⟩:=c.del (k:=1) (E:=G) (t:=22) (b:=16) (ti:=t9) (z:= .str 0 0) aq aq aq rfl rfl al al rfl rfl (λv y n=>fR n 20 20 v al (ba.1 (show (aa.cells (.str 0 0)).all (D 20)=true from rfl) v y)) q r;have w:=int_ne j;refine bn.at (m:=30) rfl rfl rfl rfl rfl (by simp only [aO,c.nl];rfl) rfl rfl ?_;simp only [go_sem,c.O,c.len,f,w,g,h,A,B,i,bH,e.O,s,o,l,C,e.nl,dX,if_true];refine bn.mk ?_;rw [ft (yW u)];exact ⟨e,x,p⟩
@[go_sem] theorem ag8:s 2 (.string ⟨#[48,49,50,51,52,53,54,55,56,57,97,98,99,100,101,102,103,104,105,106,107,108,109,110,111,112,113,114,115,116,117,118,119,120,121,122]⟩)= .str 36 237927390410950444456928663707796224754864904193074819559483181009558347043374296609072:=aq
@[go_sem] theorem acp:b 93= []:=aq
@[go_sem] theorem ack:b 168= []:=aq
@[go_sem] theorem acm:b 244= []:=aq
@[go_sem] theorem aco:b 306= []:=aq
@[go_sem] theorem acn:b 302= []:=aq
theorem QA (i:Nat) (a:i<10):m8 36 237927390410950444456928663707796224754864904193074819559483181009558347043374296609072 (some (.int .i64 (i:Nat))) (some (.int .i64 ((i:Int)+1))) none=some (.str 1 (48+i)):=by
 match i,a with
 |0,_=>rfl
 |1,_=>rfl
 |2,_=>rfl
 |3,_=>rfl
 |4,_=>rfl
 |5,_=>rfl
 |6,_=>rfl
 |7,_=>rfl
 |8,_=>rfl
 |9,_=>rfl
def XY (l m:Nat) (lo a8 tm H):ij G 9 (some TypeDesc.string) (.str l m) lo a8 none tm H=bb (m8 l m lo a8 none) tm H:=by
 have a:=KE G 9 (.str l m) lo a8 none tm H;rw [lA] at a;rw [a];simp only [go_sem]
theorem abA:d G R 306 (λi:Nat=>i<10) (λi=> [.int .i64 (i:Nat)]) (λi=> .str 1 (48+i)):=by refine d.run (m:=14) rfl rfl rfl rfl (λ_=>rfl) (λ_ _=>rfl) rfl rfl 0 λk l h j i c g f=> ?_;have a:decide ((i:Int)<10)=true:=da;have b:IntKind.i64.wrap ((i:Int)+1)=(i:Int)+1:=wrap64 _ ab ab;simp only [go_sem,a,b,XY,QA i c];refine e.mk ?_ f (U.refl _);rfl
theorem abl:d G R 244 (λi:Nat=>i<10) (λi=> [.int .i64 (i:Nat),.int .i64 10]) (λi=> .str 1 (48+i)):=by obtain ⟨k,f⟩:=abA;refine d.run (m:=52) rfl rfl rfl rfl (λ_=>rfl) (λ_ _=>rfl) rfl rfl (k+1) λl n p q i j b a=> ?_;have g:decide (0<=(i:Int))=true:=ai;have h:decide ((i:Int)<100)=true:=da;have c:=λo=>f l n ab ab i j b o a;simp only [go_sem,g,h,c];refine e.mk ?_ a (U.refl _);rfl
theorem abp:d G R 168 (λi:Nat=>i<10) (λi=> [.int .i64 (i:Nat)]) (λi=> .str 1 (48+i)):=by obtain ⟨h,f⟩:=abl;refine d.run (m:=4) rfl rfl rfl rfl (λ_=>rfl) (λ_ _=>rfl) rfl rfl (h+1) λj k n o i g b a=> ?_;have c:=λl=>f j k ab ab i g b l a;simp only [go_sem,c];refine e.mk ?_ a (U.refl _);rfl
theorem Ag:d G R 93 (λi:Nat=>i<10) (λi=> [.int .i64 (i:Nat)]) (λi=> .str 1 (48+i)):=by obtain ⟨h,f⟩:=abp;refine d.run (m:=4) rfl rfl rfl rfl (λ_=>rfl) (λ_ _=>rfl) rfl rfl (h+1) λj k n o i g b a=> ?_;have c:=λl=>f j k ab ab i g b l a;simp only [go_sem,c];refine e.mk ?_ a (U.refl _);rfl
end Go.aj
