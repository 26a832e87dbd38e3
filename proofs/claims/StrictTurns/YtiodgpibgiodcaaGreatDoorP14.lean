/- A part of the proof. -/
import Derived.Test.YtiodgpibgiodcaaGreatDoorP00
import Derived.Test.YtiodgpibgiodcaaGreatDoorP07
import Derived.Test.YtiodgpibgiodcaaGreatDoorP11
import Derived.Test.YtiodgpibgiodcaaGreatDoorP13
set_option linter.all false
set_option maxHeartbeats 4000000
namespace Go.aj
open Go Go.Proofs.Tryz
set_option maxRecDepth 100000
def cn (l m a b:Nat):List aa:= [.int .i64 6,.int .i64 0,.str l m,.str a b,.V,.V]
def cm (l m:Nat) (y:aa):List aa:= [.int .i64 5,.int .i64 0,.str l m,.str 0 0,y,.V]
def eX (y z:aa):List aa:= [.int .i64 7,.int .i64 0,.str 0 0,.str 0 0,y,z]
def Fc:d G R 95 (λ_:Nat×Nat×Nat×Nat=>True) (λp=> [.str p.1 p.2.1,.str p.2.2.1 p.2.2.2]) (λp=> .agg (cn p.1 p.2.1 p.2.2.1 p.2.2.2)):=by
 refine d.run (m:=6) rfl rfl rfl rfl (λ_=>rfl) (λ_ _=>rfl) rfl rfl 0 λk n h i a _ c b=> ?_;obtain ⟨j,l,f,g⟩:=a;simp only [go_sem];exact e.mk rfl b (U.refl _)
def abM (j:Nat) (r:List aa):List aa:=match r with
 | [.str a b]=>cn 2 (88+(48+(j+1))<<<8) a b
 |_=> []
def cp (args:Y):Y:=args.mapIdx abM
def qP (args):(cp args).length=args.length:=C2
def uv (l m a b:Nat):(cn l m a b).length=6/\ ∀v∈cn l m a b,J v=true/\D 20 v=true:=⟨rfl,λv d=>by
 have c:(cn l m a b).all (λv=>J v&&D 20 v)=true:=rfl;have:=ba.1 c v d;simpa using this⟩
def ki {r:List aa} (a:r.length=6/\ ∀v∈r,J v=true/\D 20 v=true) (H:af):cT G 33 1 [(0,.agg r)] H=some (.A [r] true,H):=
 mo (E:=G) (t:=33) (el:=35) (k:=6) (H:=H) (z:= .agg [.int .i64 0,.int .i64 0,.str 0 0,.str 0 0,.V,.V]) aq aq aq al rfl al (.agg r) ⟨a.1,ba.2 λv b=>(a.2 v b).1,ba.2 λv b=>(a.2 v b).2⟩
def JB:bo λad n=> ∀r l m args ls ms st H,fB r l m args ls ms st->args.length<9->Tidy H->
    ∃v H',P 35 6 H H' v (cp args)/\ ∀tm,az G (X G R ad n) 89 [.agg r] H tm= .ok v tm H':=by
 obtain ⟨aa,M⟩:=Ag;obtain ⟨ae,N⟩:=Fc;refine ⟨aa+ae+40,λad n aj an r l m args ls ms st H w ak B=> ?_⟩;obtain ⟨n,rfl⟩:=bY n;obtain ⟨q,av,e,ao,ar,rfl,f,Z,aw,W,-⟩:=w.eq;refine bn.at (m:=24) rfl rfl rfl rfl rfl rfl rfl rfl ?_;simp only [go_sem,f.J,W.J,Z.J,f.O,f.len];generalize ai:a1 _ _ _ _ _ _ _ _ _ _=F;revert F;have hF:=trivial;refine cv [7] (λe=> [(3,e.1)]) (λe=>e.2) (λc e=>P 35 6 H e.2 e.1 ((cp args).take c)) args.length (.V,H) (P.new _ _ B) ?_ ?_
 . rintro c ⟨v,g⟩ tm S a hF;simp only at a hF|-;obtain ⟨C,p⟩:=bA S;have T:=aV p;obtain ⟨h,j,rfl,-⟩:=w.hS C T;have s:=λtm=>M ad n ab ab (c+1) ab g tm a.tidy;have u:=λl m q I tm=>N ad n ab ab (l,m,q,I) trivial g tm a.tidy;simp only at s u;have ag:IntKind.i64.wrap ((c:Int)+1)=((c+1:Nat):Int):=by rw [wrap64 _ ab ab];rfl
   have ah:1+1<=ht:=al;have y:=uv 2 (88+(48+(c+1))<<<8) h j;have Q:=ki y g;have z:Rows 6 [cn 2 (88+(48+(c+1))<<<8) h j]:=λC Y=>by rw [bs.1 Y];exact y
   obtain ⟨af,D,K,o,-⟩:=a.app (E:=G) (t:=33) (b:=96) (i:=t35) aq aq rfl rfl al al (x:= .A [cn 2 (88+(48+(c+1))<<<8) h j] true) (aQ:= [_]) (dR (.inr ⟨_,rfl⟩) z.len) z (by rw [h6];show _+1<_;omega);have L:(cp args)[c]? =some (cn 2 (88+(48+(c+1))<<<8) h j):=by unfold cp;rw [yO,p];rfl
   rw [<-od L] at o;simp only [go_sem,hF,f.O,f.a_ (k:=1) p rfl,ag,s,ah,u,Q,bH,a.O,K,o.O];exact au.next (af,D) rfl o ay
 . rintro ⟨v,g⟩ tm a hF;simp only at a hF;rw [<-qP,bX] at a;simp only [go_sem,hF,a.O,a.nl,dX,if_true];exact bn.mk (a.gc B (U.refl _) (d:=19) id)
def fe (l:Nat):Nat:=l+1+1
def gD (l m j:Nat):Nat:=m+39<<<(8*l)+(48+(j+1))<<<(8*(l+1))
def ko (l m:Nat) (args:Y) (ls ms j:Nat):List aa:= [.str (fe l) (gD l m j),.A (args.eraseIdx j) false,.str ls ms,.V,.int .i64 0,.int .i64 0,.V]
theorem DB:bo λad n=> ∀r l m args ls ms st j H,fB r l m args ls ms st->args.length<9->j<args.length->Tidy H->
  ∀tm,az G (X G R ad n) 60 [.agg r,.int .i64 ((j+1:Nat):Nat)] H tm= .ok (.agg (ko l m args ls ms j)) tm H:=by
 obtain ⟨x,u⟩:=Ag;refine ⟨x+40,λad n I L r l m args ls ms st j H e K d i=> ?_⟩;obtain ⟨n,rfl⟩: ∃y,n=y+1+1:=⟨n-2,ab⟩;obtain ⟨E,T,V,Q,S,rfl,c,w,U,v,-⟩:=e.eq;obtain ⟨A,k,p,q⟩:=I5 (ad:=ad) (n:=n) i c e.hS.rows ab;have h:P 9 1 H k A args:=by
  rcases p.alt with ⟨b,-⟩|⟨-,-,b⟩
  . rw [b] at d;simp at d
  . exact b
 obtain ⟨Y,f,⟨a,M,F⟩,s⟩:=Uv (ad:=ad) (n:=n) h d ab;have g:=λtm=>u ad (n+1) ab ab (j+1) ab f tm a.tidy;simp only at g;have B:IntKind.i64.wrap (((j+1:Nat):Int)-1)=(j:Nat):=by rw [wrap64 _ ab ab];omega
 have N:=e.s1;have C:l+1<=ht:=by unfold ht;omega
 have D:l+1+1<=ht:=by unfold ht;omega
 obtain ⟨o,t,W,z,-⟩:=a.aZ 48 al al;refine jQ (aL.at (m:=21) rfl rfl rfl rfl rfl rfl rfl rfl ?_);simp only [go_sem,c.J,v.J,w.J,c.O,q,B,s,h.O,a.O,g,C,D,a.ok,a.cs];refine .inl ⟨_,rfl,_,f,o,rfl,?_,gV i (z H (aT _) a.up) rfl⟩;refine wB ?_;simp only [cD,Go.aj.zB,Go.aj.wC,Go.aj.Ez,t];rfl
def UD (x fv:aa) (rows:Y) (p:List aa->Bool) (a:F x rows) (u: ∀r∈rows,r.length=10) (A:rows.length<4611686018427387904) (o:aD fv=true) (s: ∀t,O t fv=fv)
    (ad n:Nat) (z:rows.length<ad) (H:af) (h:Tidy H) (l: ∀r∈rows,∀tm,cx G (X G R ad n) fv [.agg r] H tm= .ok (.bool (p r)) tm H): ∃i,ni p rows i/\ ∀tm,az G (X G R ad (n+1)) 243 [x,fv] H tm= .ok (.int .i64 i) tm H:=by
 refine oT (aL.at (m:=17) rfl rfl rfl rfl rfl (by simp only [aO,a.aD,o];rfl) rfl rfl ?_);simp only [go_sem,a.O,a.len];generalize y:a1 _ _ _ _ _ _ _ _ _ _=j;revert j;have hF:=trivial;refine dA [0,1] (λb=>(rows.take b).any p=false) rows.length rfl ?_ ?_
 . intro b w tm q c hF;obtain ⟨r,f⟩: ∃r,rows[b]? =some r:=de;have e:=aV f;have g:=u r e;have v:r.take 10=r:=ah;simp only [go_sem,hF,a.O,s,a.a_ (k:=10) f g,g,v,l r e];refine au.aE ?_ ?_<;>intro d<;>simp only [go_sem,hF,d]
   . refine au.stop rfl ?_;simp only [go_sem,hF];exact ak.mk ⟨b,rfl,.inr ⟨b,rfl,q,kB.2 ⟨r,e,d⟩⟩⟩ rfl h (U.refl _)
   . exact au.next () rfl (nr f c d) ay
 . intro w tm c hF;rw [bX] at c;simp only [go_sem,hF];exact ak.mk ⟨-1,rfl,.inl ⟨rfl,c⟩⟩ rfl h (U.refl _)
def Uq (x fv:aa) (rows:Y) (p:List aa->Bool) (a:F x rows) (k: ∀r∈rows,r.length=10) (j:rows.length<4611686018427387904) (b:aD fv=true) (c: ∀t,O t fv=fv)
    (ad n:Nat) (i:rows.length<ad) (H:af) (d:Tidy H) (g: ∀r∈rows,∀tm,cx G (X G R ad n) fv [.agg r] H tm= .ok (.bool (p r)) tm H):
    ∀tm,az G (X G R ad (n+2)) 166 [x,fv] H tm= .ok (.bool (rows.any p)) tm H:=by
 obtain ⟨l,h,e⟩:=UD x fv rows p a k j b c ad n i H d g;refine fa (aL.at (m:=7) rfl rfl rfl rfl rfl (by simp only [aO,a.aD,b];rfl) rfl rfl ?_);simp only [go_sem,a.O,c,e];refine ak.mk ?_ rfl d (U.refl _);rcases h with ⟨rfl,f⟩|⟨o,rfl,-,f⟩
 all_goals simp_all
def UH (x fv:aa) (rows:Y) (p:List aa->Bool) (a:F x rows) (u: ∀r∈rows,r.length=7) (A:rows.length<4611686018427387904) (o:aD fv=true) (s: ∀t,O t fv=fv)
    (ad n:Nat) (z:rows.length<ad) (H:af) (h:Tidy H) (l: ∀r∈rows,∀tm,cx G (X G R ad n) fv [.agg r] H tm= .ok (.bool (p r)) tm H): ∃i,ni p rows i/\ ∀tm,az G (X G R ad (n+1)) 78 [x,fv] H tm= .ok (.int .i64 i) tm H:=by
 refine oT (aL.at (m:=17) rfl rfl rfl rfl rfl (by simp only [aO,a.aD,o];rfl) rfl rfl ?_);simp only [go_sem,a.O,a.len];generalize y:a1 _ _ _ _ _ _ _ _ _ _=j;revert j;have hF:=trivial;refine dA [0,1] (λb=>(rows.take b).any p=false) rows.length rfl ?_ ?_
 . intro b w tm q c hF;obtain ⟨r,f⟩: ∃r,rows[b]? =some r:=de;have e:=aV f;have g:=u r e;have v:r.take 7=r:=ah;simp only [go_sem,hF,a.O,s,a.a_ (k:=7) f g,g,v,l r e];refine au.aE ?_ ?_<;>intro d<;>simp only [go_sem,hF,d]
   . refine au.stop rfl ?_;simp only [go_sem,hF];exact ak.mk ⟨b,rfl,.inr ⟨b,rfl,q,kB.2 ⟨r,e,d⟩⟩⟩ rfl h (U.refl _)
   . exact au.next () rfl (nr f c d) ay
 . intro w tm c hF;rw [bX] at c;simp only [go_sem,hF];exact ak.mk ⟨-1,rfl,.inl ⟨rfl,c⟩⟩ rfl h (U.refl _)
def Us (x fv:aa) (rows:Y) (p:List aa->Bool) (a:F x rows) (k: ∀r∈rows,r.length=7) (j:rows.length<4611686018427387904) (b:aD fv=true) (c: ∀t,O t fv=fv)
    (ad n:Nat) (i:rows.length<ad) (H:af) (d:Tidy H) (g: ∀r∈rows,∀tm,cx G (X G R ad n) fv [.agg r] H tm= .ok (.bool (p r)) tm H):
    ∀tm,az G (X G R ad (n+2)) 45 [x,fv] H tm= .ok (.bool (rows.any p)) tm H:=by
 obtain ⟨l,h,e⟩:=UH x fv rows p a k j b c ad n i H d g;refine fa (aL.at (m:=7) rfl rfl rfl rfl rfl (by simp only [aO,a.aD,b];rfl) rfl rfl ?_);simp only [go_sem,a.O,c,e];refine ak.mk ?_ rfl d (U.refl _);rcases h with ⟨rfl,f⟩|⟨o,rfl,-,f⟩
 all_goals simp_all
def RA {r:List aa} (f:iz r) (ad n:Nat) (H:af) (g:Tidy H) (tm:List aa):cx G (X G R ad (n+1)) (.fn (.func 167) [] []) [.agg r] H tm= .ok (.bool (eV 1 107 r)) tm H:=by
 obtain ⟨w,z,k,c,d,rfl,⟨a,b,rfl,-⟩,⟨B,C,rfl,-⟩,j,⟨c,rfl⟩,⟨d,rfl⟩⟩:=f;obtain ⟨v,x,l,o,p,q,A,y,u,s,rfl,i,h⟩:=j.t;simp only [eg,a6,fw,bl];refine fa (aL.at (m:=5) rfl rfl rfl rfl rfl rfl rfl rfl ?_) tm;have e:(a==1&&b==107)=(1==a&&107==b):=ah;simp only [go_sem,i.J,h.J,e];refine ak.mk ?_ rfl g (U.refl _);simp only [go_sem,eV]
def rp (p:Y):Bool:=p.any (eV 1 107)
def Vq {p:Y} (b: ∀r∈p,iz r) (f:p.length<1048560) {ad n:Nat} (d:p.length<ad) {o:aa} (e:F o p) {H:af} (c:Tidy H):
    ∀tm,az G (X G R ad (n+1+2)) 166 [o,.fn (.func 167) [] []] H tm= .ok (.bool (rp p)) tm H:=
 Uq o _ p (eV 1 107) e (λr a=>(iz.row (b r a)).1) ab rfl (λ_=>rfl) ad (n+1) d H c λr a tm=>RA (b r a) ad n H c tm
def qo {ad n:Nat} {y w:aa} {H H':af} (d:aD y=true) (op: ∀t,O t y=y) (ok:J y=true) (cs:y.cells= [y]) (c:aZ (48+1) y H=some (w,H')) (e:H'.n=H.n) (l m:Nat):
    ∀tm,az G (X G R ad (n+1)) 90 [.str l m,y] H tm= .ok (.agg (cm l m w)) tm H':=by
 have: ∃b a,(b= .agg (cm l m w)/\a=H')/\ ∀tm,az G (X G R ad (n+1)) 90 [.str l m,y] H tm= .ok b tm a:=by refine dJ.at (m:=6) rfl rfl rfl rfl rfl (by simp only [aO,d];rfl) rfl rfl ?_;simp only [go_sem,op,ok,cs];refine dJ.mk (wB (cs':=cm l m w) (H':=H') ?_) ⟨rfl,ft ab⟩;simp only [cD,Go.aj.zB,Go.aj.wC,Go.aj.Ez,c];rfl
 grind
def cM:aa:= .A [cn 1 75 4 1953720652] true
theorem Js:bo λad n=> ∀y rows H,F y rows->Tidy H-> ∀tm,az G (X G R ad n) 94 [y] H tm= .ok (.agg (eX y cM)) tm H:=by obtain ⟨f,d⟩:=Fc;refine ⟨f+2,λad n g h y rows H a c=> ?_⟩;obtain ⟨n,rfl⟩:=bY n;have b:=λtm=>d ad n ab ab (1,75,4,1953720652) trivial H tm c;simp only at b;have e:=ki (uv 1 75 4 1953720652) H;refine jQ (aL.at (m:=6) rfl rfl rfl rfl rfl (by simp only [aO,a.aD];rfl) rfl rfl ?_);simp only [go_sem,a.O,a.J,a.cells,b,e];refine ak.mk rfl ?_ c (U.refl _);show [aa.int .i64 7,.int .i64 0,.str 0 0,.str 0 0,y,cM].all (D 19)=true;simp only [aO,a.aI];rfl
def wH (p:Y) (a b:aa):List aa:= [.str 1 107,if rp p then .str 0 0 else .str 1 105,.int .i64 7,.int .i64 0,.str 0 0,.str 0 0,a,cM,.A [eX b cM] true,.int .i64 0,.int .i64 0]
def j5 (p:Y) (a b:Nat) (c d w:aa):List aa:= [.str a b,.A [wH p c d] true,w,.V,.V,.int .i64 0,.int .i64 0]
def Jt {d s:List aa} {kN jv rop j3 aY req p aW u:Y} (k:fz d s kN jv rop j3 aY req p aW u):bo λad n=> ∀(f g:Nat) (c b y w:aa) (P Q:Y) (H H':af),F c P->F b Q->Tidy H->aD y=true->(∀t,O t y=y)->J y=true->y.cells= [y]->aZ (48+1) y H=some (w,H')->H'.n=H.n->
    ∀tm,az G (X G R ad n) 92 [.agg d,.str f g,.agg (eX c cM),.agg (eX b cM),y] H tm= .ok (.agg (j5 p f g c b w)) tm H':=by
 have aS:p.length<1048560:=by have:=k.iN;omega
 obtain ⟨bg,i,K,ba,I,N,bh,bj,rfl,⟨ae,ak,rfl,bm,bc⟩,aJ,q,⟨Z,ai,rfl,bk,bb⟩,aL,aP,⟨ag,al,rfl,bn,bd⟩,⟨ah,ao,rfl,bp,bf⟩⟩:=k.eq;obtain ⟨T,v,L,x,U,rfl,aQ,aH,aN,aK,aR⟩:=k.bT.eq;refine ⟨p.length+20,λad n a1 a7 f g c b y w P Q H H' j o aG aU aV ok aq aA a8=> ?_⟩;obtain ⟨n,rfl⟩: ∃aT,n=aT+1+2+1:=⟨n-4,ab⟩;have ar:=Vq k.b9 aS (ad:=ad) (n:=n) ab q aG;simp only [bl,a6];have aX:(eX b cM).length=6/\ ∀a∈eX b cM,J a=true/\D 20 a=true:=⟨rfl,λa aF=>by
  have au:(eX b cM).all (λa=>J a&&D 20 a)=true:=by show [aa.int .i64 7,.int .i64 0,.str 0 0,.str 0 0,b,cM].all (λa=>J a&&D 20 a)=true;simp only [aO,o.J,o.aI];rfl
  grind⟩
 have C:=ki aX H;have S:J cM=true:=rfl;have r: ∀h:aa,J h=true->D 20 h=true->([.str 1 107,h,.int .i64 7,.int .i64 0,.str 0 0,.str 0 0,c,cM,.A [eX b cM] true,.int .i64 0,.int .i64 0]:List aa).length=11/\ ∀a∈([.str 1 107,h,.int .i64 7,.int .i64 0,.str 0 0,.str 0 0,c,cM,.A [eX b cM] true,.int .i64 0,.int .i64 0]:List aa),J a=true/\D 20 a=true:=λh aw ax=>⟨rfl,λa aF=>by
  have au:([.str 1 107,h,.int .i64 7,.int .i64 0,.str 0 0,.str 0 0,c,cM,.A [eX b cM] true,.int .i64 0,.int .i64 0]:List aa).all (λa=>J a&&D 20 a)=true:=by simp only [aO,j.J,j.aI,aw,ax];rfl
  grind⟩
 have aB:=xx (r (.str 0 0) rfl rfl) H;have aC:=xx (r (.str 1 105) rfl rfl) H;have: ∃a e,(a= .agg (j5 p f g c b w)/\e=H')/\ ∀tm,az G (X G R ad (n+1+2+1)) 92 [.agg [.str ae ak,T,v,L,x,U,i,K,.str Z ai,I,N,.str ag al,.str ah ao],.str f g,.agg (eX c cM),.agg (eX b cM),y] H tm= .ok a tm e:=by
  refine dJ.at (m:=21) rfl rfl rfl rfl rfl (by simp only [aO,aU];rfl) rfl rfl ?_;simp only [eX] at C aB aC|-;refine dJ.bM (λtm e=>H=e/\aM 26 [(1,.str f g),(4,y),(5,.W 0 [.str ae ak,T,v,L,x,U,i,K,.str Z ai,I,N,.str ag al,.str ah ao]),(10,.W 0 [.str 0 0,.V,.V,.V,.V,.int .i64 0,.int .i64 0]),(7,.W 0 [.int .i64 7,.int .i64 0,.str 0 0,.str 0 0,c,cM]),(8,.W 0 [.int .i64 7,.int .i64 0,.str 0 0,.str 0 0,b,cM]),(11,.av [])] tm) ?_ ?_
  . simp only [go_sem,aQ.J,aH.J,aN.J,aK.J,aR.J,aJ.J,q.J,aL.J,aP.J,j.J,o.J,S];exact an.mk ⟨rfl,dC⟩
  rintro tm _ ⟨rfl,hF⟩;refine dJ.kp [1,4,5,10] (λl tm e=>H=e/\M tm 11= .W 0 [.str 1 107,.str 0 0,.int .i64 7,.int .i64 0,.str 0 0,.str 0 0,c,cM,.A [[.int .i64 7,.int .i64 0,.str 0 0,.str 0 0,b,cM]] true,.int .i64 0,.int .i64 0]/\l tm) ?_ ?_
  . simp only [go_sem,hF,j.J,S,C];exact an.mk ⟨rfl,ay⟩
  clear hF;rintro tm _ ⟨rfl,hF⟩;refine dJ.kp [1,4,5,10] (λl tm e=>H=e/\M tm 11= .W 0 [.str 1 107,(if rp p then .str 0 0 else .str 1 105),.int .i64 7,.int .i64 0,.str 0 0,.str 0 0,c,cM,.A [[.int .i64 7,.int .i64 0,.str 0 0,.str 0 0,b,cM]] true,.int .i64 0,.int .i64 0]/\l tm) ?_ ?_
  . simp only [go_sem,hF,q.O,ar];refine an.aE ?_ ?_<;>intro z<;>simp only [go_sem,hF,z]
    all_goals (refine an.mk ⟨rfl,?_⟩;simp only [go_sem,hF,z])
  clear hF;rintro tm _ ⟨rfl,hF⟩;have B:J (if rp p then aa.str 0 0 else .str 1 105)=true/\D 20 (if rp p then aa.str 0 0 else .str 1 105)=true:=by split<;>exact ⟨rfl,rfl⟩
  have E:=xx (r _ B.1 B.2) H;simp only [go_sem,hF,eX] at E|-;simp only [go_sem,hF,aV,E,ok,aq];refine dJ.mk (wB (cs':=j5 p f g c b w) (H':=H') ?_) ⟨rfl,ft ab⟩;simp only [cD,Go.aj.zB,Go.aj.wC,Go.aj.Ez,Go.aj.uc,aA];rfl
 obtain ⟨_,_,⟨rfl,rfl⟩,i⟩:=this;exact i
def j7:List aa->Int
 | [.int _ a]=>a
 |_=>0
def jA (args:Y) (i:Int):List aa:=((cp args)[(i-1).toNat]?).getD []
def fb (r:List aa):List aa:=cm 7 28558080999846761 (.A [r] true)
def n2 (r:List aa):List aa:=cm 3 7630702 (.A [fb r] true)
def lQ (args st:Y) (a:Nat) (j:Nat):Y:=((st.take a).map λb=>fb (jA args (j7 b)))++ [n2 (jA args ((j+1:Nat):Int))]
def gX (p:Y) (l m:Nat) (args st:Y) (a j:Nat):List aa:=
 j5 p (l+6+1) (m+104953454880863<<<(8*l)+(48+(j+1))<<<(8*(l+6))) (.A [cm l m (dk (cp args))] true) (.A [jA args ((j+1:Nat):Int),cm (fe l) (gD l m j) (.A ((cp args).eraseIdx j) false)] true) (dk (lQ args st a j))
def Fi {args:Y} {i:Int} (a:1<=i) (b:i<=args.length):(cp args)[(i-1).toNat]? =some (jA args i):=by
 unfold jA;have:(i-1).toNat<(cp args).length:=by rw [qP];omega
 simp_all
def Ni {args:Y} (e:b8 args):Rows 6 (cp args):=λj a=>by
 unfold cp at a;obtain ⟨i,f,b⟩:=List.mem_mapIdx.1 a;obtain ⟨g,h,c,-⟩:=e _ (List.getElem_mem f);rw [<-b,c];exact uv _ _ _ _
def M5 {args:Y} {i:Int} (a:1<=i) (b:i<=args.length):jA args i∈cp args:=aV (Fi a b)
def M4 {args:Y} (h:b8 args) {i:Int} (j:1<=i) (k:i<=args.length): ∃a b c d,jA args i=cn a b c d:=by
 have e:=M5 j k;unfold cp at e;obtain ⟨m,l,f⟩:=List.mem_mapIdx.1 e;obtain ⟨a,b,g,-⟩:=h _ (List.getElem_mem l);rw [<-f,g];exact ⟨_,_,_,_,rfl⟩
def qN (l m:Nat) {y:aa} (a:J y=true/\D 20 y=true):(cm l m y).length=6/\ ∀v∈cm l m y,J v=true/\D 20 v=true:=⟨rfl,λv b=>by
 have a:(cm l m y).all (λv=>J v&&D 20 v)=true:=by show [aa.int .i64 5,.int .i64 0,.str l m,.str 0 0,y,.V].all (λv=>J v&&D 20 v)=true;simp only [aO,a.1,a.2];rfl
 grind⟩
def tZ (r:Y) (c:Bool):J (.A r c)=true/\D 20 (.A r c)=true:=⟨rfl,rfl⟩
def k7 {r:List aa} {k:Nat} (a:r.length=k/\ ∀v∈r,J v=true/\D 20 v=true):D bR (.agg r)=true:=by
 show r.all (D 49)=true;exact ba.2 λv b=>fr 20 49 v al (a.2 v b).2
def Gj {r q:List aa} (b:r.length=6/\ ∀v∈r,J v=true/\D 20 v=true) (g:q.length=6/\ ∀v∈q,J v=true/\D 20 v=true) (H:af):cT G 33 2 [(0,.agg r),(1,.agg q)] H=some (.A [r,q] true,H):=
 uX (E:=G) (t:=33) (el:=35) (k:=6) (H:=H) (z:= .agg [.int .i64 0,.int .i64 0,.str 0 0,.str 0 0,.V,.V]) aq aq aq al rfl al (.agg r) (.agg q) ⟨b.1,ba.2 λv a=>(b.2 v a).1,ba.2 λv a=>(b.2 v a).2⟩ ⟨g.1,ba.2 λv a=>(g.2 v a).1,ba.2 λv a=>(g.2 v a).2⟩
def fI.mono {el k:Nat} {a b H:af} {v:aa} {rows:Y} (l:fI el k b H v rows) (c:U a b):fI el k a H v rows:=by
 obtain ⟨⟨id,j,d,h,i,e,f⟩,g,m,o⟩:=l;exact ⟨⟨id,j,d,h,i,eT c.n e,f⟩,g,m,c.trans o⟩
def ps (args:Y) (j:Nat):List aa:=match args[j]? with
 |some [.str a b]=>cn 1 86 a b
 |_=> []
def kl (p:Y) (l m:Nat) (args:Y) (j:Nat):List aa:=
 j5 p (l+6+1) (m+104919330677599<<<(8*l)+(48+(j+1))<<<(8*(l+6))) (.A [ps args j,cm (fe l) (gD l m j) (.A ((cp args).eraseIdx j) false)] true) (.A [cm l m (dk ((cp args).set j (ps args j)))] true) (.A [fb (ps args j)] true)
def P.aaI {el k:Nat} {a H:af} {v:aa} {rows:Y} (b:P el k a H v rows) {j:Nat} {r:List aa} (i:rows[j]? =some r) (vs:List aa) (l:vs.length=k) (m: ∀v∈vs,J v=true/\D 20 v=true):
    ∃p H',kA k v (.int .i64 (j:Nat))=some p/\(∀t,Go.aj.O t p=p)/\fh p=true/\(∀tm,hf k p vs tm H= .ok (.av []) tm H')/\P el k a H' v (rows.set j vs)/\iX a.n v v H H':=by
 have q:j<rows.length:=ah;have w:=b.rw.len r ah;obtain ⟨id,g,d,o,H',rfl,-,-,-,-,c,e,h⟩:=b.st i 0 vs ab m;have f:putAt 0 vs r=vs:=by
  unfold putAt
  grind
 rw [f] at e;rw [l] at c;refine ⟨.ptr id g (0+j*k) (0+j*k+k),H',?_,λ_=>rfl,rfl,c,e,h⟩;show (if k=k/\j<rows.length then _ else _)=_
 grind
def cG.bS {H H':af} {k:Nat} {x:aa} {rows:Y} (a:cG H k x rows) (i: ∀id o,H.get id=some o->cW x=some id->H'.get id=some o):cG H' k x rows:=by
 rcases a with a|⟨id,e,d,l,c,j,b,f,rfl,g,h⟩
 . exact .inl a
 . exact .inr ⟨id,e,d,l,c,j,b,f,rfl,i id _ g rfl,h⟩
section
variable {d s:List aa} {kN jv rop j3 aJ req p aU u:Y} (aX:fz d s kN jv rop j3 aJ req p aU u)
include aX
theorem Vr:bo λad n=> ∀r l m args ls ms st (a j:Nat) H,fB r l m args ls ms st->args.length<=8->(∀q∈st,∃i:Int,q= [.int .i64 i]/\1<=i/\i<=args.length)->st.length<=8->st[a]? =some [.int .i64 ((j+1:Nat):Int)]->Tidy H->
  ∀tm,az G (X G R ad n) 54 [.agg d,.agg r,.int .i64 (a:Nat)] H tm= .ok (.agg (gX p l m args st a j)) tm H:=by
 obtain ⟨da,b0⟩:=JB;obtain ⟨db,ag⟩:=Ag;obtain ⟨dc,cH⟩:=DB;obtain ⟨dd,b1⟩:=Js;obtain ⟨de,b2⟩:=Jt aX;have cJ:=aX.eq;obtain ⟨dX,ba,bj,dS,bh,bp,ea,ed,rfl,⟨bz,bD,rfl,ef,dU⟩,c2,c5,⟨bx,bC,rfl,ee,dT⟩,c4,c7,⟨bA,bE,rfl,eg,dV⟩,⟨bB,bG,rfl,eh,dW⟩⟩:=cJ;obtain ⟨br,a8,bk,bd,bw,rfl,c8,c1,c6,c3,c9⟩:=aX.bT.eq;refine ⟨da+db+dc+dd+de+40,λad n dJ dM r l m args ls ms st a j H S dK ca dP b5 cb=> ?_⟩;obtain ⟨n,rfl⟩: ∃df,n=df+1+1:=⟨n-2,ab⟩;obtain ⟨a7,bm,bq,bn,ac,rfl,cI,aH,dZ,cP,-⟩:=S.eq;have dI:a<st.length:=ah;obtain ⟨dQ,bO,b4,cL⟩:=ca _ (aV b5);simp only [jn,aa.int.injEq,true_and,and_true] at bO;subst bO;have cM:j<args.length:=ab;obtain ⟨aP,L,F,ct⟩:=b0 ad (n+1) ab ab _ l m args ls ms st H S ab cb;have aA:=Ni S.hS;have dO:=qP args;have aw:=Fi (args:=args) b4 ab;have cA:(((j+1:Nat):Int)-1).toNat=j:=ab;rw [cA] at aw;obtain ⟨ei,c0,aW⟩:=aH.fG (k:=1) ah (j:=a) ab;have dL:=S.s1;simp only [bl,a6] at b2|-;refine jQ (aL.at (m:=83) rfl rfl rfl rfl rfl rfl rfl rfl ?_);have ej:List aa:= [];refine ak.bM (λtm h=>H=h/\aM 86 [(2,.int .i64 (a:Nat)),(3,.W 0 [.str bz bD,br,a8,bk,bd,bw,ba,bj,.str bx bC,bh,bp,.str bA bE,.str bB bG]),(4,.W 0 [.str l m,a7,.str ls ms,bm,.int .i64 bn,.int .i64 ac,bq]),(6,.W 0 [.str 0 0,.V,.V,.V,.V,.int .i64 0,.int .i64 0])] tm) ?_ ?_
 . simp only [go_sem,c8.J,c1.J,c6.J,c3.J,c9.J,c2.J,c5.J,c4.J,c7.J,cI.J,cP.J,aH.J];exact an.mk ⟨rfl,dC⟩
 rintro tm _ ⟨rfl,hF⟩;refine ak.bF hF (λT tm h=>H=h/\aM 86 [(7,.int .i64 ((j+1:Nat):Int))] tm/\T tm) ?_ ?_
 . simp only [go_sem,hF,aH.O,aH.a_ (k:=1) b5 rfl];exact an.mk ⟨rfl,ay⟩
 clear hF;rintro tm _ ⟨rfl,hF⟩;refine ak.bM (λtm h=>L=h/\aM 86 [(2,.int .i64 (a:Nat)),(3,.W 0 [.str bz bD,br,a8,bk,bd,bw,ba,bj,.str bx bC,bh,bp,.str bA bE,.str bB bG]),(4,.W 0 [.str l m,a7,.str ls ms,bm,.int .i64 bn,.int .i64 ac,bq]),(6,.W 0 [.str 0 0,.V,.V,.V,.V,.int .i64 0,.int .i64 0]),(7,.int .i64 ((j+1:Nat):Int)),(8,aP)] tm) ?_ ?_
 . simp only [go_sem,hF,ct,F.O];exact an.mk ⟨rfl,ay⟩
 clear hF;rintro tm _ ⟨rfl,hF⟩;refine ak.bF hF (λT tm h=>L=h/\aM 86 [(9,.V)] tm/\T tm) ?_ ?_
 . simp only [go_sem];exact an.mk ⟨rfl,ay⟩
 clear hF;rintro tm _ ⟨rfl,hF⟩;refine ak.kp [3,4,6,7,8] (λT tm h=> ∃z,P 35 6 L h z ((st.take a).map λq=>fb (jA args (j7 q)))/\M tm 9=z/\T tm) ?_ ?_
 . simp only [go_sem,hF,aH.O,c0,aW.len,aW.O];generalize dG:a1 _ _ _ _ _ _ _ _ _ _=cq;revert cq;refine cv (σ:=aa×af) [3,4,6,7,8,23] (λs=> [(9,s.1)]) (λs=>s.2) (λi s=>P 35 6 L s.2 s.1 (((st.take a).map λq=>fb (jA args (j7 q))).take i)) (st.take a).length (.V,L) (P.new _ _ F.tidy) (hlf:=ah) (hN:=ah) ?_ ?_
   . clear hF;rintro i ⟨z,B⟩ tm dH Q hF;simp only at Q hF|-;obtain ⟨q,bg⟩: ∃r,(st.take a)[i]? =some r:=ah;have cO:=hQ (aV bg);obtain ⟨cl,rfl,cc,cd⟩:=ca q cO;have cZ:=Fi (args:=args) cc cd;have aR:IntKind.i64.wrap (cl-1)=(((cl-1).toNat:Nat):Int):=by rw [wrap64 _ ab ab];omega
     obtain ⟨aN,w,aE,ar,-⟩:=(F.at Q.tidy Q.up).cw.at aA.len cZ;obtain ⟨c,e,f,g,ax⟩:=M4 S.hS cc cd;have aF:=uv c e f g;rw [ax] at ar;have aC:=ki aF B;have aB:=λtm=>qo (ad:=ad) (n:=n) (y:= .A [cn c e f g] true) (H:=B) rfl (λ_=>rfl) rfl rfl (Go.aj.uc _ _ _ _) rfl 7 28558080999846761 tm;have av:=qN 7 28558080999846761 (tZ [cn c e f g] true);have I:=ki av B;have aG:Rows 6 [fb (cn c e f g)]:=λq bf=>by rw [bs.1 bf];exact av
     obtain ⟨bu,Y,C,ao,-⟩:=Q.app (E:=G) (t:=33) (b:=96) (i:=t35) aq aq rfl rfl al al (x:= .A [fb (cn c e f g)] true) (aQ:= [_]) (dR (.inr ⟨_,rfl⟩) aG.len) aG (by rw [h6,di,h6];show _+1<_;omega);have cB:((st.take a).map λq=>fb (jA args (j7 q)))[i]? =some (fb (cn c e f g)):=by rw [hO,bg,<-ax];rfl
     rw [<-od cB] at ao;simp only [fb] at C;simp only [go_sem,hF,aW.O,aW.a_ (k:=1) bg rfl,F.O,aR,w,aE,ar,cn] at aC aB I C|-;simp only [go_sem,hF,aC,bH,aB,I,Q.O,C,ao.O,cm] at I C|-;exact au.next (bu,Y) rfl ao ay
   . rintro ⟨z,B⟩ tm Q hF;simp only at Q hF;rw [fT ai] at Q;simp only [go_sem];exact an.mk ah
 clear hF;rintro tm B ⟨z,o,hF⟩;obtain ⟨c,e,f,g,ax⟩:=M4 S.hS b4 cL;have aF:=uv c e f g;have aR:IntKind.i64.wrap (((j+1:Nat):Int)-1)=(j:Nat):=by rw [wrap64 _ ab ab];omega
 rw [ax] at aw;refine ak.bM (λtm h=> ∃z,P 35 6 L h z (lQ args st a j)/\aM 86 [(3,.W 0 [.str bz bD,br,a8,bk,bd,bw,ba,bj,.str bx bC,bh,bp,.str bA bE,.str bB bG]),(4,.W 0 [.str l m,a7,.str ls ms,bm,.int .i64 bn,.int .i64 ac,bq]),(6,.W 0 [.str 0 0,.V,.V,.V,.V,.int .i64 0,.int .i64 0]),(7,.int .i64 ((j+1:Nat):Int)),(8,aP),(9,z)] tm) ?_ ?_
 . obtain ⟨aN,w,aE,ar,-⟩:=(F.at o.tidy o.up).cw.at aA.len aw;have aC:=ki aF B;have aB:=λtm=>qo (ad:=ad) (n:=n) (y:= .A [cn c e f g] true) (H:=B) rfl (λ_=>rfl) rfl rfl (Go.aj.uc _ _ _ _) rfl 7 28558080999846761 tm;have av:=qN 7 28558080999846761 (tZ [cn c e f g] true);have I:=ki av B;have bc:=λtm=>qo (ad:=ad) (n:=n) (y:= .A [cm 7 28558080999846761 (.A [cn c e f g] true)] true) (H:=B) rfl (λ_=>rfl) rfl rfl (Go.aj.uc _ _ _ _) rfl 3 7630702 tm;have b9:=qN 3 7630702 (tZ [cm 7 28558080999846761 (.A [cn c e f g] true)] true);have aT:=ki b9 B;have aG:Rows 6 [n2 (cn c e f g)]:=λq bf=>by rw [bs.1 bf];exact b9
   obtain ⟨bu,Y,C,ao,-⟩:=o.app (E:=G) (t:=33) (b:=96) (i:=t35) aq aq rfl rfl al al (x:= .A [n2 (cn c e f g)] true) (aQ:= [_]) (dR (.inr ⟨_,rfl⟩) aG.len) aG ah;have bb:((st.take a).map λq=>fb (jA args (j7 q)))++ [n2 (cn c e f g)]=lQ args st a j:=by unfold lQ;rw [ax]
   rw [bb] at ao;simp only [n2,fb] at C;simp only [go_sem,hF,F.O,aR,w,aE,ar,cn] at aC aB I bc aT C|-;simp only [go_sem,hF,aC,bH,aB,cm] at I bc aT C|-;simp only [go_sem,hF,I,bH,bc,aT,o.O,C,ao.O] at aT C|-;exact an.mk ⟨bu,ao,ay⟩
 clear hF o;rintro tm Y ⟨z,o,hF⟩;obtain ⟨ec,dB,bZ,cu⟩:=b0 ad (n+1) ab ab _ l m args ls ms st Y S ab o.tidy;obtain ⟨ck,bI,⟨N,dN,dF⟩,bb⟩:=I9 (ad:=ad) (n:=n) bZ (j:=j) ab ab;refine ak.bF hF (λT tm h=>bI=h/\aM 86 [(12,ck)] tm/\T tm) ?_ ?_
 . simp only [go_sem,hF,cu,aR,bZ.O,bb,N.O];exact an.mk ⟨rfl,ay⟩
 clear hF;rintro tm _ ⟨rfl,hF⟩;have K:=F.at N.tidy (o.up.trans N.up);obtain ⟨aZ,dr,aY,cj,dY,dg,cg⟩:=K.r2 48 al al;have bL: ∀id,cW ck=some id->Y.n<=id:=λid v=>(N.ge v).1;have bK: ∀id,cW aP=some id->id<L.n:=λid v=>F.W.lt v;have bN: ∀id,cW z=some id->L.n<=id/\id<Y.n:=λid v=>⟨o.W.ge v,o.W.lt v⟩;have dE:=o.up.n;have cX:U H Y:=F.up.trans o.up;have Z:=(N.mono cX).bS aY (cj H ab K.up) ah;have cE:=(o.at N.tidy N.up).mono F.up;have cF:=cE.bS aY (cj H ab K.up) ah;obtain ⟨aS,ds,bt,dv,cf,dh⟩:=Z.r2 48 al al;have ae:=cF.bS bt (dv H ab Z.up) λid aK aD v=>cf id aK aD λag=>by have:=bN id v;have:=bL id ag;omega
 obtain ⟨bJ,dt,eb,dw,dm,dj,-⟩:=ae.r2 48 al al;have bQ:=λtm=>qo (ad:=ad) (n:=n) K.nl K.O K.ok K.cs dr dg l m tm;have b8:=qN l m (y:=dk (cp args)) ⟨(fW _).J,(fW _).aI _⟩;have b3:=ki b8 aZ;have bR:=λtm=>b1 ad (n+1) ab ab (.A [cm l m (dk (cp args))] true) _ aZ (.inr ⟨_,rfl⟩) aY tm;obtain ⟨aN,w,aE,ar,-⟩:=cg.at aA.len aw;have bU:=λtm=>cH ad (n+1) ab ab _ l m args ls ms st j aZ S ab cM aY tm;have bV:=λtm=>qo (ad:=ad) (n:=n) Z.nl Z.O Z.ok Z.cs ds dh (fe l) (gD l m j) tm;have av:=qN (fe l) (gD l m j) (tZ ((cp args).eraseIdx j) false);have I:=Gj aF av aS;have bW:=λtm=>b1 ad (n+1) ab ab (.A [cn c e f g,cm (fe l) (gD l m j) (.A ((cp args).eraseIdx j) false)] true) _ aS (.inr ⟨_,rfl⟩) bt tm;have bX:=λtm=>b2 ad (n+1) ab ab (l+6+1) (m+104953454880863<<<(8*l)+(48+(j+1))<<<(8*(l+6))) (.A [cm l m (dk (cp args))] true) (.A [cn c e f g,cm (fe l) (gD l m j) (.A ((cp args).eraseIdx j) false)] true) z (dk (lQ args st a j)) _ _ aS bJ (.inr ⟨_,rfl⟩) (.inr ⟨_,rfl⟩) bt ae.nl ae.O ae.ok ae.cs dt dj tm;have bP:=λtm=>ag ad (n+1) ab ab (j+1) ab bI tm N.tidy;simp only at bP;have dx:l+6<=ht:=by unfold ht;omega
 have dy:l+6+1<=ht:=by unfold ht;omega
 have cK:gX p l m args st a j=j5 p (l+6+1) (m+104953454880863<<<(8*l)+(48+(j+1))<<<(8*(l+6))) (.A [cm l m (dk (cp args))] true) (.A [cn c e f g,cm (fe l) (gD l m j) (.A ((cp args).eraseIdx j) false)] true) (dk (lQ args st a j)):=by unfold gX;rw [ax]
 rw [cK];have dA:=(fW (lQ args st a j)).J;have dz:=(fW (lQ args st a j)).aI 18;generalize dk (lQ args st a j)=cr at*;generalize dk (cp args)=dD at*;have cY:=dw H ab ae.up;have bY:=k7 b8;have cC:=k7 aF;have cD:=k7 av;have cQ:=CI w;have ch:cG aS 6 aP (cp args):=cg.bS λid aK aD v=>cf id aK aD λag=>by have:=bL id ag;have:=bK id v;omega
 have du:cG bJ 6 aP (cp args):=ch.bS λid aK aD v=>dm id aK aD λag=>by have:=bN id ag;have:=bK id v;omega
 obtain ⟨dn,cR,-,b6,-⟩:=K.cw.at aA.len aw;obtain ⟨dp,cS,-,b7,-⟩:=ch.at aA.len aw;obtain ⟨dq,cT,-,cU,-⟩:=du.at aA.len aw;have cx:dn=aN:=by rw [cR] at w;cases w;rfl
 have cy:dp=aN:=by rw [cS] at w;cases w;rfl
 have cz:dq=aN:=by rw [cT] at w;cases w;rfl
 subst cx cy cz;have cV:f_ (some (.agg [.int .i64 6,.int .i64 0,.str c e,.str f g,.V,.V])) (some (.agg [.int .i64 6,.int .i64 0,.str c e,.str f g,.V,.V]))=true:=by simp [f_,cN,eu]
 simp only [eX,cn,cm,ko,j5] at b3 I bQ bR bU bV bW bX ar b6 b7 cU bY cC cD|-;simp only [go_sem,hF,aR,dx,dy,bP,bQ,b3,bH,bR,K.O,w,aE,ar,bU,bV,Z.O,I,bW,ae.O,bX,dA,bY,cQ,b6,b7,cV];refine ak.mk rfl ?_ cb cY;show List.all [_,_,cr,_,_,_,_] (D 19)=true;simp only [aO,dz];rfl
theorem Vd:bo λad n=> ∀r l m args ls ms st (j:Nat) H,fB r l m args ls ms st->args.length<=8->j<args.length->Tidy H->
  ∀tm,az G (X G R ad n) 55 [.agg d,.agg r,.int .i64 ((j+1:Nat):Nat)] H tm= .ok (.agg (kl p l m args j)) tm H:=by
 obtain ⟨bL,aN⟩:=JB;obtain ⟨bN,bm⟩:=Ag;obtain ⟨bO,bn⟩:=DB;obtain ⟨bP,aO⟩:=Js;obtain ⟨bQ,aP⟩:=Jt aX;obtain ⟨bR,bp⟩:=Fc;have br:=aX.eq;obtain ⟨cu,C,M,ck,L,S,cA,cC,rfl,⟨af,ar,rfl,cE,cq⟩,bB,bE,⟨ae,aq,rfl,cD,cl⟩,bD,bI,⟨ag,au,rfl,cF,cr⟩,⟨ao,aw,rfl,cG,ct⟩⟩:=br;obtain ⟨U,B,N,D,Z,rfl,bJ,bA,bG,bC,bK⟩:=aX.bT.eq;refine ⟨bL+bN+bO+bP+bQ+bR+40,λad n cb cf r l m args ls ms st j H i cc bt K=> ?_⟩;obtain ⟨n,rfl⟩: ∃bU,n=bU+1+1:=⟨n-2,ab⟩;obtain ⟨z,P,T,Q,ac,rfl,I,bw,cz,bu,-⟩:=i.eq;obtain ⟨bX,aV⟩: ∃r,args[j]? =some r:=⟨args[j],ai⟩;obtain ⟨a,b,rfl,-⟩:=i.hS bX ah;have bq:ps args j=cn 1 86 a b:=by unfold ps;rw [aV]
 have q:=uv 1 86 a b;obtain ⟨Y,bb,E,bc⟩:=aN ad (n+1) ab ab _ l m args ls ms st H i ab K;have ch:=Ni i.hS;have cj:=qP args;obtain ⟨cH,bz⟩: ∃r,(cp args)[j]? =some r:=ah;have aa:IntKind.i64.wrap (((j+1:Nat):Int)-1)=(j:Nat):=by rw [wrap64 _ ab ab];omega
 have cd:=i.s1;simp only [bl,a6] at aP|-;refine jQ (aL.at (m:=54) rfl rfl rfl rfl rfl rfl rfl rfl ?_);refine ak.bM (λtm c=>H=c/\aM 57 [(2,.int .i64 ((j+1:Nat):Int)),(3,.W 0 [.str af ar,U,B,N,D,Z,C,M,.str ae aq,L,S,.str ag au,.str ao aw]),(4,.W 0 [.str l m,z,.str ls ms,P,.int .i64 Q,.int .i64 ac,T]),(6,.W 0 [.str 0 0,.V,.V,.V,.V,.int .i64 0,.int .i64 0]),(7,.av [])] tm) ?_ ?_
 . simp only [go_sem,bJ.J,bA.J,bG.J,bC.J,bK.J,bB.J,bE.J,bD.J,bI.J,I.J,bu.J,bw.J];exact an.mk ⟨rfl,dC⟩
 rintro tm _ ⟨rfl,hF⟩;have o:=λtm=>bp ad (n+1) ab ab (1,86,a,b) trivial H tm K;simp only at o;refine ak.bM (λtm c=>H=c/\aM 57 [(2,.int .i64 ((j+1:Nat):Int)),(3,.W 0 [.str af ar,U,B,N,D,Z,C,M,.str ae aq,L,S,.str ag au,.str ao aw]),(4,.W 0 [.str l m,z,.str ls ms,P,.int .i64 Q,.int .i64 ac,T]),(6,.W 0 [.str 0 0,.V,.V,.V,.V,.int .i64 0,.int .i64 0]),(7,.W 0 (cn 1 86 a b))] tm) ?_ ?_
 . simp only [go_sem,hF,I.O,I.a_ (k:=1) aV rfl,aa,o,cn];exact an.mk ⟨rfl,ay⟩
 clear hF;rintro tm _ ⟨rfl,hF⟩;refine ak.bF hF (λw tm c=>bb=c/\aM 57 [(8,Y)] tm/\w tm) ?_ ?_
 . simp only [go_sem,hF,bc,E.O];exact an.mk ⟨rfl,ay⟩
 clear hF;rintro tm _ ⟨rfl,hF⟩;obtain ⟨cx,t,b4,b5,cI,ba,v,-⟩:=E.aaI bz (cn 1 86 a b) q.1 q.2;refine ak.bM (λtm c=>t=c/\aM 57 [(2,.int .i64 ((j+1:Nat):Int)),(3,.W 0 [.str af ar,U,B,N,D,Z,C,M,.str ae aq,L,S,.str ag au,.str ao aw]),(4,.W 0 [.str l m,z,.str ls ms,P,.int .i64 Q,.int .i64 ac,T]),(6,.W 0 [.str 0 0,.V,.V,.V,.V,.int .i64 0,.int .i64 0]),(7,.W 0 (cn 1 86 a b)),(8,Y)] tm) ?_ ?_
 . simp only [cn] at hF ba;simp only [go_sem,hF,aa,E.O,b4,b5,ba];exact an.mk ⟨rfl,by simp only [go_sem,hF,cn]⟩
 clear hF;rintro tm _ ⟨rfl,hF⟩;obtain ⟨cB,b6,aK,bd⟩:=aN ad (n+1) ab ab _ l m args ls ms st t i ab v.tidy;obtain ⟨a8,x,⟨g,cg,ca⟩,bf⟩:=I9 (ad:=ad) (n:=n) aK (j:=j) ab ab;refine ak.bF hF (λw tm c=>x=c/\aM 57 [(9,a8)] tm/\w tm) ?_ ?_
 . simp only [go_sem,hF,bd,aa,aK.O,bf,g.O];exact an.mk ⟨rfl,ay⟩
 clear hF;rintro tm _ ⟨rfl,hF⟩;have b9: ∀id,cW a8=some id->t.n<=id:=λid F=>(g.ge F).1;have b8: ∀id,cW Y=some id->id<t.n:=λid F=>v.W.lt F;have bk:=v.at g.tidy g.up;have h:=g.mono v.up;obtain ⟨ax,bZ,a1,b0,cv,bV⟩:=h.r2 48 al al;have f:=bk.bS a1 (b0 H ab h.up) ah;obtain ⟨e,bY,a7,b1,cw,bW,cy⟩:=f.r2 48 al al;have aW:=qN l m (y:=dk ((cp args).set j (cn 1 86 a b))) ⟨(fW _).J,(fW _).aI _⟩;have aQ:=ki aW e;have aY:=qN (fe l) (gD l m j) (tZ ((cp args).eraseIdx j) false);have aR:=Gj q aY ax;have aZ:=qN 7 28558080999846761 (tZ [cn 1 86 a b] true);have aS:=ki q e;have aT:=ki aZ e;have aB:=λtm=>qo (ad:=ad) (n:=n) f.nl f.O f.ok f.cs bY bW l m tm;have aC:=λtm=>aO ad (n+1) ab ab (.A [cm l m (dk ((cp args).set j (cn 1 86 a b)))] true) _ e (.inr ⟨_,rfl⟩) a7 tm;have o:=λtm=>bn ad (n+1) ab ab _ l m args ls ms st j x i ab bt g.tidy tm;have aD:=λtm=>qo (ad:=ad) (n:=n) h.nl h.O h.ok h.cs bZ bV (fe l) (gD l m j) tm;have aE:=λtm=>aO ad (n+1) ab ab (.A [cn 1 86 a b,cm (fe l) (gD l m j) (.A ((cp args).eraseIdx j) false)] true) _ ax (.inr ⟨_,rfl⟩) a1 tm;have aG:=λtm=>qo (ad:=ad) (n:=n) (y:= .A [cn 1 86 a b] true) (H:=e) rfl (λ_=>rfl) rfl rfl (Go.aj.uc _ _ _ _) rfl 7 28558080999846761 tm;have aF:=λtm=>aP ad (n+1) ab ab (l+6+1) (m+104919330677599<<<(8*l)+(48+(j+1))<<<(8*(l+6))) (.A [cn 1 86 a b,cm (fe l) (gD l m j) (.A ((cp args).eraseIdx j) false)] true) (.A [cm l m (dk ((cp args).set j (cn 1 86 a b)))] true) (.A [fb (cn 1 86 a b)] true) (.A [fb (cn 1 86 a b)] true) _ _ e e (.inr ⟨_,rfl⟩) (.inr ⟨_,rfl⟩) a7 rfl (λ_=>rfl) rfl rfl (Go.aj.uc _ _ _ _) rfl tm;have aA:=λtm=>bm ad (n+1) ab ab (j+1) ab x tm g.tidy;simp only at aA;have b2:l+6<=ht:=by unfold ht;omega
 have b3:l+6+1<=ht:=by unfold ht;omega
 have bs:kl p l m args j=j5 p (l+6+1) (m+104919330677599<<<(8*l)+(48+(j+1))<<<(8*(l+6))) (.A [cn 1 86 a b,cm (fe l) (gD l m j) (.A ((cp args).eraseIdx j) false)] true) (.A [cm l m (dk ((cp args).set j (cn 1 86 a b)))] true) (.A [fb (cn 1 86 a b)] true):=by unfold kl;rw [bq]
 rw [bs];generalize dk ((cp args).set j (cn 1 86 a b))=b7 at*;have bx:=b1 H ab f.up;have bg:=k7 aW;have aH:=k7 q;have bh:=k7 aY;have bj:=k7 aZ;simp only [eX,cn,cm,ko,j5,fb] at hF aQ aR aS aT aB aC o aD aE aF aG bg aH bh bj|-;simp only [go_sem,hF,b2,b3,aA,aB,aQ,bH,aC,f.O,o,aD,h.O,aR,aE,aG,aS,aT,aF,aH];exact ak.mk rfl rfl K bx
end
def iR (r:List aa) (a:Nat):Nat:=(j7 (((f (M r 6))[a]?).getD [])).toNat-1
def j4 (p:Y) (b c:Bool) (r:List aa) (e:Nat):Y:=match r with
 | .str g h::a::_=>(if b then [gX p g h (f a) (f (M r 6)) e (iR r e)] else [])++(if c then [kl p g h (f a) (iR r e)] else [])
 |_=> []
def qF (p:Y) (b c:Bool) (r:List aa):Y:=(List.range (f (M r 6)).length).flatMap (j4 p b c r)
def kO (p:Y) (b c:Bool) (rop:Y):Y:=rop.flatMap (qF p b c)
def oM (r:List aa) (b:Nat):List aa:=match r with
 | .str c e::a:: .str ls ms::_=>ko c e (f a) ls ms (iR r b)
 |_=> []
def rj (r:List aa):Y:=(List.range (f (M r 6)).length).map (oM r)
def oN (rop:Y):Y:=rop.flatMap rj
def YV {α:Type} (f:Nat->List α) (k:Nat):(List.range (k+1)).flatMap f=(List.range k).flatMap f++f k:=by rw [List.range_succ,List.flatMap_append];simp
theorem YW {α:Type} (f:Nat->α) (k:Nat):(List.range (k+1)).map f=(List.range k).map f++ [f k]:=by rw [List.range_succ,vR];rfl
def kR {α β:Type} (f:α->List β) {l:List α} {j:Nat} {x:α} (a:l[j]? =some x):(l.take (j+1)).flatMap f=(l.take j).flatMap f++f x:=by rw [fg,a];simp
def nF {α β:Type} (f:α->List β) (M:Nat): ∀(l:List α),(∀x∈l,(f x).length<=M)->(l.flatMap f).length<=l.length*M
 | [],_=>by simp
 |b::l,a=>by have e:=a b (dF ..);have g:=nF f M l λx c=>a x (h8 _ c);rw [yL,bD,cl,iK];omega
def zK (p b c r rN):(j4 p b c r rN).length<=2:=by
 unfold j4;split
 . cases b<;>cases c<;>simp
 . simp
def HA: ∀(n:Nat) (l:Y),(∀q∈l,∃i:Int,q= [.int .i64 i]/\1<=i/\i<=n)->l.Pairwise (· ≠ ·)->l.length<=n
 | 0,l,c,_=>by
   cases l with
   |nil=>simp
   |cons g l=>obtain ⟨i,-,b,o⟩:=c g (dF ..);omega
 | n+1,l,c,e=>by
   have w:=HA n (l.filter λq=>j7 q !=((n+1:Nat):Int)) (λq a=>by
    rw [List.mem_filter] at a;obtain ⟨i,rfl,b,o⟩:=c q a.1;refine ⟨i,rfl,b,?_⟩;have j:i≠((n+1:Nat):Int):=λh=>by have:=a.2;rw [h] at this;simp [j7] at this
    omega) (e.sublist List.filter_sublist)
   have : ∀(l:Y),(∀q∈l,∃i:Int,q= [.int .i64 i])->l.Pairwise (· ≠ ·)->l.length<=(l.filter λq=>j7 q !=((n+1:Nat):Int)).length+1:=by
    intro l
    induction l with
    |nil=>simp
    | cons g l r=>
      intro a e;have m:=hq.1 e;obtain ⟨t,rfl⟩:=a g (dF ..);by_cases k:t=((n+1:Nat):Int)
      . have:l.filter (λq=>j7 q !=((n+1:Nat):Int))=l:=CV.2 λq f=>by have b:=m.1 q f;obtain ⟨v,rfl⟩:=a q (h8 _ f);have j:v≠((n+1:Nat):Int):=λh=>b (by rw [k,h]);simpa [j7] using j
        rw [tx,this];split<;>simp
      . have b:=r (λq f=>a q (h8 _ f)) m.2;rw [tx,if_pos (by simpa [j7] using k)];simp only [cl];omega
   have:=this l (λq a=>by obtain ⟨i,rfl,-⟩:=c q a;exact ⟨i,rfl⟩) e;omega
def nm.st {rop j3:Y} (c3:nm rop j3) {r} (f:r∈rop) {l m args ls ms st} (e:fB r l m args ls ms st):args.length<=8/\(∀q∈st,∃i:Int,q= [.int .i64 i]/\1<=i/\i<=args.length)/\st.length<=8:=by
 obtain ⟨a,b,c⟩:=c3.ops r f l m args ls ms st e;exact ⟨a,b,eT (HA args.length st b c) a⟩
def LB {p:Y} {b c:Nat} {e f w:aa} (a:J w=true/\D 20 w=true):(j5 p b c e f w).length=7/\ ∀v∈j5 p b c e f w,J v=true/\D 20 v=true:=⟨rfl,λv c3=>by
 have a:(j5 p b c e f w).all (λv=>J v&&D 20 v)=true:=by show [aa.str b c,.A [wH p e f] true,w,.V,.V,.int .i64 0,.int .i64 0].all (λv=>J v&&D 20 v)=true;simp only [aO,a.1,a.2];rfl
 have:=ba.1 a v c3;simpa using this⟩
def Is (p l m args st rN j):(gX p l m args st rN j).length=7/\ ∀v∈gX p l m args st rN j,J v=true/\D 20 v=true:=LB ⟨(fW _).J,(fW _).aI _⟩
def GN (p l m args j):(kl p l m args j).length=7/\ ∀v∈kl p l m args j,J v=true/\D 20 v=true:=LB ⟨rfl,rfl⟩
def Gk {r:List aa} (a:r.length=7/\ ∀v∈r,J v=true/\D 20 v=true) (H:af):cT G 29 1 [(0,.agg r)] H=some (.A [r] true,H):=
 mo (E:=G) (t:=29) (el:=64) (k:=7) (H:=H) (z:= .agg [.str 0 0,.V,.V,.V,.V,.int .i64 0,.int .i64 0]) aq aq aq al rfl al (.agg r) ⟨a.1,ba.2 λv c3=>(a.2 v c3).1,ba.2 λv c3=>(a.2 v c3).2⟩
def O6 {r:List aa} (a:r.length=7/\ ∀v∈r,J v=true/\D 20 v=true) (H:af):cT G 24 1 [(0,.agg r)] H=some (.A [r] true,H):=
 mo (E:=G) (t:=24) (el:=52) (k:=7) (H:=H) (z:= .agg [.str 0 0,.V,.str 0 0,.V,.int .i64 0,.int .i64 0,.V]) aq aq aq al rfl al (.agg r) ⟨a.1,ba.2 λv c3=>(a.2 v c3).1,ba.2 λv c3=>(a.2 v c3).2⟩
section
variable {d s:List aa} {kN jv rop j3 aJ req p aU u:Y} (aX:fz d s kN jv rop j3 aJ req p aU u) (c3:nm rop j3)
include aX c3
theorem Jx:bo λad n=> ∀(b c:Bool) H,Tidy H-> ∃v,F v (kO p b c rop)/\ ∀tm,az G (X G R ad n) 29 [.agg d,.bool b,.bool c] H tm= .ok v tm H:=by
 obtain ⟨bJ,aH⟩:=Vr aX;obtain ⟨bK,aI⟩:=Vd aX;have aP:=aX.bT.op;have ca:=c3.len;have cd: ∀Y∈rop,(qF p true true Y).length<=16:=λY aS=>by
  obtain ⟨a,e,y,o,q,z,I⟩:=aP Y aS;have b5:=(c3.st aS I).2.2;obtain ⟨j,r,h,w,ac,rfl,ax,C,bO,aR,-⟩:=I.eq;have:=nF (j4 p true true [.str a e,j,.str o q,r,.int .i64 w,.int .i64 ac,h]) 2 (List.range (f h).length) λ_ _=>zK ..
  rw [nS,bm C] at this;show ((List.range (f h).length).flatMap _).length<=16;rw [bm C];omega
 have bq:=aX.eq;obtain ⟨cn,bb,bN,ch,bL,bP,cp,cr,rfl,⟨bV,b1,rfl,cu,ck⟩,bz,bE,⟨bU,b0,rfl,ct,cj⟩,bC,bF,⟨bW,b2,rfl,cw,cl⟩,⟨bZ,b3,rfl,cx,cm⟩⟩:=bq;obtain ⟨bQ,ba,aZ,bk,bS,rfl,bG,bx,U,bB,bI⟩:=aX.bT.eq;refine ⟨bJ+bK+300,λad n b9 cc b c H aY=> ?_⟩;obtain ⟨n,rfl⟩:=bY n;simp only [bl,a6] at aH aI|-;refine hg (aL.at (m:=44) rfl rfl rfl rfl rfl rfl rfl rfl ?_);simp only [go_sem,bG.J,bx.J,U.J,bB.J,bI.J,bz.J,bE.J,bC.J,bF.J,U.O,U.len];have hF:=trivial;generalize bp:a1 _ _ _ _ _ _ _ _ _ _=ar;revert ar;refine cv [1,2,3,14] (λs=> [(7,s.1)]) (λs=>s.2) (λK s=>P 64 7 H s.2 s.1 ((rop.take K).flatMap (qF p b c))/\((rop.take K).flatMap (qF p b c)).length<=K*16) rop.length (.V,H) ⟨P.new _ _ aY,ai⟩ ?_ ?_
 . rintro K ⟨v,ao⟩ tm br ⟨l,b6⟩ hF;simp only at l hF|-;obtain ⟨Y,af⟩:=bA br;have aO:=aV af;obtain ⟨a,e,y,o,q,z,I⟩:=aP Y aO;obtain ⟨aN,aW,bw⟩:=c3.st aO I;have bu:=I;obtain ⟨j,r,h,w,ac,rfl,ax,C,bO,aR,-⟩:=bu.eq;have bg:f j=y:=bm ax;have aw:f h=z:=bm C;have bh: ∀g,j4 p b c [.str a e,j,.str o q,r,.int .i64 w,.int .i64 ac,h] g=(if b then [gX p a e y z g (iR [.str a e,j,.str o q,r,.int .i64 w,.int .i64 ac,h] g)] else [])++(if c then [kl p a e y (iR [.str a e,j,.str o q,r,.int .i64 w,.int .i64 ac,h] g)] else []):=λg=>by show (if b then [gX p a e (f j) (f h) g _] else [])++(if c then [kl p a e (f j) _] else [])=_;rw [bg,aw]
   have aF:qF p b c [.str a e,j,.str o q,r,.int .i64 w,.int .i64 ac,h]=(List.range z.length).flatMap (j4 p b c [.str a e,j,.str o q,r,.int .i64 w,.int .i64 ac,h]):=by show (List.range (f h).length).flatMap _=_;rw [aw]
   have cb:(qF p b c [.str a e,j,.str o q,r,.int .i64 w,.int .i64 ac,h]).length<=16:=by
    rw [aF];have:=nF (j4 p b c [.str a e,j,.str o q,r,.int .i64 w,.int .i64 ac,h]) 2 (List.range z.length) λ_ _=>zK ..
    rw [nS] at this;omega
   refine au.kp [16,15,1,2,3,14] (λaj tm L=>ao=L/\ ∃aC,M tm 7=v/\M tm 9= .W aC [.str a e,j,.str o q,r,.int .i64 w,.int .i64 ac,h]/\aj tm) ?_ ?_
   . simp only [go_sem,hF,U.O,U.a_ (k:=7) af rfl,ax.J,aR.J,C.J];exact an.mk ⟨rfl,_,by simp only [go_sem,hF];trivial⟩
   clear hF;rintro tm _ ⟨rfl,aC,hF⟩;simp only [go_sem,hF,C.O,C.len];generalize bp:a1 _ _ _ _ _ _ _ _ _ _=ar;revert ar;generalize aK:(rop.take K).flatMap (qF p b c)=D at*;refine cv [16,15,1,2,3,14,9,21] (λs=> [(7,s.1)]) (λs=>s.2) (λg s=>P 64 7 H s.2 s.1 (D++(List.range g).flatMap (j4 p b c [.str a e,j,.str o q,r,.int .i64 w,.int .i64 ac,h]))) z.length (v,ao) (by simpa using l) ?_ ?_
   . clear hF;rintro g ⟨v,N⟩ tm bt l hF;simp only at l hF|-;obtain ⟨a7,ae⟩:=bA bt;obtain ⟨ag,rfl,cf,cg⟩:=aW _ (aV ae);have bf:iR [.str a e,j,.str o q,r,.int .i64 w,.int .i64 ac,h] g=ag.toNat-1:=by show (j7 (((f h)[g]?).getD [])).toNat-1=_;rw [aw,ae];rfl
     have bj:ag=((ag.toNat-1+1:Nat):Int):=ab;have aG:=bh g;rw [bf] at aG;generalize ag.toNat-1=B at*;subst bj;have b7:(D++(List.range g).flatMap (j4 p b c [.str a e,j,.str o q,r,.int .i64 w,.int .i64 ac,h])).length+2<1048560:=by
      have:=nF (j4 p b c [.str a e,j,.str o q,r,.int .i64 w,.int .i64 ac,h]) 2 (List.range g) λ_ _=>zK ..
      rw [nS] at this;rw [bD];omega
     have aE:D++(List.range (g+1)).flatMap (j4 p b c [.str a e,j,.str o q,r,.int .i64 w,.int .i64 ac,h])=D++(List.range g).flatMap (j4 p b c [.str a e,j,.str o q,r,.int .i64 w,.int .i64 ac,h])++(if b then [gX p a e y z g B] else [])++(if c then [kl p a e y B] else []):=by rw [YV,aG,<-fu,<-fu]
     generalize D++(List.range g).flatMap (j4 p b c [.str a e,j,.str o q,r,.int .i64 w,.int .i64 ac,h])=ah at*;refine au.bM (λtm L=>N=L/\aM 47 [(23,.int .i64 (g:Nat)),(22,.int .i64 (z.length:Nat)),(16,.int .i64 (K:Nat)),(15,.int .i64 (rop.length:Nat)),(1,.bool b),(2,.bool c),(3,.W 0 [.str bV b1,bQ,ba,aZ,bk,bS,bb,bN,.str bU b0,bL,bP,.str bW b2,.str bZ b3]),(7,v),(14,aZ),(9,.W aC [.str a e,j,.str o q,r,.int .i64 w,.int .i64 ac,h]),(21,h),(10,.int .i64 (g:Nat)),(11,.int .i64 ((B+1:Nat):Int))] tm) ?_ ?_
     . simp only [go_sem,hF,C.O,C.a_ (k:=1) ae rfl];exact an.mk ⟨rfl,ay⟩
     clear hF;rintro tm _ ⟨rfl,hF⟩;have bd:=λtm=>aH ad n ab ab _ a e y o q z g B N I aN aW bw ae l.tidy tm;refine au.kp [23,22,16,15,1,2,3,14,9,21,11] (λaj tm L=> ∃v,P 64 7 H L v (ah++(if b then [gX p a e y z g B] else []))/\M tm 7=v/\aj tm) ?_ ?_
     . cases b with
       | false=>
         simp only [go_sem,hF];exact an.mk ⟨v,by simpa using l,ay⟩
       | true=>
         have S:=Is p a e y z g B;have aA:=Gk S N;have T:Rows 7 [gX p a e y z g B]:=λa7 aB=>by rw [bs.1 aB];exact S
         obtain ⟨aD,Z,av,Q,-⟩:=l.app (E:=G) (t:=29) (b:=128) (i:=t64) aq aq rfl rfl al al (x:= .A [gX p a e y z g B] true) (aQ:= [_]) (dR (.inr ⟨_,rfl⟩) T.len) T og;simp only [go_sem,hF,bd,aA,bH,l.O,av,Q.O];exact an.mk ⟨aD,Q,ay⟩
     clear hF;rintro tm Z ⟨bR,aa,hF⟩;have bc:=λtm=>aI ad n ab ab _ a e y o q z B Z I aN ab aa.tidy tm;have b8:(ah++(if b then [gX p a e y z g B] else [])).length+1<1048560:=by rw [bD];cases b<;>simp<;>omega
     generalize ah++(if b then [gX p a e y z g B] else [])=b4 at*
     cases c with
     | false=>
       simp only [go_sem,hF];exact au.next (bR,Z) rfl (by show P _ 7 H _ _ (D++(List.range (g+1)).flatMap _);rw [aE];simpa using aa) ay
     | true=>
       have S:=GN p a e y B;have aA:=Gk S Z;have T:Rows 7 [kl p a e y B]:=λa7 aB=>by rw [bs.1 aB];exact S
       obtain ⟨aD,a8,av,Q,-⟩:=aa.app (E:=G) (t:=29) (b:=128) (i:=t64) aq aq rfl rfl al al (x:= .A [kl p a e y B] true) (aQ:= [_]) (dR (.inr ⟨_,rfl⟩) T.len) T og;simp only [go_sem,hF,bc,aA,bH,aa.O,av,Q.O];exact au.next (aD,a8) rfl (by show P _ 7 H _ _ (D++(List.range (g+1)).flatMap _);rw [aE];exact Q) ay
   . clear hF;rintro ⟨v,N⟩ tm l hF;simp only at l hF;simp only [go_sem];rw [<-aF] at l;refine au.next (v,N) rfl ⟨by rw [kR _ af,aK];exact l,by rw [kR _ af,aK,bD];omega⟩ ay
 . rintro ⟨v,ao⟩ tm ⟨l,-⟩ hF;simp only at l hF;rw [bX] at l;simp only [go_sem,hF,l.O,l.nl,dX,if_true];exact ak.W al aY l.rw l.W (aT _) l.up λcq bn=>bn
end
def HP (l m args ls ms j):(ko l m args ls ms j).length=7/\ ∀v∈ko l m args ls ms j,J v=true/\D 20 v=true:=⟨rfl,λv c3=>by
 have a:(ko l m args ls ms j).all (λv=>J v&&D 20 v)=true:=rfl;have:=ba.1 a v c3;simpa using this⟩
section
variable {d s:List aa} {kN jv rop j3 aJ req p aU u:Y} (aX:fz d s kN jv rop j3 aJ req p aU u) (c3:nm rop j3)
include aX c3
theorem Vo:bo λad n=> ∀H,Tidy H-> ∃v,F v (oN rop)/\ ∀tm,az G (X G R ad n) 35 [.agg d] H tm= .ok v tm H:=by
 obtain ⟨bj,aK⟩:=DB;have aW:=aX.bT.op;have bC:=c3.len;have aO:=aX.eq;obtain ⟨bQ,bt,bR,bK,bP,bV,bZ,b2,rfl,⟨b8,cc,rfl,b4,bM⟩,ba,bd,⟨b7,cb,rfl,b3,bL⟩,bc,bf,⟨b9,cd,rfl,b5,bN⟩,⟨ca,cf,rfl,b6,bO⟩⟩:=aO;obtain ⟨bW,br,bS,bu,b0,rfl,bg,a8,C,bb,bh⟩:=aX.bT.eq;refine ⟨bj+300,λad n bz bF H ar=> ?_⟩;obtain ⟨n,rfl⟩:=bY n;simp only [bl,a6];refine hg (aL.at (m:=31) rfl rfl rfl rfl rfl rfl rfl rfl ?_);simp only [go_sem,bg.J,a8.J,C.J,bb.J,bh.J,ba.J,bd.J,bc.J,bf.J,C.O,C.len];have hF:=trivial;generalize aM:a1 _ _ _ _ _ _ _ _ _ _=S;revert S;refine cv [10] (λs=> [(3,s.1)]) (λs=>s.2) (λB s=>P 52 7 H s.2 s.1 ((rop.take B).flatMap rj)/\((rop.take B).flatMap rj).length<=B*8) rop.length (.V,H) ⟨P.new _ _ ar,ai⟩ ?_ ?_
 . rintro B ⟨v,Q⟩ tm aP ⟨a,bw⟩ hF;simp only at a hF|-;obtain ⟨bn,K⟩:=bA aP;have ah:=aV K;obtain ⟨c,g,w,e,h,L,T⟩:=aW bn ah;obtain ⟨bB,a7,bG⟩:=c3.st ah T;have aS:=T;obtain ⟨l,q,j,r,ac,rfl,ag,z,bU,aY,-⟩:=aS.eq;have aF:f l=w:=bm ag;have Z:f j=L:=bm z;have aG: ∀o,oM [.str c g,l,.str e h,q,.int .i64 r,.int .i64 ac,j] o=ko c g w e h (iR [.str c g,l,.str e h,q,.int .i64 r,.int .i64 ac,j] o):=λo=>by show ko c g (f l) e h _=_;rw [aF]
   have Y:rj [.str c g,l,.str e h,q,.int .i64 r,.int .i64 ac,j]=(List.range L.length).map (oM [.str c g,l,.str e h,q,.int .i64 r,.int .i64 ac,j]):=by show (List.range (f j).length).map _=_;rw [Z]
   have bE:(rj [.str c g,l,.str e h,q,.int .i64 r,.int .i64 ac,j]).length<=8:=by rw [Y,di,nS];omega
   refine au.kp [12,11,10] (λaw tm ax=>Q=ax/\ ∃av,M tm 3=v/\M tm 5= .W av [.str c g,l,.str e h,q,.int .i64 r,.int .i64 ac,j]/\aw tm) ?_ ?_
   . simp only [go_sem,hF,C.O,C.a_ (k:=7) K rfl,ag.J,aY.J,z.J];exact an.mk ⟨rfl,_,by simp only [go_sem,hF];trivial⟩
   clear hF;rintro tm _ ⟨rfl,av,hF⟩;simp only [go_sem,hF,z.O,z.len];generalize aM:a1 _ _ _ _ _ _ _ _ _ _=S;revert S;generalize ae:(rop.take B).flatMap rj=y at*;refine cv [12,11,10,5,17] (λs=> [(3,s.1)]) (λs=>s.2) (λo s=>P 52 7 H s.2 s.1 (y++(List.range o).map (oM [.str c g,l,.str e h,q,.int .i64 r,.int .i64 ac,j]))) L.length (v,Q) (by simpa using a) ?_ ?_
   . clear hF;rintro o ⟨v,I⟩ tm aR a hF;simp only at a hF|-;obtain ⟨bk,U⟩:=bA aR;obtain ⟨N,rfl,bI,bJ⟩:=a7 _ (aV U);have aE:iR [.str c g,l,.str e h,q,.int .i64 r,.int .i64 ac,j] o=N.toNat-1:=by show (j7 (((f j)[o]?).getD [])).toNat-1=_;rw [Z,U];rfl
     have aH:N=((N.toNat-1+1:Nat):Int):=ab;have aa:=aG o;rw [aE] at aa;generalize N.toNat-1=D at*;subst aH;have bx:(y++(List.range o).map (oM [.str c g,l,.str e h,q,.int .i64 r,.int .i64 ac,j])).length+2<1048560:=by rw [bD,di,nS];omega
     have aB:y++(List.range (o+1)).map (oM [.str c g,l,.str e h,q,.int .i64 r,.int .i64 ac,j])=y++(List.range o).map (oM [.str c g,l,.str e h,q,.int .i64 r,.int .i64 ac,j])++ [ko c g w e h D]:=by rw [YW,aa,<-fu]
     generalize y++(List.range o).map (oM [.str c g,l,.str e h,q,.int .i64 r,.int .i64 ac,j])=bq at*;have aD:=λtm=>aK ad n ab ab _ c g w e h L D I T ab ab a.tidy tm;have aj:=HP c g w e h D;have aN:=O6 aj I;have ao:Rows 7 [ko c g w e h D]:=λbk aZ=>by rw [bs.1 aZ];exact aj
     obtain ⟨bp,aA,aC,af,-⟩:=a.app (E:=G) (t:=24) (b:=120) (i:=t52) aq aq rfl rfl al al (x:= .A [ko c g w e h D] true) (aQ:= [_]) (dR (.inr ⟨_,rfl⟩) ao.len) ao og;simp only [go_sem,hF,z.O,z.a_ (k:=1) U rfl,aD,aN,bH,a.O,aC,af.O];exact au.next (bp,aA) rfl (by show P _ 7 H _ _ (y++(List.range (o+1)).map _);rw [aB];exact af) ay
   . clear hF;rintro ⟨v,I⟩ tm a hF;simp only at a hF;simp only [go_sem];rw [<-Y] at a;refine au.next (v,I) rfl ⟨by rw [kR _ K,ae];exact a,by rw [kR _ K,ae,bD];omega⟩ ay
 . rintro ⟨v,Q⟩ tm ⟨a,-⟩ hF;simp only at a hF;rw [bX] at a;simp only [go_sem,hF,a.O,a.nl,dX,if_true];exact ak.W al ar a.rw a.W (aT _) a.up λb1 aI=>aI
theorem HQ:(oN rop).length<=1600:=by
 have e:=aX.bT.op;have:=nF rj 8 rop λh b=>by obtain ⟨n,q,k,o,r,x,a⟩:=e h b;have c:=(c3.st b a).2.2;obtain ⟨j,t,i,v,ac,rfl,l,g,w,m,-⟩:=a.eq;show ((List.range (f i).length).map _).length<=8;rw [bm g,di,nS];exact c
 have:=c3.len;unfold oN;omega
theorem LC (b c:Bool):(kO p b c rop).length<=3200:=by
 have j:=aX.bT.op;have:=nF (qF p b c) 16 rop λr g=>by
  obtain ⟨k,m,t,l,n,z,e⟩:=j r g;have v:=(c3.st g e).2.2;obtain ⟨i,o,a,q,ac,rfl,w,h,y,x,-⟩:=e.eq;have:=nF (j4 p b c [.str k m,i,.str l n,o,.int .i64 q,.int .i64 ac,a]) 2 (List.range (f a).length) λ_ _=>zK ..
  rw [nS,bm h] at this;show ((List.range (f a).length).flatMap _).length<=16;rw [bm h];omega
 have:=c3.len;unfold kO;omega
end
theorem abn:d G R 289 (λ_:Nat×Nat=>True) (λp=> [.str p.1 p.2,.int .u8 39]) (λp=>hp 39 p.1 p.2):=by refine d.cL (p:=r0) rfl rfl (λ_ _=>rfl) (λp _=>by unfold hp;split<;>rfl) λp _ a=> ?_;show (match mK 39 p.1 p.2 0 with|some b=>_|none=>_)=_;unfold hp;cases mK 39 p.1 p.2 0<;>simp<;>rfl
def abm:d G R 227 (λ_:Nat×Nat=>True) (λp=> [.str p.1 p.2,.int .u8 39]) (λp=>hp 39 p.1 p.2):=by
 obtain ⟨j,g⟩:=abn;refine d.run (m:=6) rfl rfl rfl rfl (λ_=>rfl) (λ_ _=>rfl) rfl rfl j λk l h i f _ c b=> ?_;have a:=λn=>g k l h i f trivial c n b;simp only at a;simp only [go_sem,a];unfold hp;split<;>exact e.mk rfl b (U.refl _)
def abo:d G R 153 (λ_:Nat×Nat=>True) (λp=> [.str p.1 p.2,.str 1 39]) (λp=>hp 39 p.1 p.2):=by
 obtain ⟨u,o⟩:=abm;refine d.run (m:=141) rfl rfl rfl rfl (λ_=>rfl) (λ_ _=>rfl) rfl rfl u λv w r s b _ i g=> ?_;have c:=λx=>o v w r s b trivial i x g;simp only at c;have j:(((1:Nat):Int)==0)=false:=rfl;have k:(((1:Nat):Int)==1)=true:=rfl;have l:en 39 0=39:=rfl;have n:((39:Nat):Int)=39:=rfl;obtain ⟨t,h⟩:=CB 39 b.1 b.2;have f:=h;simp only [h] at c|-;simp only [go_sem,j];refine e.aE ?_ ?_<;>intro a<;>simp only [go_sem,a,c,k,l,n]
 . have:t=0:=by simp only [br,beq_iff_eq] at a;rw [<-a.1,<-a.2] at f;have q:hp 39 1 39= .int .i64 0:=aq;rw [q] at f;cases f;rfl
   rw [this];exact e.mk rfl g (U.refl _)
 . exact e.mk rfl g (U.refl _)
def vq (l m:Nat):Bool:=(mK 39 l m 0).isSome
def abk:d G R 43 (λ_:Nat×Nat=>True) (λp=> [.str p.1 p.2,.str 1 39]) (λp=> .bool (vq p.1 p.2)):=by
 obtain ⟨u,q⟩:=abo;have w:d G R 76 (λ_:Nat×Nat=>True) (λp=> [.str p.1 p.2,.str 1 39]) (λp=>hp 39 p.1 p.2):=by refine d.run (m:=6) rfl rfl rfl rfl (λ_=>rfl) (λ_ _=>rfl) rfl rfl u λl n j k a _ h f=> ?_;have c:=λo=>q l n j k a trivial h o f;obtain ⟨g,i⟩:=CB 39 a.1 a.2;simp only [i] at c|-;simp only [go_sem,c];exact e.mk rfl f (U.refl _)
 obtain ⟨v,r⟩:=w;refine d.run (m:=7) rfl rfl rfl rfl (λ_=>rfl) (λ_ _=>rfl) rfl rfl v λl n j k a _ h f=> ?_;have c:=λo=>r l n j k a trivial h o f;have s: ∃g:Int,hp 39 a.1 a.2= .int .i64 g/\decide (g>=0)=vq a.1 a.2:=by
  unfold hp vq
  cases mK 39 a.1 a.2 0 with
  |none=>exact ⟨_,rfl,rfl⟩
  |some g=>exact ⟨_,rfl,ai⟩
 obtain ⟨g,i,t⟩:=s;simp only [i] at c|-;simp only [go_sem,c];exact e.b f (U.refl _) t.symm
def vH (r:List aa):Bool:=match r with
 | .str a b::_=>decide ((f (M r 6)).length>0)&&vq a b
 |_=>false
def abv:bo λad n=> ∀r H,c6 r->Tidy H-> ∀tm,cx G (X G R ad n) (.fn (.func 42) [] []) [.agg r] H tm= .ok (.bool (vH r)) tm H:=by
 obtain ⟨s,j⟩:=abk;refine ⟨s+1,λad n z A r H q e tm=> ?_⟩;obtain ⟨n,rfl⟩:=bY n;obtain ⟨b,c,y,t,u,x,l⟩:=q;obtain ⟨h,v,g,w,ac,rfl,k,a,B,o,-⟩:=l.eq;have d:=λtm=>j ad n ab ab (b,c) trivial H tm e;simp only at d;simp only [eg,a6,fw];refine fa (aL.at (m:=11) (rs:= [.tmp 2]) rfl rfl rfl rfl rfl rfl rfl rfl ?_) tm;have p:vH [.str b c,h,.str t u,v,.int .i64 w,.int .i64 ac,g]=(decide ((x.length:Int)>0)&&vq b c):=by show (decide ((f g).length>0)&&_)=_;rw [bm a];congr 1;simp
 rw [p];simp only [go_sem,k.J,o.J,a.J,a.O,a.len];refine ak.aE ?_ ?_<;>intro i<;>simp only [go_sem,i,d]
 all_goals exact ak.mk ai rfl e (U.refl _)
def aby {ad n:Nat} {r q:List aa} {l m:Nat} (k:r.length=7) (c:r.all J=true) (i: ∃t,q= .str l m::t) (o: ∃a b t,r= .str a b::t) {id g d:Nat} {H:af} (p:Tidy H) (h:H.get id=some (.cells g d 0 q)) (f:d<=g) (j:q.length=7) (tm:List aa):
    cx G (X G R ad (n+1)) (.fn (.func 46) [] [.ptr id g 0 7]) [.agg r] H tm= .ok (.bool (eV l m r)) tm H:=by
 obtain ⟨t,rfl⟩:=i;obtain ⟨a,b,z,rfl⟩:=o
 match z,k,c with
 | [A,B,C,D,E,F],_,c=>
 match t,j with
 | [I,K,L,M,N,O],_=>
 simp only [aO,br] at c;obtain ⟨-,s,u,v,w,x,y,-⟩:=c;simp only [eg,a6,bl];refine fa (aL.at (m:=7) (rs:= [.tmp 3]) rfl rfl rfl rfl rfl rfl rfl rfl ?_) tm;have e:(a==l&&b==m)=(l==a&&m==b):=by rw [BEq.comm (a:=a),BEq.comm (a:=b)]
 simp only [go_sem,s,u,v,w,x,y,h,f,e];exact ak.mk rfl rfl p (U.refl _)
def abz {ad n:Nat} {r q:List aa} {l m:Nat} (k:r.length=7) (c:r.all J=true) (i: ∃t,q= .str l m::t) (o: ∃a b t,r= .str a b::t) {id g d:Nat} {H:af} (p:Tidy H) (h:H.get id=some (.cells g d 0 q)) (f:d<=g) (j:q.length=7) (tm:List aa):
    cx G (X G R ad (n+1)) (.fn (.func 47) [] [.ptr id g 0 7]) [.agg r] H tm= .ok (.bool (eV l m r)) tm H:=by
 obtain ⟨t,rfl⟩:=i;obtain ⟨a,b,z,rfl⟩:=o
 match z,k,c with
 | [A,B,C,D,E,F],_,c=>
 match t,j with
 | [I,K,L,M,N,O],_=>
 simp only [aO,br] at c;obtain ⟨-,s,u,v,w,x,y,-⟩:=c;simp only [eg,a6,bl];refine fa (aL.at (m:=7) (rs:= [.tmp 3]) rfl rfl rfl rfl rfl rfl rfl rfl ?_) tm;have e:(a==l&&b==m)=(l==a&&m==b):=by rw [BEq.comm (a:=a),BEq.comm (a:=b)]
 simp only [go_sem,s,u,v,w,x,y,h,f,e];exact ak.mk rfl rfl p (U.refl _)
def lI.qE {r} (c:lI r):r.length=7/\(∃a b t,r= .str a b::t)/\r.all J=true:=by
 obtain ⟨j,k,i,q,d,a,b,rfl,⟨v,w,rfl,-⟩,⟨n,g,-⟩,⟨m,f,-⟩,⟨o,h,-⟩,⟨l,e,-⟩,⟨a,rfl⟩,⟨b,rfl⟩⟩:=c;exact ⟨rfl,ai,by simp only [aO,g.J,f.J,h.J,e.J];rfl⟩
def c6.qE {r} (c:c6 r):r.length=7/\(∃a b t,r= .str a b::t)/\r.all J=true:=by
 have g:=c.ok;obtain ⟨h,j,f,i,k,o,e⟩:=c;obtain ⟨a,l,n,m,ac,rfl,-⟩:=e.eq
 grind
def xg (r:List aa):Prop:=(r.length=7/\ ∀a∈r,J a=true/\D 20 a=true)/\ ∃b c e,r= .str b c::e
def Zu {p:Y} {b c:Bool} {rop:Y}: ∀r∈kO p b c rop,xg r:=λr a=>by
 obtain ⟨f,-,a⟩:=fC.1 a;obtain ⟨e,-,a⟩:=fC.1 a;unfold j4 at a;split at a
 . rcases cr.1 a with a|a
   . cases b with
     |false=>cases a
     |true=>rw [bs.1 a];exact ⟨Is ..,_,_,_,rfl⟩
   . cases c with
     |false=>cases a
     |true=>rw [bs.1 a];exact ⟨GN ..,_,_,_,rfl⟩
 grind
def RW {rop:Y} (c: ∀r∈rop,c6 r): ∀r∈oN rop,xg r:=λr a=>by
 obtain ⟨f,e,a⟩:=fC.1 a;obtain ⟨i,-,rfl⟩:=cd.1 a;obtain ⟨j,l,h,k,m,t,b⟩:=c f e;obtain ⟨g,n,q,o,ac,rfl,-⟩:=b.eq;exact ⟨HP ..,_,_,_,rfl⟩
def il (r:List aa):List aa:=putAt 6 [.V] (ct r)
def eZ (rop:Y):Y:=rop.map il++oN rop
def jZ (r:List aa):Nat×Nat:=match r with
 | .str a b::_=>(a,b)
 |_=>(0,0)
structure lD (p rop u:Y):Prop where
  aR: ∀r∈rop,vH r=false
  n3: ∀r∈kO p true true rop,(jZ r).1<=40
  ag6: ∀r∈kO p true true rop,u.any (eV (jZ r).1 (jZ r).2)=false
  op: ∀r∈oN rop,rop.any (eV (jZ r).1 (jZ r).2)=false
def xe (p rop u:Y) (kN jv j3 aJ:Y) (v:aa):Prop:= ∃k e a c b f h l i j m n o g,v= .av [.agg [k,e,a,c,b,f,h,l,i,j,m,n,o],.int .i64 g]/\
 (∀q∈ [k,e,a,c,b,f,h,l,i,j,m,n,o],J q=true/\D 18 q=true)/\(g=0->lD p rop u/\F e kN/\F a jv/\F c (eZ rop)/\F b (j3.map ct)/\F f aJ)
def P.uniq {el k j h:Nat} {e H:af} {v:aa} {rows aQ:Y} (a:P el k e H v rows) (g:P j h e H v aQ) (r:0<k) (t:0<h):rows=aQ:=by
 by_cases f:rows= []
 . subst f;rcases a.ex with ⟨rfl,-⟩|⟨a,-⟩
   . exact (g.Kk rfl).2.symm
   grind
 . obtain ⟨id,q,d,rfl,-,l,-⟩:=a.ref f;have m:aQ≠ []:=λb=>by
    subst b;rcases g.ex with ⟨a,-⟩|⟨a,-⟩
    all_goals grind
   obtain ⟨w,o,n,b,-,c,-⟩:=g.ref m;simp only [aa.ref.injEq] at b;obtain ⟨rfl,rfl,-,rfl,i,-⟩:=b;rw [l] at c;simp only [N,Obj.cells.injEq] at c;rw [<-k3 k rows a.rw.len,<-k3 k aQ g.rw.len,i,c.2.2.2]
def Kw {r} (n:c6 r):(ct r).length=7/\ ∃l m args ls ms st a p s' i j,fB r l m args ls ms st/\ct r= [.str l m,a,.str ls ms,p,.int .i64 i,.int .i64 j,s']/\F a args/\F s' st/\ ∃b,F p b/\b.length<1048560/\ ∀q∈b,gd q:=by
 obtain ⟨l,m,args,ls,ms,st,e⟩:=n;obtain ⟨a,p,s',c,ac,rfl,o,h,b,g,t,v⟩:=e.eq;have k:ct [.str l m,a,.str ls ms,p,.int .i64 c,.int .i64 ac,s']= [.str l m,dk (f a),.str ls ms,gB p (f p),.int .i64 c,.int .i64 ac,gB s' (f s')]:=rfl;refine ⟨rfl,l,m,args,ls,ms,st,_,_,_,c,ac,e,k,?_,?_,b,?_,t,v⟩
 . rw [bm o];exact fW _
 . rw [bm h];exact xH h
 . rw [bm g];exact xH g
def rU {v:aa} (a:J v=true):v.cells= [v]:=by cases v<;>first|rfl|cases a
def xg.cs {r} (i:xg r): ∃l m a b c e f g,r= [.str l m,a,b,c,e,f,g]/\(J a=true/\J b=true/\J c=true/\J e=true/\J f=true/\J g=true)/\a.cells= [a]/\b.cells= [b]/\c.cells= [c]/\e.cells= [e]/\f.cells= [f]/\g.cells= [g]:=by
 obtain ⟨⟨j,k⟩,l,m,n,rfl⟩:=i
 match n,j with
 | [a,b,c,e,f,g],_=>
   have h:=λo c3=>(k o c3).1;exact ⟨l,m,a,b,c,e,f,g,rfl,ah,rU ah,rU ah,rU ah,rU (h _ ai),rU (h _ ai),rU (h _ ai)⟩
def Z0 {α:Type} (l1 a:List α) (j:Nat) (x:α) (c:l1[j]? =some x) (f:l1.length=a.length):(l1.take j++a.drop j).set j x=l1.take (j+1)++a.drop (j+1):=by
 have e:j<l1.length:=ah;have b:(l1.take j).length=j:=ah;rw [List.set_append_right _ _ ab,b,Nat.sub_self,CQ (l:=a) ab,List.set_cons_zero,fg,c];simp
def Sg {α:Type} (l1 a:List α) (j:Nat) (b:j<l1.length):(l1.take j++a.drop j)[j]? =a[j]? :=by
 grind
section
variable {d s:List aa} {kN jv rop j3 aJ req p aU u:Y} (aX:fz d s kN jv rop j3 aJ req p aU u) (c3:nm rop j3)
include aX c3
theorem UT (eC:kN.length+jv.length+rop.length+j3.length+aJ.length<800000) (eK: ∀r∈j3,nk r) {N:Nat} (hT:bL (eE req p aU u) N) (hN:N<50000):
  dt 26 [.agg d] (xe p rop u kN jv j3 aJ) bQ:=by
 have bc:=aX.bT.op;obtain ⟨cV,bO⟩:=Vg aX eC (λr o aA aK fm fZ gg gm eO=>by have:=c3.st o eO;omega) eK hT hN;obtain ⟨cW,bA⟩:=Vo aX c3;obtain ⟨cX,dp⟩:=Jx aX c3;obtain ⟨cY,eB⟩:=abv;have fu:=HQ aX c3;have fE:=LC aX c3 true true;have fy:=c3.len;have cg:=aX.bh;have fY:u.length<1048560:=by have bO:=aX.iN;have:=D9 u;omega
 have eJ:=aX.eq;obtain ⟨gh,f,g,e1,cZ,cl,gn,gq,rfl,⟨c7,db,rfl,gv,fW⟩,eW,eY,⟨c5,da,rfl,gr,fU⟩,eX,bU,⟨c8,dc,rfl,dQ,ga⟩,⟨c9,dd,rfl,gy,gd⟩⟩:=eJ;obtain ⟨c1,cF,b3,cP,c4,rfl,eZ,eU,bf,cU,e0⟩:=aX.bT.eq;simp only [bl,a6] at bO bA dp|-;refine aL.run (m:=113) rfl rfl rfl rfl rfl rfl rfl rfl (cV+cW+cX+cY+1010000) λbg aD dw fC v bC=> ?_;obtain ⟨aD,rfl⟩: ∃e3,aD=e3+1+2:=⟨aD-3,ab⟩;obtain ⟨_,B,eF,ev⟩:=bO bg (aD+1+2) ab ab v bC;obtain ⟨_,aB,af,aF,T,L,H,bk,_,bj,aC,_,_,dH,dI,rfl,⟨bo,bt,rfl,gw,fX⟩,⟨bn,br,rfl,gu,fV⟩,⟨bp,bu,rfl,gx,gb⟩,⟨bq,bw,rfl,gz,gf⟩,ag,dS,dT,dU,dV,dq,eP,eM,dr,fq,ft,az⟩:=eF.eq;obtain ⟨gk,ck,fI,fJ⟩:=id eP;obtain ⟨gj,cj,fG,fH⟩:=id eM;obtain ⟨cQ,aH,j⟩:=bA bg (aD+1+2) ab ab B ag.tidy;obtain ⟨dJ,R,ew⟩:=dp bg (aD+1+2) ab ab true true B ag.tidy;have cS:=RW bc;have ch:=Zu (p:=p) (b:=true) (c:=true) (rop:=rop);generalize eD:oN rop=aG at*;generalize fs:kO p true true rop=I at*;have bN: ∀b6:Int,b6≠0-> ∀h,U v h->ak (xe p rop u kN jv j3 aJ) bQ v (.ret (.av [.agg [.str 0 0,.V,.V,.V,.V,.V,.V,.V,.str 0 0,.V,.V,.str 0 0,.str 0 0],.int .i64 b6]) h):=λb6 eH h eS=>ak.mk ⟨_,_,_,_,_,_,_,_,_,_,_,_,_,b6,rfl,(λbI bd=>by simp only [b2,dG,or_false] at bd;rcases bd with rfl|rfl|rfl|rfl|rfl|rfl|rfl|rfl|rfl|rfl|rfl|rfl|rfl<;>exact ⟨rfl,rfl⟩),λe=>absurd e eH⟩ rfl bC eS;refine ak.bM (λa h=>v=h/\aM 114 [(1,.W 0 [.str c7 db,c1,cF,b3,cP,c4,f,g,.str c5 da,cZ,cl,.str c8 dc,.str c9 dd]),(2,.W 0 [.str 0 0,.V,.V,.V,.V,.V,.V,.V,.str 0 0,.V,.V,.str 0 0,.str 0 0]),(3,.int .i64 0),(4,.av [])] a) ?_ ?_
 . simp -implicitDefEqProofs only [go_sem,eZ.J,eU.J,bf.J,cU.J,e0.J,eW.J,eY.J,eX.J,bU.J];exact an.mk ⟨rfl,w0⟩
 rintro a _ ⟨rfl,hF⟩;refine ak.bM (λa h=>B=h/\aM 114 [(1,.W 0 [.str c7 db,c1,cF,b3,cP,c4,f,g,.str c5 da,cZ,cl,.str c8 dc,.str c9 dd]),(2,.W 0 [.str 0 0,.V,.V,.V,.V,.V,.V,.V,.str 0 0,.V,.V,.str 0 0,.str 0 0]),(3,.int .i64 0),(4,.W 0 [.str bo bt,aB,af,aF,T,L,H,bk,.str bn br,bj,aC,.str bp bu,.str bq bw])] a) ?_ ?_
 . simp -implicitDefEqProofs only [go_sem,hF,ev,ag.ok,dS.ok,dT.ok,dU.ok,dV.ok,ck.J,cj.J,dq.ok,dr.ok];exact an.mk ⟨rfl,dm⟩
 clear hF;rintro a _ ⟨rfl,hF⟩;refine ak.bF hF (λz a h=>B=h/\aM 114 [(5,cQ)] a/\z a) ?_ ?_
 . simp -implicitDefEqProofs only [go_sem,hF,j,aH.O];exact an.mk ⟨rfl,dm⟩
 clear hF;rintro a _ ⟨rfl,hF⟩;refine ak.bM (λa h=>B=h/\aM 114 [(1,.W 0 [.str c7 db,c1,cF,b3,cP,c4,f,g,.str c5 da,cZ,cl,.str c8 dc,.str c9 dd]),(2,.W 0 [.str 0 0,.V,.V,.V,.V,.V,.V,.V,.str 0 0,.V,.V,.str 0 0,.str 0 0]),(3,.int .i64 0),(4,.W 0 [.str bo bt,aB,af,aF,T,L,H,bk,.str bn br,bj,aC,.str bp bu,.str bq bw]),(5,cQ),(6,dJ)] a) ?_ ?_
 . simp -implicitDefEqProofs only [go_sem,hF,ew,R.O];exact an.mk ⟨rfl,dm⟩
 clear hF;rintro a _ ⟨rfl,hF⟩;refine ak.bF hF (λz a h=>(B=h/\u.length+I.length<=300/\rop.length+j3.length+aG.length<=200)/\z a) ?_ ?_
 . have a7:IntKind.i64.wrap ((rop.length:Int)+(j3.length:Int))=(rop.length:Int)+(j3.length:Int):=wrap64 _ ab ab;have bm:IntKind.i64.wrap ((rop.length:Int)+(j3.length:Int)+(aG.length:Int))=(rop.length:Int)+(j3.length:Int)+(aG.length:Int):=wrap64 _ ab ab;have bE:IntKind.i64.wrap ((u.length:Int)+(I.length:Int))=(u.length:Int)+(I.length:Int):=wrap64 _ ab ab;simp -implicitDefEqProofs only [go_sem,hF,bf.O,bf.len,cU.O,cU.len,aH.O,aH.len,a7,bm]
   iterate 2 all_goals try (refine an.aE ?_ ?_<;>intro Y<;>simp -implicitDefEqProofs only [go_sem,hF,Y,bU.O,bU.len,R.O,R.len,bE])
   all_goals first
    |exact an.mk ⟨ah,dm⟩
    |exact an.stop rfl (by simp -implicitDefEqProofs only [go_sem,hF];exact bN 3 al _ ag.up)
 clear hF;rintro a _ ⟨⟨rfl,fz,fA⟩,hF⟩;refine ak.bF hF (λz a h=>B=h/\aM 114 [(7,.fn (.func 42) [] [])] a/\z a) ?_ ?_
 . simp -implicitDefEqProofs only [go_sem];exact an.mk ⟨rfl,dm⟩
 clear hF;rintro a _ ⟨rfl,hF⟩;refine ak.kp [1,2,3,4,5,6] (λz a h=>(B=h/\rop.any vH=false)/\z a) ?_ ?_
 . have bK:=Dt b3 (.fn (.func 42) [] []) rop vH bf (λr o=>(bc r o).len) ab rfl (λ_=>rfl) bg (aD+1) ab B ag.tidy λr o a=>eB bg (aD+1) ab ab r B (bc r o) ag.tidy a;simp -implicitDefEqProofs only [go_sem,hF,bf.O,bK];refine an.aE ?_ ?_<;>intro Y<;>simp -implicitDefEqProofs only [go_sem,hF,Y]
   . exact an.stop rfl (by simp -implicitDefEqProofs only [go_sem,hF];exact bN 3 al _ ag.up)
   . exact an.mk ⟨⟨rfl,Y⟩,dm⟩
 clear hF;rintro a _ ⟨⟨rfl,fx⟩,hF⟩;refine ak.bF hF (λz a h=>(B=h/\ ∀r∈I,(jZ r).1<=40)/\z a) ?_ ?_
 . simp -implicitDefEqProofs only [go_sem,hF,R.O,R.len];generalize cR:a1 _ _ _ _ _ _ _ _ _ _=bb;revert bb;refine dA [1,2,3,4,5,6,50] (λl=> ∀r∈I.take l,(jZ r).1<=40) I.length ai ?_ ?_
   . clear hF;rintro l s a cT aP hF;obtain ⟨r,ae⟩: ∃r,I[l]? =some r:=⟨I[l],ai⟩;obtain ⟨aA,aK,ao,ar,X,aw,ax,ay,rfl,⟨bV,bW,bY,bZ,b0,b1⟩,dx,dy,dz,dB,dC,dD⟩:=(ch r (aV ae)).cs;simp -implicitDefEqProofs only [go_sem,hF,R.O,R.a_ (k:=7) ae rfl,bV,bW,bY,bZ,b0,b1];refine au.aE ?_ ?_<;>intro Y<;>try simp -implicitDefEqProofs only [go_sem,hF,Y]
     . exact au.stop rfl (by simp -implicitDefEqProofs only [go_sem];exact an.stop rfl (by simp -implicitDefEqProofs only [go_sem,hF];exact bN 3 al _ ag.up))
     . refine au.next () rfl (λdE aR=> ?_) dm;rcases tT ae aR with aR|rfl
       . grind
       . have: ¬((aA:Int)>40):=ah;show aA<=40;omega
   . rintro s a aP hF;rw [bX] at aP;simp -implicitDefEqProofs only [go_sem];exact an.mk ah
 clear hF;rintro a _ ⟨⟨rfl,fD⟩,hF⟩;refine ak.bF hF (λz a h=>(Tidy h/\U B h/\ ∀r∈I,u.any (eV (jZ r).1 (jZ r).2)=false)/\z a) ?_ ?_
 . simp -implicitDefEqProofs only [go_sem,hF,R.O,R.len];generalize cR:a1 _ _ _ _ _ _ _ _ _ _=bb;revert bb;refine cv [1,2,3,4,5,6,62] (λ_=> []) (λs=>s) (λl s=>Tidy s/\U B s/\ ∀r∈I.take l,u.any (eV (jZ r).1 (jZ r).2)=false) I.length B ⟨ag.tidy,U.refl _,ai⟩ ?_ ?_
   . clear hF;rintro l s a cT ⟨aW,aS,aP⟩ hF;obtain ⟨r,ae⟩: ∃r,I[l]? =some r:=⟨I[l],ai⟩;have bP:=ch r (aV ae);obtain ⟨aA,aK,ao,ar,X,aw,ax,ay,rfl,⟨bV,bW,bY,bZ,b0,b1⟩,dx,dy,dz,dB,dC,dD⟩:=bP.cs;have C:Tidy (s.push (.cells (q 64) (q 64) 0 [.str aA aK,ao,ar,X,aw,ax,ay])):=aW.push (ba.2 λy c3=>fR _ 20 20 y al (bP.1.2 y c3).2);have bK:=Us cl (.fn (.func 46) [] [.ptr s.n (q 64) 0 7]) u (eV aA aK) bU (λr o=>(lI.qE (cg r o)).1) ab rfl (λ_=>rfl) bg (aD+1) ab _ C λr o a=>aby (lI.qE (cg r o)).1 (lI.qE (cg r o)).2.2 ⟨_,rfl⟩ (lI.qE (cg r o)).2.1 C (dL _ _) (aT _) rfl a;have S:=aS.push (.cells (q 64) (q 64) 0 [.str aA aK,ao,ar,X,aw,ax,ay]);simp -implicitDefEqProofs only [go_sem,hF,R.O,R.a_ (k:=7) ae rfl,bV,bW,bY,bZ,b0,b1,bU.O,bK];refine au.aE ?_ ?_<;>intro Y<;>try simp -implicitDefEqProofs only [go_sem,hF,Y]
     . exact au.stop rfl (by simp -implicitDefEqProofs only [go_sem];exact an.stop rfl (by simp -implicitDefEqProofs only [go_sem,hF];exact bN 14 al _ (ag.up.trans S)))
     . refine au.next _ rfl ⟨C,S,λdE aR=> ?_⟩ dm;rcases tT ae aR with aR|rfl
       . grind
       . exact Y
   . rintro s a ⟨aW,aS,aP⟩ hF;rw [bX] at aP;simp -implicitDefEqProofs only [go_sem];exact an.mk ah
 clear hF;rintro a dX ⟨⟨aW,aS,fF⟩,hF⟩;refine ak.bF hF (λz a h=>(Tidy h/\U B h/\ ∀r∈aG,rop.any (eV (jZ r).1 (jZ r).2)=false)/\z a) ?_ ?_
 . simp -implicitDefEqProofs only [go_sem,hF,aH.O,aH.len];generalize cR:a1 _ _ _ _ _ _ _ _ _ _=bb;revert bb;refine cv [1,2,3,4,5,6,74] (λ_=> []) (λs=>s) (λl s=>Tidy s/\U B s/\ ∀r∈aG.take l,rop.any (eV (jZ r).1 (jZ r).2)=false) aG.length dX ⟨aW,aS,ai⟩ ?_ ?_
   . clear hF;rintro l s a cT ⟨aW,aS,aP⟩ hF;obtain ⟨r,ae⟩: ∃r,aG[l]? =some r:=⟨aG[l],ai⟩;have bP:=cS r (aV ae);obtain ⟨aA,aK,ao,ar,X,aw,ax,ay,rfl,⟨bV,bW,bY,bZ,b0,b1⟩,dx,dy,dz,dB,dC,dD⟩:=bP.cs;have C:Tidy (s.push (.cells (q 52) (q 52) 0 [.str aA aK,ao,ar,X,aw,ax,ay])):=aW.push (ba.2 λy c3=>fR _ 20 20 y al (bP.1.2 y c3).2);have bK:=Dt b3 (.fn (.func 47) [] [.ptr s.n (q 52) 0 7]) rop (eV aA aK) bf (λr o=>(bc r o).len) ab rfl (λ_=>rfl) bg (aD+1) ab _ C λr o a=>abz (c6.qE (bc r o)).1 (c6.qE (bc r o)).2.2 ⟨_,rfl⟩ (c6.qE (bc r o)).2.1 C (dL _ _) (aT _) rfl a;have S:=aS.push (.cells (q 52) (q 52) 0 [.str aA aK,ao,ar,X,aw,ax,ay]);simp -implicitDefEqProofs only [go_sem,hF,aH.O,aH.a_ (k:=7) ae rfl,bV,bW,bY,bZ,b0,b1,bf.O,bK];refine au.aE ?_ ?_<;>intro Y<;>try simp -implicitDefEqProofs only [go_sem,hF,Y]
     . exact au.stop rfl (by simp -implicitDefEqProofs only [go_sem];exact an.stop rfl (by simp -implicitDefEqProofs only [go_sem,hF];exact bN 14 al _ (ag.up.trans S)))
     . refine au.next _ rfl ⟨C,S,λdE aR=> ?_⟩ dm;rcases tT ae aR with aR|rfl
       . grind
       . exact Y
   . rintro s a ⟨aW,aS,aP⟩ hF;rw [bX] at aP;simp -implicitDefEqProofs only [go_sem];exact an.mk ah
 clear hF aW aS;rintro a dY ⟨⟨C,S,fv⟩,hF⟩;have eG:lD p rop u:=⟨ah,ah,ah,ah⟩;have cn:=ag.at C S;have cp:=dS.at C S;have bJ:=dT.at C S;have cq:=dU.at C S;have cr:=dV.at C S;have cu:=dq.at C S;have cw:=dr.at C S;obtain ⟨a7,az⟩:=hq.1 az;obtain ⟨bm,az⟩:=hq.1 az;obtain ⟨bE,az⟩:=hq.1 az;obtain ⟨c0,az⟩:=hq.1 az;obtain ⟨dF,az⟩:=hq.1 az;obtain ⟨fg,-⟩:=hq.1 az;have cG:cc aF aB:=(a7 _ ai).symm;have cH:cc aF af:=(bm _ ai).symm;have cI:cc aF T:=bE _ ai;have cJ:cc aF L:=bE _ ai;have cK:cc aF H:=bE _ ai;have cL:cc aF aC:=bE _ ai;have dg:cc aC aB:=(a7 _ ai).symm;have dh:cc aC af:=(bm _ ai).symm;have dj:cc aC T:=(c0 _ ai).symm;have dk:cc aC L:=(dF _ ai).symm;have dn:cc aC H:=(fg _ ai).symm;have eN:(rop.map ct).length=rop.length:=di ..
 have fB:(rop.map il).length=rop.length:=di ..
 refine ak.bF hF.2 (λz a h=>(P 52 7 v h aF (rop.map il)/\P 9 1 v h aB kN/\P 166 2 v h af jv/\P 52 7 v h T (j3.map ct)/\P 9 1 v h L aJ/\P 81 15 v h H dH/\P 64 7 v h aC dI)/\z a) ?_ ?_
 . have dW:=bJ.len;rw [eN] at dW;simp -implicitDefEqProofs only [go_sem,hF,bJ.O,dW];generalize cR:a1 _ _ _ _ _ _ _ _ _ _=bb;revert bb;refine cv [2,3,4,5,6] (λ_=> []) (λs=>s) (λl s=>P 52 7 v s aF ((rop.map il).take l++(rop.map ct).drop l)/\P 9 1 v s aB kN/\P 166 2 v s af jv/\P 52 7 v s T (j3.map ct)/\P 9 1 v s L aJ/\P 81 15 v s H dH/\P 64 7 v s aC dI) rop.length dY ah ?_ ?_
   . clear hF;rintro l s a cT ⟨w,cx,cy,cz,cA,cB,cC⟩ hF;obtain ⟨r,ae⟩: ∃r,rop[l]? =some r:=⟨rop[l],ai⟩;have eI:(rop.map ct)[l]? =some (ct r):=ah;have eT:(rop.map il)[l]? =some (il r):=ah;have du:=Sg (rop.map il) (rop.map ct) l ab;rw [eI] at du;obtain ⟨gi,e4,b5,ea,eb,fk,ec,ed,fl,ee,K,bx⟩:=w.pn du 6 [.V] (aT 7) (λy c3=>by rw [bs.1 c3];exact ⟨rfl,rfl⟩);have cM:=Z0 (rop.map il) (rop.map ct) l (il r) eT ab;have cM:((rop.map il).take l++(rop.map ct).drop l).set l (putAt 6 [.V] (ct r))=(rop.map il).take (l+1)++(rop.map ct).drop (l+1):=cM;rw [cM] at K;have ef: ∀a,hf 1 e4 [.V] a s= .ok (.av []) a b5:=ee;simp -implicitDefEqProofs only [go_sem,hF,w.O,ea,eb,ec,ed,ef];exact au.next b5 rfl ⟨K,cx.bS K.tidy K.up λid g e f=>bx.other id g e λj=>cG id j f,cy.bS K.tidy K.up λid g e f=>bx.other id g e λj=>cH id j f,cz.bS K.tidy K.up λid g e f=>bx.other id g e λj=>cI id j f,
      cA.bS K.tidy K.up λid g e f=>bx.other id g e λj=>cJ id j f,cB.bS K.tidy K.up λid g e f=>bx.other id g e λj=>cK id j f,cC.bS K.tidy K.up λid g e f=>bx.other id g e λj=>cL id j f⟩ dm
   . rintro s a ⟨w,gA⟩ hF;rw [fT ab,tv ab,fw] at w;simp -implicitDefEqProofs only [go_sem];exact an.mk ah
 clear hF cn cp bJ cq cr cu cw;rintro a fj ⟨⟨bJ,cn,cp,cq,cr,cu,cw⟩,hF⟩;obtain ⟨b4,b5,ey,w,Z⟩:=bJ.app (k:=7) (E:=G) (t:=24) (b:=120) (i:=t52) aq aq rfl rfl al al (x:=cQ) (aQ:=aG) (dR aH λr o=>(cS r o).1.1) (λr o=>(cS r o).1) ab;have cx:=cn.bS w.tidy w.up λid g e f=>Z.other id g e λj=>cG id j f;have cy:=cp.bS w.tidy w.up λid g e f=>Z.other id g e λj=>cH id j f;have cz:=cq.bS w.tidy w.up λid g e f=>Z.other id g e λj=>cI id j f;have cA:=cr.bS w.tidy w.up λid g e f=>Z.other id g e λj=>cJ id j f;have cB:=cu.bS w.tidy w.up λid g e f=>Z.other id g e λj=>cK id j f;have cC:=cw.bS w.tidy w.up λid g e f=>Z.other id g e λj=>cL id j f;have eh:=cG.grow cn.W Z;have ei:=cH.grow cp.W Z;have ej:=cI.grow cq.W Z;have ek:=cJ.grow cr.W Z;have el:=cK.grow cu.W Z;have df:=cL.grow cw.W Z;refine ak.kp [2,3,5,6] (λz a h=>b5=h/\M a 4= .W 0 [.str bo bt,aB,af,b4,T,L,H,bk,.str bn br,bj,aC,.str bp bu,.str bq bw]/\z a) ?_ ?_
 . simp -implicitDefEqProofs only [go_sem,hF,bJ.O,aH.O,ey,bH,w.O,w.ok,w.cs];exact an.mk ⟨rfl,dm⟩
 clear hF;rintro a _ ⟨rfl,hF⟩;obtain ⟨cm,aO,ez,A,ad⟩:=cC.app (k:=7) (E:=G) (t:=29) (b:=128) (i:=t64) aq aq rfl rfl al al (x:=dJ) (aQ:=I) (dR R λr o=>(ch r o).1.1) (λr o=>(ch r o).1) ab;have dK:=cx.bS A.tidy A.up λid g e f=>ad.other id g e λj=>dg id j f;have dM:=cy.bS A.tidy A.up λid g e f=>ad.other id g e λj=>dh id j f;have dN:=w.bS A.tidy A.up λid g e f=>ad.other id g e λj=>df id f j;have dO:=cz.bS A.tidy A.up λid g e f=>ad.other id g e λj=>dj id j f;have dP:=cA.bS A.tidy A.up λid g e f=>ad.other id g e λj=>dk id j f;have fi:=cB.bS A.tidy A.up λid g e f=>ad.other id g e λj=>dn id j f;have en:=dg.grow cx.W ad;have eo:=dh.grow cy.W ad;have er:=dj.grow cz.W ad;have et:=dk.grow cA.W ad;have eu:=dn.grow cB.W ad;have ep:=(df.symm).grow w.W ad;refine ak.kp [2,3,5,6] (λz a h=>aO=h/\M a 4= .W 0 [.str bo bt,aB,af,b4,T,L,H,bk,.str bn br,bj,cm,.str bp bu,.str bq bw]/\z a) ?_ ?_
 . simp -implicitDefEqProofs only [go_sem,hF,cC.O,R.O,ez,bH,A.O,A.ok,A.cs];exact an.mk ⟨rfl,dm⟩
 clear hF;rintro a _ ⟨rfl,hF⟩;have fp:ak (xe p rop u kN jv j3 aJ) bQ v (.ret (.av [.agg [.str bo bt,aB,af,b4,T,L,H,bk,.str bn br,bj,cm,.str bp bu,.str bq bw],.int .i64 0]) aO):=by
  let cE:aa->aa->Prop:=λy a8=>(J a8=true/\D 18 a8=true)/\ ∀bz aY aN,0<aY->P bz aY v aO y aN->F a8 aN;have eR: ∀ {a8 aN},F a8 aN->J a8=true/\D 18 a8=true:=λe=>⟨e.J,e.aI 17⟩;have fr: ∀ {bz aY y aN},0<aY->P bz aY v aO y aN->AM 47 v aO cE y:=λ{bz aY y aN} dv e=> .inr ⟨bz,aY,_,aN,dv,e.rw,e.W,λa8 bC=>⟨eR bC,λfo fK gl eL eA=>by rw [<-e.uniq eA dv eL];exact bC⟩⟩;have bB: ∀ {y},J y=true->(∀d,D (d+1) y=true)->AM 47 v aO cE y:=λ{y} bO bA=> .inl ⟨bA 47,⟨bO,bA 17⟩,λbz aY aN _ e=>by obtain ⟨rfl,rfl⟩:=e.Kk (vi (bA 0));exact .inl ⟨rfl,rfl⟩⟩;have bD: ∀ {c2 y:aa},(∀d,D (d+1) c2=true)->cc c2 y/\cc y c2:=λe=>⟨(λid f=>by rw [vi (e 0)] at f;cases f),(λid _ f=>by rw [vi (e 0)] at f;cases f)⟩;have bG: ∀dZ eg d,D (d+1) (.str dZ eg)=true:=λ_ _ _=>rfl;have cO:=ck.aI;have cN:=cj.aI;obtain ⟨dQ,de,f,gp,fh,dw,Q⟩:=Ey 47 al v cE [.str bo bt,aB,af,b4,T,L,H,bk,.str bn br,bj,cm,.str bp bu,.str bq bw] aO A.tidy A.up (λy c3=>by
   simp only [b2,dG,or_false] at c3;rcases c3 with rfl|rfl|rfl|rfl|rfl|rfl|rfl|rfl|rfl|rfl|rfl|rfl|rfl
   . exact bB rfl (bG _ _)
   . grind
   . grind
   . grind
   . grind
   . grind
   . grind
   . exact bB ck.J cO
   . exact bB rfl (bG _ _)
   . exact bB cj.J cN
   . grind
   . exact bB rfl (bG _ _)
   . exact bB rfl (bG _ _)) (by
   have e5:=a7 af ai;have e6:=a7 T ai;have e7:=a7 L ai;have e8:=a7 H ai;have e9:=bm T ai;have fa:=bm L ai;have fb:=bm H ai;have fc:=c0 L ai;have fe:=c0 H ai;have ff:=dF H ai;simp only [hq,b2,dG,or_false,forall_eq_or_imp,forall_eq,List.Pairwise.nil,and_true];simp only [(bD (bG _ _)).1,(bD (bG _ _)).2,(bD cO).1,(bD cO).2,(bD cN).1,(bD cN).2,true_and,and_true];exact ⟨⟨e5,eh.symm,e6,e7,e8,en.symm⟩,⟨ei.symm,e9,fa,fb,eo.symm⟩,⟨ej,ek,el,ep.symm⟩,⟨fc,fe,er.symm⟩,⟨ff,et.symm⟩,eu.symm,ai⟩)
  match dQ,dw with
  | [b7,ao,ar,X,aw,ax,ay,cb,cd,cf,b8,b9,ca],_=>
  have e1:=Q 0 _ _ rfl rfl;have cV:=Q 1 _ _ rfl rfl;have cW:=Q 2 _ _ rfl rfl;have cX:=Q 3 _ _ rfl rfl;have cY:=Q 4 _ _ rfl rfl;have e2:=Q 5 _ _ rfl rfl;have fO:=Q 6 _ _ rfl rfl;have fP:=Q 7 _ _ rfl rfl;have fQ:=Q 8 _ _ rfl rfl;have fS:=Q 9 _ _ rfl rfl;have fL:=Q 10 _ _ rfl rfl;have fM:=Q 11 _ _ rfl rfl;have fN:=Q 12 _ _ rfl rfl;have ds: ∀bI∈ [b7,ao,ar,X,aw,ax,ay,cb,cd,cf,b8,b9,ca],J bI=true/\D 18 bI=true:=λbI bd=>by
   simp only [b2,dG,or_false] at bd;rcases bd with rfl|rfl|rfl|rfl|rfl|rfl|rfl|rfl|rfl|rfl|rfl|rfl|rfl
   . grind
   . grind
   . grind
   . grind
   . grind
   . grind
   . grind
   . grind
   . grind
   . grind
   all_goals grind
  have eQ:aZ bR (.av [.agg [.str bo bt,aB,af,b4,T,L,H,bk,.str bn br,bj,cm,.str bp bu,.str bq bw],.int .i64 0]) aO=some (.av [.agg [b7,ao,ar,X,aw,ax,ay,cb,cd,cf,b8,b9,ca],.int .i64 0],de):=by refine Yz ?_;simp only [cD,Yu f,Go.aj.wC]
  refine .inl ⟨_,⟨b7,ao,ar,X,aw,ax,ay,cb,cd,cf,b8,b9,ca,0,rfl,ds,λ_=>⟨eG,cV.2 _ _ _ al dK,cW.2 _ _ _ al dM,?_,cY.2 _ _ _ al dO,e2.2 _ _ _ al dP⟩⟩,_,_,de,rfl,eQ,gV bC fh ?_⟩
  . show F X (rop.map il++oN rop);rw [eD];exact cX.2 _ _ _ al dN
  . refine fR _ 20 20 _ (aT _) ?_;show ([b7,ao,ar,X,aw,ax,ay,cb,cd,cf,b8,b9,ca].all (D 18)&&_)=true;rw [ba.2 λbI bd=>(ds bI bd).2];rfl
 simp -implicitDefEqProofs only [go_sem,hF,dK.ok,dM.ok,dN.ok,dO.ok,dP.ok,fi.ok,A.ok,ck.J,cj.J];omega
end
def u6 (a b c d:Nat):Int:=if js a b c d then -1 else if (a==c&&b==d) then 0 else 1
def aaD (E:Env) (t a b c d):b4 E .gtr t (.str a b) (.str c d)=some (.bool (!(js a b c d||(a==c&&b==d)))):=by simp [b4,mn]
def abx:d G R 298 (λ_:Nat×Nat=>True) (λp=> [.str p.1 p.2]) (λ_=> .bool false):=by
 refine d.run (m:=5) rfl rfl rfl rfl (λ_=>rfl) (λ_ _=>rfl) rfl rfl 0 λi j g h a _ f c=> ?_;have b:(a.1==a.1&&a.2==a.2)=true:=ai;simp only [go_sem,b];exact e.mk rfl c (U.refl _)
def MS:d G R 235 (λ_:Nat×Nat×Nat×Nat=>True) (λp=> [.str p.1 p.2.1,.str p.2.2.1 p.2.2.2]) (λp=> .int .i64 (u6 p.1 p.2.1 p.2.2.1 p.2.2.2)):=by
 obtain ⟨k,g⟩:=abx;refine d.run (m:=18) rfl rfl rfl rfl (λ_=>rfl) (λ_ _=>rfl) rfl rfl k λn q h j s _ c b=> ?_;have a:=λl o r=>g n q h j (l,o) trivial c r b;simp only at a;simp only [go_sem,a]
 iterate 2 all_goals try (refine e.aE ?_ ?_<;>intro f<;>try simp only [go_sem,f,aaD])
 all_goals refine e.i b (U.refl _) ?_
 all_goals unfold u6
 all_goals simp [*]
def cz:Nat->Nat×Nat
 |0=>(1,75)
 |1=>(1,86)
 |i+2=>(2,88+(48+(i+1))<<<8)
def Qj: ∀a<10,∀b<10,u6 (cz a).1 (cz a).2 (cz b).1 (cz b).2=if a<b then -1 else if b<a then 1 else 0:=by decide+kernel
def WQ: ∀a<10,∀b<10,cz a=cz b->a=b:=by decide+kernel
abbrev Sub:=List (Nat×List aa)
def cg (p:Nat×List aa):List aa:= .str (cz p.1).1 (cz p.1).2::p.2
structure c7 (u:Sub):Prop where
  st:u.Pairwise (·.1< ·.1)
  lt: ∀p∈u,p.1<10
  i0: ∀p∈u,aN p.2
def c7.len {u} (a:c7 u):u.length<=10:=by
 have i: ∀(b:Nat) (u:Sub),u.Pairwise (·.1< ·.1)->(∀c∈u,b<=c.1/\c.1<10)->u.length+b<=10\/u= []:=by
  intro b u
  induction u generalizing b with
  |nil=>simp
  | cons e m h=>
    intro d g;obtain ⟨j,f⟩:=hq.1 d;obtain ⟨k,l⟩:=g e (dF ..);refine .inl ?_;rcases h (e.1+1) f ah with a|rfl
    all_goals grind
 rcases i 0 u a.st λc d=>⟨ai,a.lt c d⟩ with a|rfl
 . omega
 . simp
def wy {p:Nat×List aa} (b:aN p.2):(cg p).length=7/\ ∀v∈cg p,J v=true/\D 20 v=true:=by
 have:=b.row;refine ⟨by simp [cg,this.1],λv a=> ?_⟩;rcases b2.1 a with rfl|a
 . exact ⟨rfl,rfl⟩
 grind
def gl (u:Sub) (a:Nat):Nat:=(u.filter λb=>decide (b.1<a)).length
def Ev {u:Sub} {a i:Nat} (g:i<=u.length) (e: ∀j p,j<i->u[j]? =some p->p.1<a) (f: ∀j p,i<=j->u[j]? =some p->a<=p.1):gl u a=i:=by
 unfold gl;have c:u=u.take i++u.drop i:=ai;rw [c,List.filter_append,CV.2,yJ.2]
 . grind
 . intro p b;obtain ⟨j,d⟩:=jo b
   grind
 . intro p b;obtain ⟨j,d⟩:=jo b
   grind
def c7.mono {u} (a:c7 u) {i j:Nat} {p q} (d:u[i]? =some p) (f:u[j]? =some q) (e:i<j):p.1<q.1:=by
 obtain ⟨b,rfl⟩:=e6.1 d;obtain ⟨c,rfl⟩:=e6.1 f;exact qj.1 a.st i j b c e
def dw (u:Sub) (a:Nat):Option (List aa):=(u.find? λb=>b.1==a).map (·.2)
def DT {u:Sub} (c:c7 u) {i a:Nat} {t} (b:u[i]? =some (a,t)):dw u a=some t:=by
 unfold dw;have:u.find? (λe=>e.1==a)=some (a,t):=by
  refine List.find?_eq_some_iff_getElem.2 ⟨ai,i,ah,ah,λf d=> ?_⟩;have:=c.mono (lj (by have:=(e6.1 b).1;omega)) b d
  grind
 grind
def DU {u:Sub} {a:Nat} (b: ∀p∈u,p.1≠a):dw u a=none:=by
 unfold dw
 grind
def Rz:bo λad n=> ∀(p:Nat×List aa) (a:Nat) H,aN p.2->p.1<10->a<10->Tidy H-> ∀tm,cx G (X G R ad n) (.fn (.func 241) [] []) [.agg (cg p),.str (cz a).1 (cz a).2] H tm= .ok (.int .i64 (if p.1<a then -1 else if a<p.1 then 1 else 0)) tm H:=by
 obtain ⟨o,g⟩:=MS;refine ⟨o+1,λad n q r p a H i j h e tm=> ?_⟩;obtain ⟨n,rfl⟩:=bY n;obtain ⟨b,B⟩:=p;have d:=λtm=>g ad n ab ab ((cz b).1,(cz b).2,(cz a).1,(cz a).2) trivial H tm e;simp only [Qj b j a h] at d;obtain ⟨y,z,s,t,u,v,C,A,x,w,f,-,-⟩:=i.ea;simp only at f;obtain ⟨rfl,l,k⟩:=f.c;simp only [eg,a6,fw,cg];refine jQ (aL.at (m:=7) (rs:= [.tmp 4]) rfl rfl rfl rfl rfl rfl rfl rfl ?_) tm;simp only [go_sem,l.J,k.J,d];exact ak.mk rfl rfl e (U.refl _)
def Qq (x:Nat) (c:x<1000) (H:af):jg G 3 260 (.int .i64 (x:Nat)) H=some (.int .u64 (x:Nat)):=by
 have a:aW G 3=some (.int .i64):=aq;have b:aW G 260=some (.int .u64):=aq;unfold jg;rw [a,b];simp only [pQ];rw [ab2 _ ab ab]
def Qr (x:Nat) (c:x<1000) (H:af):jg G 260 3 (.int .u64 (x:Nat)) H=some (.int .i64 (x:Nat)):=by
 have a:aW G 3=some (.int .i64):=aq;have b:aW G 260=some (.int .u64):=aq;unfold jg;rw [a,b];simp only [pQ];rw [wrap64 _ ab ab]
def half (x:Nat):b4 G .shr 260 (.int .u64 (x:Nat)) (.int .u64 1)=some (.int .u64 ((x/2:Nat):Int)):=by
 rw [OO _ _ _ _ _ _ al];have:(x:Int).fdiv (2^min (Int.toNat 1) IntKind.u64.bits)=((x/2:Nat):Int):=by
  show (x:Int).fdiv 2=_
  grind
 grind
def h2 (u:Sub) (a:Nat):Bool:=(dw u a).isSome
def Jq : bo λad n=> ∀(u:Sub) (x:aa) (a:Nat) H,c7 u->F x (u.map cg)->a<10->Tidy H-> ∀tm,az G (X G R ad n) 163 [x,.str (cz a).1 (cz a).2] H tm= .ok (.av [.int .i64 (gl u a:Nat),.bool (h2 u a)]) tm H:=by
 obtain ⟨ag,E⟩:=Rz;refine ⟨ag+40,λad n aw aC u x a H f i I s=> ?_⟩;obtain ⟨n,rfl⟩: ∃aj,n=aj+1+1:=⟨n-2,ab⟩;have aF:=f.len;have V:(u.map cg).length=u.length:=ai;have L:=i.len;rw [V] at L;have af: ∀tm,az G (X G R ad (n+1)) 240 [x,.str (cz a).1 (cz a).2,.fn (.func 241) [] []] H tm= .ok (.av [.int .i64 (gl u a:Nat),.bool (h2 u a)]) tm H:=by
  refine jQ (aL.at (m:=46) rfl rfl rfl rfl rfl (by simp only [aO,i.aD];rfl) rfl rfl ?_);simp only [go_sem,i.O,L];generalize ao:a1 _ _ _ _ _ _ _ _ _ _=N;revert N;refine rP _ _ _ _ (λv tm M=> ∃c d:Nat,(H=M/\c<=d/\d<=u.length/\v+(d-c)<=u.length/\(∀e b,e<c->u[e]? =some b->b.1<a)/\(∀e b,d<=e->u[e]? =some b->a<=b.1))/\aM 49 [(0,x),(1,.str (cz a).1 (cz a).2),(2,.fn (.func 241) [] []),(8,.int .i64 (u.length:Nat)),(9,.int .i64 (c:Nat)),(10,.int .i64 (d:Nat))] tm) u.length ab ⟨0,u.length,ah,by simp only [go_sem];rfl⟩ ?_;rintro v tm _ ar ⟨c,d,⟨rfl,ax,J,au,K,A⟩,hF⟩;by_cases aA:c<d
  . have w:decide ((c:Int)<(d:Int))=true:=ah;have al:IntKind.i64.wrap ((c:Int)+(d:Int))=((c+d:Nat):Int):=by rw [wrap64 _ ab ab];rfl
    have P:=λH=>Qq (c+d) ab H;have Q:=λH=>Qr ((c+d)/2) ab H;have S:=half (c+d);have Y:c<=(c+d)/2:=ab;have aB:(c+d)/2<d:=ab;generalize (c+d)/2=j at*;obtain ⟨b,h⟩: ∃b,u[j]? =some b:=⟨u[j]'ab,ai⟩;have l:=aV h;have r:=wy (f.i0 b l);have C:(u.map cg)[j]? =some (cg b):=ah;have y:=λtm=>E ad n ab ab b a H (f.i0 b l) (f.lt b l) I s tm;have an:IntKind.i64.wrap ((j:Int)+1)=((j+1:Nat):Int):=by rw [wrap64 _ ab ab];rfl
    have z:=i.a_ (k:=7) C r.1;have B:(cg b).take 7=cg b:=ah;simp only [go_sem,hF,w,al,P,S,Q,i.O,z,r.1,B,y];have p:decide ((if b.1<a then (-1:Int) else if a<b.1 then 1 else 0)<0)=decide (b.1<a):=by grind
    rw [p];refine dy.aE ?_ ?_<;>intro t<;>simp only [go_sem,hF,t,an]
    . have q:b.1<a:=ah;refine dy.next (by show v<u.length;omega) ⟨j+1,d,⟨rfl,ab,J,ab,λe D T o=> ?_,A⟩,ay⟩;rcases qk e j with g|g
      . exact Nat.lt_trans (f.mono o h g) q
      grind
    . have q: ¬b.1<a:=ah;refine dy.next (by show v<u.length;omega) ⟨c,j,⟨rfl,Y,ab,ab,K,λe D T o=> ?_⟩,ay⟩;rcases qk j e with g|g
      . have:=f.mono h o g;omega
      grind
  . have w :decide ((c:Int)<(d:Int))=false:=ah;obtain rfl:c=d:=ab;have Z:=Ev J K A;simp only [go_sem,hF,w];refine dy.stop rfl ?_;rw [Z];simp only [go_sem,hF];refine ak.aE ?_ ?_<;>intro t
    . have W:c<u.length:=ah;obtain ⟨b,h⟩: ∃b,u[c]? =some b:=⟨u[c]'ab,ai⟩;have l:=aV h;have r:=wy (f.i0 b l);have C:(u.map cg)[c]? =some (cg b):=ah;have y:=λtm=>E ad n ab ab b a H (f.i0 b l) (f.lt b l) I s tm;have z:=i.a_ (k:=7) C r.1;have B:(cg b).take 7=cg b:=ah;have aq:=A c b (aT _) h;have p:((if b.1<a then (-1:Int) else if a<b.1 then 1 else 0)==0)=h2 u a:=by
       unfold h2;rw [if_neg ab];by_cases q:a<b.1
       . rw [if_pos q,DU]
         . rfl
         . intro D o ae;obtain ⟨e,d⟩:=jo o;rcases vV e c with g|g|g
           . grind
           . grind
           . have:=f.mono h d g;omega
       . rw [if_neg q];have:b=(a,b.2):=by grind
         rw [this] at h;rw [DT f h];rfl
      simp only [go_sem,hF,t,i.O,z,r.1,B,y,p];exact ak.mk rfl rfl s (U.refl _)
    . have W: ¬c<u.length:=ah;have p:h2 u a=false:=by
       unfold h2;rw [DU]
       . rfl
       . intro D o ae;obtain ⟨e,d⟩:=jo o
         grind
      simp only [go_sem,hF,t];exact ak.mk (by rw [p]) rfl s (U.refl _)
 refine jQ (aL.at (m:=9) rfl rfl rfl rfl rfl (by simp only [aO,i.aD];rfl) rfl rfl ?_);simp only [go_sem,i.O,af];exact ak.mk rfl rfl s (U.refl _)
def SG {u:Sub} (d:c7 u) {a:Nat} (l:h2 u a=true): ∃t,dw u a=some t/\u[gl u a]? =some (a,t):=by
 unfold h2 dw at l
 cases g:u.find? λf=>f.1==a with
 |none=>grind
 | some f=>
   obtain ⟨n,t⟩:=f;have b:=List.find?_some g;simp only [beq_iff_eq] at b;subst b;obtain ⟨j,c⟩:=jo (yS g);refine ⟨t,DT d c,?_⟩;rw [Ev (i:=j) ah (λk m h e=>d.mono e c h) (λk m h e=> ?_)]
   . exact c
   . rcases qk j k with b|b
     . have:=d.mono c e b;omega
     grind
def eb:List aa:= [.int .i64 0,.int .i64 0,.str 0 0,.str 0 0,.V,.V]
theorem DD:bo λad n=> ∀(u:Sub) (x:aa) (a:Nat) H,c7 u->F x (u.map cg)->a<10->Tidy H-> ∀tm,az G (X G R ad n) 85 [x,.str (cz a).1 (cz a).2] H tm= .ok (.av [.agg ((dw u a).getD eb),.bool (h2 u a)]) tm H:=by
 obtain ⟨B,o⟩:=Jq;refine ⟨B+1,λad n M N u x a H e b p f=> ?_⟩;obtain ⟨n,rfl⟩:=bY n;have c:=λtm=>o ad n ab ab u x a H e b p f tm;refine jQ (aL.at (m:=19) rfl rfl rfl rfl rfl (by simp only [aO,b.aD];rfl) rfl rfl ?_)
 cases d:h2 u a with
 | false=>
   rw [d] at c;have:dw u a=none:=by unfold h2 at d;simp_all
   rw [this];simp only [go_sem,b.O,c];exact ak.mk rfl rfl f (U.refl _)
 | true=>
   rw [d] at c;obtain ⟨K,s,q⟩:=SG e d;rw [s];have h:=aV q;have r:=wy (e.i0 _ h);have v:(u.map cg)[gl u a]? =some (cg (a,K)):=ah;have g:=b.a_ (k:=7) v r.1;have i:=e.i0 _ h;simp only at i;obtain ⟨C,E,w,y,z,A,L,I,Q,P,rfl,l,j⟩:=i.t;simp only [cg] at g;simp only [go_sem,b.O,c,g,l.J,j.J];refine ak.mk rfl ?_ f (U.refl _);show ([aa.int .i64 C,.int .i64 E,.str w y,.str z A,L,I].all (D 18)&&_)=true;simp only [aO,l.aI 17,j.aI 17];rfl
def Q9 {E:Env} {R:bU} {f m ad n:Nat} {args:List aa} {H H':af} {v:aa} {fn:Func} {c:Code} {rs:List ResultVar} (g:E.cL f=none) (d:E.fns f=some fn) (b:fn.body=some c) (h:fn.results=rs.toArray) (e:fn.ntmps=args.length+m)
    (a:fin E rs (evalCode E (X E R ad n) R ad f c (args++List.replicate m (.av [])) H [])= .ret v H'):X E R ad (n+1) f args H= .ret v H':=by
 rw [lN E R ad n f m args H fn c g d b e,mA _ _ _ rs h _ ah,a]
theorem aaT (t):n l t=n G t:=rfl
def Wi (f d):l.loc f d=hv d (b f):=J1 f d
def gj (u:Sub) (a:Nat) (t:List aa):Sub:=u.take (gl u a)++(a,t)::u.drop (gl u a)
def c7.ins {u} (f:c7 u) {a:Nat} {t} (o:a<10) (w:aN t) (r:h2 u a=false):c7 (gj u a t):=by
 have E: ∀b∈u,b.1≠a:=λb e n=>by
  obtain ⟨c,l⟩:=jo e;have:dw u a=some b.2:=DT f (i:=c) ah;unfold h2 at r
  grind
 have s: ∃c,gl u a=c/\c<=u.length/\(∀d b,d<c->u[d]? =some b->b.1<a)/\ ∀d b,c<=d->u[d]? =some b->a<b.1:=by
  have p:gl u a<=u.length:=C1 ..
  refine ⟨_,rfl,p,?_⟩;have A: ∃c,c<=u.length/\(∀d b,d<c->u[d]? =some b->b.1<a)/\ ∀d b,c<=d->u[d]? =some b->a<b.1:=by
   by_cases x: ∃(c:Nat) (b:Nat×List aa),u[c]? =some b/\a<b.1
   . obtain ⟨c,b,l,e⟩:=x
     induction c using Nat.strongRecOn generalizing b with
     | _ c z=>
       by_cases y: ∃(d:Nat) (g:Nat×List aa),d<c/\u[d]? =some g/\a<g.1
       . obtain ⟨d,g,j,k,v⟩:=y;exact z d j g k v
       . refine ⟨c,ah,λd g j k=> ?_,λd g j k=> ?_⟩
         . grind
         . rcases qk c d with h|h
           . have:=f.mono l k h;omega
           grind
   . refine ⟨u.length,ai,ah,ah⟩
     all_goals grind
  obtain ⟨c,h,m,B⟩:=A;have n:=Ev h m ah
  grind
 obtain ⟨c,l,C,h,m⟩:=s;unfold gj;rw [l];have D: ∀b∈u.take c,b.1<a:=λb e=>by
  obtain ⟨d,j⟩:=jo e
  grind
 have q: ∀b∈u.drop c,a<b.1:=λb e=>by
  obtain ⟨d,j⟩:=jo e
  grind
 refine ⟨rH.2 ⟨f.st.sublist ah,hq.2 ⟨q,f.st.sublist ah⟩,λb e g k=> ?_⟩,λb e=> ?_,λb e=> ?_⟩
 . grind
 . rcases cr.1 e with e|e
   . grind
   . rcases b2.1 e with rfl|e
     . exact o
     . exact f.lt b ah
 . rcases cr.1 e with e|e
   . exact f.i0 b ah
   . rcases b2.1 e with rfl|e
     . exact w
     . exact f.i0 b ah
def iA (x:aa) (u:Sub):Prop:=(x= .V/\u= [])\/(u≠ []/\ ∃a,x= .A (u.map cg) a)
def iA.A {x u} (b:iA x u):F x (u.map cg):=by
 rcases b with ⟨rfl,rfl⟩|⟨-,a,rfl⟩
 . exact .inl ⟨rfl,rfl⟩
 . exact .inr ⟨a,rfl⟩
def wW {u} (a:c7 u):Rows 7 (u.map cg):=λe c=>by
 obtain ⟨d,b,rfl⟩:=cd.1 c;exact wy (a.i0 d b)
def abJ:aW l 102=aW l 103:=aq
def UN {d H:af} {v:aa} {rows:Y} {r:List aa} (a:P 210 7 d H v rows) (F:r.length=7/\ ∀v∈r,J v=true/\D 20 v=true) (I:rows.length<1000):
    ∃c H',P 210 7 d H' c (rows++ [r])/\iX d.n v c H H'/\mZ [v,.int .i64 (rows.length:Nat),.A [r] true] H= .ret c H':=by
 have h:Rows 7 [r]:=λK C=>by rw [bs.1 C];exact F
 obtain ⟨c,H',w,e,z⟩:=a.app (k:=7) (E:=l) (t:=103) (b:=112) (i:=t210) aq aq rfl rfl al al (x:= .A [r] true) (aQ:= [r]) (dR (.inr ⟨_,rfl⟩) h.len) h ah;have y:cI l 103 102 v (.A [r] true) H=some (c,H'):=by rw [Oj abJ];exact w
 refine ⟨c,H',e,z,?_⟩;have u:vF [v,.int .i64 (rows.length:Nat),.A [r] true] H= .fail:=by
  rcases a.ex with ⟨rfl,rfl⟩|⟨f,-⟩
  . rfl
  . obtain ⟨id,g,s,rfl,-⟩:=a.ref f;obtain ⟨j,B⟩: ∃j,rows.length=j+1:=⟨rows.length-1,by have:rows.length≠0:=ah;omega⟩;rw [B];rfl
 unfold mZ;rw [u];simp only;refine Q9 (m:=92) (rs:= [.tmp 6]) rfl rfl rfl rfl rfl ?_;obtain ⟨o,G⟩: ∃o,fG 7 v (some (.int .i64 (rows.length:Nat))) none none=some o:=by
  rcases a.ex with ⟨rfl,rfl⟩|⟨f,-⟩
  . exact ⟨_,rfl⟩
  . obtain ⟨id,g,s,rfl,-⟩:=a.ref f;have:0<rows.length:=ah;refine ⟨.A [] false,?_⟩;show l4 id g 0 7 rows.length false (some (.int .i64 (rows.length:Nat))) none none=_;unfold l4;show (if rows.length<=rows.length/\rows.length<=rows.length/\(false=true->rows.length=rows.length) then _ else _)=_
    grind
 have p:(((1:Nat):Int)==0)=false:=rfl;have q:((rows.length:Int)==(rows.length:Int))=true:=ai;simp only [go_sem,aaT,Wi,a.O,a.len,G,kL,y,bH,e.O,p,q,e.nl,dX]
def UM {c H:af} {v:aa} {rows:Y} {r:List aa} (a:P 210 7 c H v rows) (u:rows≠ []) (I:r.length=7/\ ∀v∈r,J v=true/\D 20 v=true) (G:rows.length<1000):
    ∃H',Tidy H'/\U c H'/\H'.n=H.n/\mZ [v,.int .i64 0,.A [r] true] H= .ret (.A (r::rows) false) (H'.push .gone):=by
 obtain ⟨id,b,d,rfl,F,e,C,E,-⟩:=a.ref u;have t:=gW e;have h:Nat.beq (ev (b+1)) (ev b)=true:=by rw [lU];unfold ev;omega
 refine ⟨H.set id .gone,a.tidy.set _ rfl,a.up.set ab _,mS _ _ _,?_⟩;have g:Nat.beq rows.flatten.length (rows.length*7)=true:=by rw [jP 7 _ a.rw.len];simp
 have i:Nat.blt 0 rows.length=true:=h_ ah;have j:Nat.ble rows.length 1000=true:=h_ ab;have k:Nat.beq r.length 7=true:=de;have l:rows.flatten.all J=true:=a.rw.ok;have m:r.all J=true:=ah;have o:rows.flatten.all (D 20)=true:=ba.2 λv x=>a.rw.aI v x;have p:r.all (D 20)=true:=ah;have q:Nat.ble d b=true:=de;have s:chunk 7 (rows.length+1) (r++rows.flatten)=r::rows:=by
  have:=k3 7 (r::rows) (λy w=>(b2.1 w).elim ah (a.rw.len y))
  grind
 have f:vF [.ref id b 0 7 rows.length false,.int .i64 0,.A [r] true] H= .ret (.A (r::rows) false) ((H.push .gone).set id .gone):=by show (match H.get id with|some (.cells B d 0 z)=>_|_=>_)=_;rw [e];simp only [g,i,j,k,l,m,o,p,q,h,show Nat.beq b b=true by simp,tu,rf,c8,s]
 unfold mZ;rw [f,YB _ _ _ t]
def O7 {r:List aa} (a:r.length=7/\ ∀v∈r,J v=true/\D 20 v=true) (H:af):cT G 102 1 [(0,.agg r)] H=some (.A [r] true,H):=
 mo (E:=G) (t:=102) (el:=210) (k:=7) (H:=H) (z:= .agg (.str 0 0::eb)) aq aq aq al rfl al (.agg r) ⟨a.1,ba.2 λv b=>(a.2 v b).1,ba.2 λv b=>(a.2 v b).2⟩
def MV:aW G 103=some (.slice 210):=aq
def H6:G.T 210=some t210:=aq
def OJ (rows c):b4 G .eql 103 (.A rows c) .V=some (.bool false):=aq
@[go_sem] theorem acT (H):cT G 103 0 [] H=some (.A [] true,H):=aq
def Ul {ad n:Nat} {x:aa} {u:Sub} {H:af} (b:c7 u) (l:iA x u) (i:Tidy H):
    ∃v H',P 210 7 H H' v (u.map cg)/\ ∀tm,az G (X G R ad (n+1)) 303 [x] H tm= .ok v tm H':=by
 have B:=b.len;refine bn.at (m:=7) rfl rfl rfl rfl rfl (by simp only [aO,l.A.aD];rfl) rfl rfl ?_;rcases l with ⟨rfl,rfl⟩|⟨z,e,rfl⟩
 . simp only [go_sem];refine bn.mk ?_;rw [ft ab];exact P.new _ _ i
 . have p:=OJ (u.map cg) e;obtain ⟨j,H',a,g,k⟩:=bd.app (c:=0) (n0:=H.n) (H:=H) (rows:= []) (aQ:=u.map cg) (v:= .A [] true) (x:= .A (u.map cg) e) MV H6 rfl rfl al al (.inr (.inl rfl)) i ab (λy f=>by cases f) (dR (H:=H) (.inr ⟨e,rfl⟩) (wW b).len) (wW b) (by have r:(([]:Y).length+(u.map cg).length)<=1048560:=ah;have s:t210.bytes+1<=200:=al;exact eT (kF r s) (by unfold b7;omega)) ah;rw [gH,a6] at g;have g:bd H.n 210 7 (u.map cg).length H' (u.map cg) j:=g;have t:u.map cg≠ []:=ah;have h:P 210 7 H H' j (u.map cg):=⟨g,wW b,k.tidy,k.up H ab (U.refl _),.inr ⟨t,by
    have o:hx G 210 7 (.slice 210) (.A (u.map cg) e) H=some ((u.map cg).flatten,(u.map cg).length):=dR (H:=H) (.inr ⟨e,rfl⟩) (wW b).len;unfold cI at a;simp only [MV,H6,show t210.size=7 from rfl,o] at a;rw [if_pos al] at a
    cases w:u.map cg with
    |nil=>grind
    | cons y C=>
      have f:=wW b;rw [w] at a f;simp only [cl,f.ok,if_true,bu,dn,c8] at a;split at a
      . simp only [N,bz] at a;rw [<-a.1];exact λq=>by cases q
      grind⟩⟩
   simp only [go_sem,p,a,bH,h.O,h.nl,dX,if_true];refine bn.mk ?_;exact h.gc i (U.refl _) (v:=j) (d:=19) id
def U6:bo λad n=> ∀(u:Sub) (x:aa) (a:Nat) (t:List aa) H,c7 u->iA x u->a<10->aN t->h2 u a=false->(gl u a=u.length\/gl u a=0)->Tidy H->
    ∃w,iA w (gj u a t)/\ ∀tm,az G (X G R ad n) 239 [x,.str (cz a).1 (cz a).2,.agg t] H tm= .ok w tm H:=by
 obtain ⟨an,T⟩:=Jq;refine ⟨an+1010,λad n aA aB u x a t H y l V N Y aC z=> ?_⟩;obtain ⟨n,rfl⟩: ∃ar,n=ar+1+1:=⟨n-2,ab⟩;have aE:=y.len;have h:=λtm=>T ad (n+1) ab ab u x a H y l.A V z tm;rw [Y] at h;obtain ⟨P,o,i,S⟩:=Ul (ad:=ad) (n:=n) y l z;have k:=wy (p:=(a,t)) N;have K:=O7 k o;have Z:(u.map cg).length=u.length:=ai;have ao: ∃c b e,(Tidy b/\U H b/\aZ bR c b=some (.A ((gj u a t).map cg) false,e)/\U H e/\(∀t,O t c=c)/\aD c=true)/\ ∀tm,az G (X G R ad (n+1)) 302 [P,.int .i64 (gl u a:Nat),.A [cg (a,t)] true] o tm= .ok c tm b:=by
  have v:([P,.int .i64 (gl u a:Nat),.A [cg (a,t)] true]:List aa).all aD=true:=by simp only [aO,i.nl];rfl
  by_cases ae:gl u a=u.length
  . obtain ⟨c,b,I,ay,d⟩:=UN i k ab;have q:(gj u a t).map cg=u.map cg++ [cg (a,t)]:=by unfold gj;grind
    rw [Z,<-ae] at d;have j:=G3 (E:=G) (R:=R) (f:=302) (ad:=ad) (n:=n) (p:=mZ) rfl rfl rfl v d;have g:=I.cut (w:=c) i.up.n λL id h=>by obtain ⟨aJ,ax,aw,Q,-⟩:=I.ref ai;rw [Q] at h L;cases h;exact er L
    obtain ⟨e,r,aS,D,-⟩:=g.aZ 49 al al;refine ⟨c,_,e,⟨g.tidy,g.up,?_,D H ab g.up,g.O,g.nl⟩,j⟩;rw [q];have:dk (u.map cg++ [cg (a,t)])= .A (u.map cg++ [cg (a,t)]) false:=by cases u.map cg<;>rfl
    rw [<-this];exact r
  . have M:gl u a=0:=ab;have s:u.map cg≠ []:=ah;obtain ⟨b,B,C,au,d⟩:=UM i s k ab;have q:(gj u a t).map cg=cg (a,t)::u.map cg:=by unfold gj;grind
    rw [M];rw [M] at v;have j:=G3 (E:=G) (R:=R) (f:=302) (ad:=ad) (n:=n) (p:=mZ) rfl rfl rfl v d;have W:Go.aj.gc o.n (.A (cg (a,t)::u.map cg) false) (b.push .gone)=b:=by rw [<-au];exact gV B ((U.refl _).push _) rfl
    rw [W] at j;refine ⟨_,b,b,⟨B,C,?_,C,λ_=>rfl,rfl⟩,j⟩;rw [q];rfl
 obtain ⟨c,b,e,⟨B,C,r,D,av,aq⟩,d⟩:=ao;have s:gj u a t≠ []:=by unfold gj;simp
 refine hg (aL.at (m:=20) rfl rfl rfl rfl rfl (by simp only [aO,l.A.aD];rfl) rfl rfl ?_);have af:=N;obtain ⟨aP,aQ,aF,aG,aH,aI,aT,aR,aM,aK,rfl,ak,ag⟩:=af.t;have F:=k7 k;simp only [cg] at K d F;simp only [go_sem,ak.J,ag.J,l.A.O,h,S,i.O,K,bH,d,av,aq,dX,F];exact .inl ⟨_,.inr ⟨s,false,rfl⟩,_,_,e,rfl,r,gV z D rfl⟩
def WR: ∀a<10,((cz a).1==1&&(cz a).2==95)=false:=by decide+kernel
def c_ (a c d:Nat):List aa:=cn (cz a).1 (cz a).2 c d
def oq (a:Nat) (u:Sub):Prop:=h2 u a=false/\(gl u a=u.length\/gl u a=0)
def fx (kN jv rop j3:Y) (a c d:Nat) (t:List aa) (u:Sub):Option Sub:=if ja kN jv (eh kN rop j3 t).1 (eh kN rop j3 t).2 c d then some (gj u a t) else none
section
variable {ax:aa} {s:List aa} {kN jv rop j3 aJ:Y} (ag:dO ax s kN jv rop j3 aJ)
include ag
theorem Vz {t:List aa} (z:aN t):bo λad n=> ∀(u:Sub) (x:aa) (a c d:Nat) H,c7 u->iA x u->a<10->oq a u->Tidy H->
  ∃v b,((fx kN jv rop j3 a c d t u=none/\v= .V/\b=false)\/(fx kN jv rop j3 a c d t u=some (gj u a t)/\iA v (gj u a t)/\b=true))/\ ∀tm,az G (X G R ad n) 161 [.agg [ax],x,.agg (c_ a c d),.agg t] H tm= .ok (.av [v,.bool b]) tm H:=by
 obtain ⟨aE,r⟩:=v_ ag z;obtain ⟨aF,w⟩:=Af ag;obtain ⟨aG,aj⟩:=DD;obtain ⟨aH,al⟩:=U6;obtain ⟨af,aS,aY,aZ,a1,a6⟩:=ag.val;refine ⟨aE+aF+aG+aH+1,λad n aU aV u x a c d H Y o y k g=> ?_⟩;obtain ⟨n,rfl⟩:=bY n;have S:=λtm=>r ad n ab ab H tm g;have T:=λaK aP tm=>w ad n ab ab (aK,aP,c,d) trivial H tm g;have j:=λtm=>aj ad n ab ab u x a H Y o.A y g tm;rw [k.1] at j;obtain ⟨h,l,ai⟩:=al ad n ab ab u x a t H Y o y z k.1 k.2 g;have au:=WR a y;have ar:dw u a=none:=by have:=k.1;unfold h2 at this;simpa using this
 rw [ar] at j;have aw:ja kN jv (eh kN rop j3 t).1 (eh kN rop j3 t).2 c d=true->fx kN jv rop j3 a c d t u=some (gj u a t):=λag=>if_pos ag;have ay:ja kN jv (eh kN rop j3 t).1 (eh kN rop j3 t).2 c d=false->fx kN jv rop j3 a c d t u=none:=λag=>if_neg (by rw [ag];decide);generalize fx kN jv rop j3 a c d t u=Z at*;have: ∃v,(∃h b,v= .av [h,.bool b]/\((Z=none/\h= .V/\b=false)\/(Z=some (gj u a t)/\iA h (gj u a t)/\b=true)))/\ ∀tm,az G (X G R ad (n+1)) 161 [.agg [ax],x,.agg (c_ a c d),.agg t] H tm= .ok v tm H:=by
  have aA:=z;obtain ⟨I,K,B,C,E,F,M,L,aX,aW,rfl,aC,aB⟩:=aA.t;refine hg (aL.at (m:=46) rfl rfl rfl rfl rfl (by simp only [aO,o.A.aD];rfl) rfl rfl ?_);generalize eh kN rop j3 [.int .i64 I,.int .i64 K,.str B C,.str E F,M,L]=p at*;simp only [c_,cn,eb,Option.getD_none] at j|-;have aT:=l.A.aD;have i: ∀ {P Q:Code} {ae:List aa} {q},an (λtm N=>H=N/\aM 50 [(1,x),(4,.W 0 [ax]),(6,.W 0 [.int .i64 6,.int .i64 0,.str (cz a).1 (cz a).2,.str c d,.V,.V]),(7,.W 0 [.int .i64 I,.int .i64 K,.str B C,.str E F,M,L]),(10,.av [])] tm) (λaQ=>ak q bQ H (fin G [.tmp 8,.tmp 9] aQ)) ⟨⟩ (evalCode G (X G R ad n) R ad 161 P ae H [])->(∀tm,aM 50 [(1,x),(4,.W 0 [ax]),(6,.W 0 [.int .i64 6,.int .i64 0,.str (cz a).1 (cz a).2,.str c d,.V,.V]),(7,.W 0 [.int .i64 I,.int .i64 K,.str B C,.str E F,M,L]),(10,.av [])] tm->ak q bQ H (fin G [.tmp 8,.tmp 9] (evalCode G (X G R ad n) R ad 161 Q tm H [])))->ak q bQ H (fin G [.tmp 8,.tmp 9] (evalCode G (X G R ad n) R ad 161 (.seq P Q) ae H [])):=λr w=>ak.bM _ r λtm N ao=>by obtain ⟨rfl,hF⟩:=ao;exact w tm hF
  refine i ?_ λtm hF=> ?_
  . simp -implicitDefEqProofs only [go_sem,aC.J,aB.J,aS];exact an.mk ⟨rfl,w0⟩
  refine i ?_ λaR e=> ?_
  . simp -implicitDefEqProofs only [go_sem,hF];exact an.mk ⟨rfl,dm⟩
  clear hF;have hF:=e;clear e;by_cases f:ja kN jv p.1 p.2 c d=true
  rotate_left
  . have f:ja kN jv p.1 p.2 c d=false:=by simpa using f
    simp -implicitDefEqProofs only [go_sem,hF,af,S,T,f];exact ak.mk ⟨_,_,rfl,.inl ⟨ay f,rfl,rfl⟩⟩ rfl g (U.refl _)
  refine i ?_ λtm e=> ?_
  . simp -implicitDefEqProofs only [go_sem,hF,af,S,T,f];exact an.mk ⟨rfl,dm⟩
  clear hF;have hF:=e;clear e;refine i ?_ λaR e=> ?_
  . simp -implicitDefEqProofs only [go_sem,hF,au];exact an.mk ⟨rfl,dm⟩
  clear hF;have hF:=e;clear e;simp -implicitDefEqProofs only [go_sem,hF,o.A.O,j,ai,l.A.O,aT];exact ak.mk ⟨_,_,rfl,.inr ⟨aw f,l,rfl⟩⟩ (by show (D 19 h&&_)=true;rw [l.A.aI 18];rfl) g (U.refl _)
 obtain ⟨_,⟨v,b,rfl,aq⟩,ah⟩:=this;exact ⟨v,b,aq,ah⟩
end
def VA {ad n:Nat} {a H:af} {v:aa} {rows:Y} (ag:P 103 1 a H v rows) (j:rows.length<=1):
    ∃H',(Tidy H'/\U a H'/\H'.n=H.n)/\ ∀tm,az G (X G R ad (n+1)) 162 [v] H tm= .ok (dk rows) tm H':=by
 obtain ⟨H',g,h,i,k,c,l⟩:=ag.r2 49 al al;refine ⟨H',⟨h,i a (aT _) ag.up,c⟩,?_⟩;have: ∃d b,(d=dk rows/\b=H')/\ ∀tm,az G (X G R ad (n+1)) 162 [v] H tm= .ok d tm b:=by refine dJ.at (m:=8) rfl rfl rfl rfl rfl (by simp only [aO,ag.nl];rfl) rfl rfl ?_;have e:decide ((rows.length:Int)>1000)=false:=da;simp -implicitDefEqProofs only [go_sem,ag.O,ag.len,e,ag.nl,dX];exact dJ.mk g ⟨rfl,ft (yW c)⟩
 obtain ⟨_,_,⟨rfl,rfl⟩,f⟩:=this;exact f
def ka (o:Option Sub) (v:aa):Prop:=match o with
 |some c=> ∃a b,iA a c/\v= .A [[a]] b
 |none=>v= .V
def Gl {w:aa} {r:Y} (a:F w r) (H:af):cT G 100 1 [(0,w)] H=some (.A [[w]] true,H):=by
 have:=mo (E:=G) (t:=100) (el:=103) (k:=1) (H:=H) (z:= .V) aq aq aq al rfl al w a.rk
 rwa [a.cells] at this
section
variable {ax:aa} {s:List aa} {kN jv rop j3 aJ:Y} (ag:dO ax s kN jv rop j3 aJ)
include ag
theorem Vj {t:List aa} (I:aN t):bo λad n=> ∀(u:Sub) (x:aa) (q:Bool) (a c d:Nat) H,c7 u->iA x u->a<10->oq a u->Tidy H->
  ∃v,ka (fx kN jv rop j3 a c d t u) v/\ ∀tm,az G (X G R ad n) 84 [.agg [ax],.A [[x]] q,.agg (c_ a c d),.agg t] H tm= .ok v tm H:=by
 obtain ⟨aH,h⟩:=Vz ag I;obtain ⟨bg,aU,bh,bj,bk,bl⟩:=ag.val;refine ⟨aH+10,λad n a7 a8 u x q a c d H av K Z ah w=> ?_⟩;obtain ⟨n,rfl⟩: ∃aM,n=aM+1+1:=⟨n-2,ab⟩;obtain ⟨g,aY,af,z⟩:=h ad (n+1) ab ab u x a c d H av K Z ah w;have ar:=I;obtain ⟨aK,aP,aC,aE,aF,aG,aW,M,bc,bb,rfl,aB,aA⟩:=ar.t;refine hg (aL.at (m:=50) rfl rfl rfl rfl rfl (by simp only [aO];rfl) rfl rfl ?_);generalize ba:fx kN jv rop j3 a c d [.int .i64 aK,.int .i64 aP,.str aC aE,.str aF aG,aW,M] u=L at*;simp only [c_,cn] at z|-;have Y:F (.A [[x]] q) [[x]]:= .inr ⟨_,rfl⟩;simp -implicitDefEqProofs only [go_sem,aB.J,aA.J,aU];have hF:=trivial;generalize aZ:a1 _ _ _ _ _ _ _ _ _ _=S;revert S;refine cv [4,6,7,32] (λs=> [(9,s.1)]) (λs=>s.2) (λo s=> ∃e,P 103 1 H s.2 s.1 e/\(o=0->e= []/\s.2=H)/\(1<=o->(L=none/\e= [])\/(∃y g,L=some y/\iA g y/\e= [[g]]))) 1 (.V,H) ⟨[],P.new _ _ w,λ_=>⟨rfl,rfl⟩,λag=>absurd ag al⟩ ?_ ?_
 . rintro o ⟨N,p⟩ tm a6 ⟨e,f,W,-⟩ hF;obtain rfl:o=0:=ab;obtain ⟨rfl,B⟩:=W rfl;simp only at B f hF|-;subst B;have ai:=Y.a_ (k:=1) (j:=0) (r:= [x]) rfl rfl;simp -implicitDefEqProofs only [go_sem,hF,ai,K.A.O,z];rcases af with ⟨rfl,rfl,rfl⟩|⟨aj,l,rfl⟩
   . simp -implicitDefEqProofs only [go_sem];exact au.next (N,p) rfl ⟨[],f,λag=>absurd ag al,λ_=> .inl ⟨rfl,rfl⟩⟩ dm
   . have ae:=Gl l.A p;have D:Rows 1 [[g]]:=λM an=>by rw [bs.1 an];exact ⟨rfl,λv aw=>by rw [bs.1 aw];exact ⟨l.A.J,l.A.aI 19⟩⟩
     obtain ⟨aS,Q,T,C,-⟩:=f.app (k:=1) (E:=G) (t:=100) (b:=24) (i:=t103) aq aq rfl rfl al al (x:= .A [[g]] true) (aQ:= [_]) (dR (.inr ⟨_,rfl⟩) D.len) D og;simp -implicitDefEqProofs only [go_sem,hF,l.A.O,ae,bH,f.O,T,C.O];exact au.next (aS,Q) rfl ⟨_,C,λag=>absurd ag al,λ_=> .inr ⟨_,g,aj,l,rfl⟩⟩ dm
 . rintro ⟨N,p⟩ tm ⟨e,f,-,h⟩ hF;simp only at f hF h;have ao:e.length<=1:=by rcases h (aT _) with ⟨-,rfl⟩|⟨_,_,-,-,rfl⟩<;>simp
   obtain ⟨aX,⟨bf,aR,bd⟩,U⟩:=VA (ad:=ad) (n:=n) f ao;simp -implicitDefEqProofs only [go_sem,hF,f.O,U,(fW e).O,(fW e).aD,dX];refine ak.mk ?_ ((fW e).aI 19) w aR;rcases h (aT _) with ⟨rfl,rfl⟩|⟨y,aV,rfl,ay,rfl⟩
   . rfl
   . exact ⟨aV,false,ay,rfl⟩
end
def mb (ax:aa) (p t:List aa) (D:Sub->Prop) (st:Sub->Option Sub):Prop:=bo λg h=> ∀(a:Sub) (e:aa) (f:Bool) b,c7 a->iA e a->D a->Tidy b->
    ∃d,ka (st a) d/\ ∀c,az G (X G R g h) 84 [.agg [ax],.A [[e]] f,.agg p,.agg t] b c= .ok d c b
def fZ (S:Nat->Sub->Option Sub):Nat->Sub->Option Sub
 |0,a=>some a
 |b+1,a=>(fZ S b a).bind (S b)
theorem LK {S :Nat->Sub->Option Sub} {i:Nat} {u:Sub} (ag:fZ S i u=none): ∀m,i<=m->fZ S m u=none
 | 0, b => by obtain rfl:i=0:=ab
              exact ag
 | m+1,b=>by
   by_cases a:i=m+1
   . subst a;exact ag
   . show (fZ S m u).bind (S m)=none;rw [LK ag m ab];rfl
def ka.aI {o v} (ag:ka o v) (d:Nat):D (d+1) v=true/\aD v=true/\ ∀t,O t v=v:=by
 cases o with
 |none=>cases ag;exact ⟨rfl,rfl,λ_=>rfl⟩
 |some b=>obtain ⟨c,a,-,rfl⟩:=ag;exact ⟨rfl,rfl,λ_=>rfl⟩
def xL (x:aa) (n:Nat):aa:=match x with
 | .A b a=> .A (b.drop n) a
 |v=>v
def BB {x:aa} {rows:Y} (ag:F x rows) (n:Nat):F (xL x n) (rows.drop n):=by
 rcases ag with ⟨rfl,rfl⟩|⟨a,rfl⟩
 . exact .inl ⟨rfl,ai⟩
 . exact .inr ⟨a,rfl⟩
def Z3 {k:Nat} {x:aa} {rows:Y} (ag:F x rows) (e: ∀r∈rows,r.length=k) {n:Nat} (b:n<=rows.length):fG k x (some (.int .i64 (n:Nat))) none none=some (xL x n):=by
 rcases ag with ⟨rfl,rfl⟩|⟨a,rfl⟩
 . obtain rfl:n=0:=by simpa using b
   rfl
 . show (match r7 k rows with|true=>qJ rows a (some (.int .i64 (n:Nat))) none none|false=>none)=_;rw [Lv e];show (if n<=rows.length/\rows.length<=rows.length then w ((rows.drop n).take (rows.length-n)) λr=>gC (a&&Nat.beq rows.length rows.length) λc=>some (aa.A r c) else none)=_;rw [if_pos ⟨b,aT _⟩];have d:(rows.drop n).take (rows.length-n)=rows.drop n:=fT (by rw [oW];omega);simp only [bu,mz,d,xL];simp
def j2 (y:aa) (n:Nat):List aa:= [.int .i64 7,.int .i64 0,.str 0 0,.str 0 0,xL y n,.V]
section
variable {ax:aa} {s:List aa} {kN jv rop j3 aJ:Y} (ag:dO ax s kN jv rop j3 aJ)
include ag
theorem VF {kp np:Int} {pl pm n8 n9:Nat} {py m0:aa} {pk fk:Y} (P:kp=5\/kp=7) (E:F py pk) (L:F m0 fk) (bI: ∀r∈pk,aN r) (bK: ∀r∈fk,aN r) (ca:pk.length<1048560) (cc:fk.length<=1)
  {kt mV:Int} {tl tm ul nb:Nat} {ty tz:aa} {tk uz:Y} (hty:F ty tk) (bP:F tz uz) (bb: ∀r∈tk,aN r)
  (D:Nat->Sub->Prop) (S:Nat->Sub->Option Sub) (bz: ∀i p q,pk[i]? =some p->tk[i]? =some q->mb ax p q (D i) (S i)) (bx: ∀r,fk[0]? =some r->pk.length<=tk.length->mb ax r (j2 ty pk.length) (D pk.length) (S pk.length))
  (bs: ∀i u d,i<pk.length+fk.length->c7 u->D i u->S i u=some d->c7 d/\D (i+1) d):
  bo λad n=> ∀(u:Sub) (x:aa) (y:Bool) H,c7 u->iA x u->D 0 u->Tidy H->
   ∃ v,ka (if kp=kt/\(pl=tl/\pm=tm) then (if pk.length<=tk.length/\(fk.length≠0\/pk.length=tk.length) then fZ S (pk.length+fk.length) u else none) else none) v/\
     ∀bk,az G (X G R ad n) 160 [.agg [ax],.A [[x]] y,.agg [.int .i64 kp,.int .i64 np,.str pl pm,.str n8 n9,py,m0],.agg [.int .i64 kt,.int .i64 mV,.str tl tm,.str ul nb,ty,tz]] H bk= .ok v bk H:=by
 obtain ⟨cn,b1,cp,cq,cr,ct⟩:=ag.val;obtain ⟨bW,bp⟩:=dE (l:=List.range pk.length) (Q:=λi ad n=> ∀p q,pk[i]? =some p->tk[i]? =some q-> ∀(u:Sub) (x:aa) (y:Bool) H,c7 u->iA x u->D i u->Tidy H->
   ∃v,ka (S i u) v/\ ∀tm,az G (X G R ad n) 84 [.agg [ax],.A [[x]] y,.agg p,.agg q] H tm= .ok v tm H) λi _=>by
  cases bH:pk[i]? with
  |none=>exact ⟨0,λ_ _ _ _ p q e=>by cases e⟩
  | some p=>
    cases bL:tk[i]? with
    |none=>exact ⟨0,λ_ _ _ _ p q _ e=>by cases e⟩
    | some q=>
      obtain ⟨aU,P⟩:=bz i p q bH bL;exact ⟨aU,λad n aj aA ck cl aB ae=>by cases aB;cases ae;exact P ad n aj aA⟩
 obtain ⟨bX,br⟩:bo λad n=> ∀r,fk[0]? =some r->pk.length<=tk.length-> ∀(u:Sub) (x:aa) (y:Bool) H,c7 u->iA x u->D pk.length u->Tidy H->
   ∃v,ka (S pk.length u) v/\ ∀tm,az G (X G R ad n) 84 [.agg [ax],.A [[x]] y,.agg r,.agg (j2 ty pk.length)] H tm= .ok v tm H:=by
  cases f:fk[0]? with
  |none=>exact ⟨0,λ_ _ _ _ r e=>by cases e⟩
  | some r=>
    by_cases K:pk.length<=tk.length
    . obtain ⟨aU,P⟩:=bx r f K;exact ⟨aU,λad n aj aA cm e _=>by cases e;exact P ad n aj aA⟩
    . exact ⟨0,λ_ _ _ _ r _ e=>absurd e K⟩
 refine ⟨bW+bX+pk.length+10,λad n b8 b9 u x y H bR bV bt af=> ?_⟩;obtain ⟨n,rfl⟩:=bY n;generalize I:(if kp=kt/\(pl=tl/\pm=tm) then (if pk.length<=tk.length/\(fk.length≠0\/pk.length=tk.length) then fZ S (pk.length+fk.length) u else none) else none:Option Sub)=Z;refine hg (aL.at (m:=92) rfl rfl rfl rfl rfl (by simp only [aO];rfl) rfl rfl ?_);have ba:=L.len;generalize cd:fk.length=bn at*;have aY:Z=none->ak (ka Z) bQ H (.ret .V H):=λe=>ak.mk (by rw [e];rfl) rfl af (U.refl _);have bD:(kp==8)=false:=by rcases P with rfl|rfl<;>rfl
 refine ak.bM (λa c=>H=c/\aM 96 [(1,.A [[x]] y),(4,.W 0 [ax]),(6,.W 0 [.int .i64 kp,.int .i64 np,.str pl pm,.str n8 n9,py,m0]),(7,.W 0 [.int .i64 kt,.int .i64 mV,.str tl tm,.str ul nb,ty,tz]),(11,.av []),(13,.av [])] a) ?_ ?_
 . simp only [go_sem,E.J,L.J,hty.J,bP.J,b1];exact an.mk ⟨rfl,dC⟩
 rintro a _ ⟨rfl,hF⟩;refine ak.bF hF (λw a c=>(H=c/\kp=kt/\(pl=tl/\pm=tm))/\w a) ?_ ?_
 . simp only [go_sem,hF]
   iterate 2 all_goals try (refine an.aE ?_ ?_<;>intro aC<;>simp only [go_sem,hF,aC,bD])
   all_goals first
    |exact an.mk ⟨⟨rfl,by simp at*;omega⟩,ay⟩
    |exact an.stop rfl (by simp only [go_sem,hF];exact aY (by rw [<-I];exact if_neg (by simp at*;omega)))
 clear hF;rintro a _ ⟨⟨rfl,bE,bJ⟩,hF⟩;rw [if_pos ⟨bE,bJ⟩] at I;refine ak.bF hF (λw a c=>H=c/\aM 96 [(9,.int .i64 (pk.length:Nat))] a/\w a) ?_ ?_
 . simp only [go_sem,hF,E.O,E.len];exact an.mk ⟨rfl,ay⟩
 clear hF;rintro a _ ⟨rfl,hF⟩;refine ak.kp [1,4,6,7,11,13] (λw a c=>(H=c/\pk.length<=tk.length/\(bn≠0\/pk.length=tk.length))/\M a 9= .int .i64 (pk.length:Nat)/\w a) ?_ ?_
 . simp only [go_sem,hF,hty.O,hty.len]
   iterate 4 all_goals try (refine an.aE ?_ ?_<;>intro aC<;>simp only [go_sem,hF,aC,hty.O,hty.len,L.O,ba])
   all_goals first
    |exact an.mk ⟨⟨rfl,by simp at*;omega⟩,ay⟩
    |exact an.stop rfl (by simp only [go_sem,hF];exact aY (by rw [<-I];exact if_neg (by simp at*;omega)))
 clear hF;rintro a _ ⟨⟨rfl,K,bO⟩,hF⟩;rw [if_pos ⟨K,bO⟩] at I;refine ak.kp [4,6,7,9,13] (λw a c=>(H=c/\ ∃h d o,fZ S pk.length u=some d/\c7 d/\iA h d/\D pk.length d/\M a 1= .A [[h]] o)/\w a) ?_ ?_
 . simp only [go_sem,hF,E.O,E.len];generalize bw:a1 _ _ _ _ _ _ _ _ _ _=ah;revert ah;refine cv [4,6,7,9,13,58] (λs=> [(1,.A [[s.1]] s.2.2)]) (λ_=>H) (λb s=>fZ S b u=some s.2.1/\c7 s.2.1/\iA s.1 s.2.1/\D b s.2.1) pk.length (x,u,y) ⟨rfl,bR,bV,bt⟩ ?_ ?_
   . clear hF;rintro b ⟨h,d,o⟩ a aH ⟨f,B,C,z⟩ hF;simp only at f B C z hF;obtain ⟨p,aP⟩:=bA aH;obtain ⟨q,aR⟩: ∃q,tk[b]? =some q:=⟨tk[b]'ab,ai⟩;obtain ⟨v,g,aB⟩:=bp ad n ab ab b (h9.2 aH) p q aP aR d h o H B C z af;have bd:=bI p (aV aP);have bf:=bb q (aV aR);have aQ:=E.a_ (k:=6) aP bd.len;have bN:=hty.a_ (k:=6) aR bf.len;obtain ⟨aW,aX,ao,aq,ar,aw,aZ,a6,bZ,b0,rfl,aD,aF⟩:=bd.t;obtain ⟨cf,cj,b2,b3,b4,b5,cu,cw,cg,ch,rfl,b6,b7⟩:=bf.t;refine au.bM (λa c=>H=c/\ ∃bh,aM 96 [(60,.int .i64 (b:Nat)),(59,.int .i64 (pk.length:Nat)),(1,.A [[h]] o),(4,.W 0 [ax]),(6,.W 0 [.int .i64 kp,.int .i64 np,.str pl pm,.str n8 n9,py,m0]),(7,.W 0 [.int .i64 kt,.int .i64 mV,.str tl tm,.str ul nb,ty,tz]),(9,.int .i64 (pk.length:Nat)),(13,.av []),(58,py),(10,.int .i64 (b:Nat)),(11,.W bh [.int .i64 aW,.int .i64 aX,.str ao aq,.str ar aw,aZ,a6])] a) ?_ ?_
     . simp only [go_sem,hF,E.O,aQ,aD.J,aF.J];exact an.mk ⟨rfl,_,by simp only [go_sem,hF];trivial⟩
     clear hF;rintro a _ ⟨rfl,bh,hF⟩;obtain ⟨-,aT,T⟩:=g.aI 0;have bC:S b d=none->Z=none:=λe=>by rw [<-I];exact LK (i:=b+1) (by show (fZ S b u).bind (S b)=none;rw [f];exact e) _ ab
     refine au.kp [60,59,4,6,7,9,13,58] (λw a c=>H=c/\M a 1=v/\w a) ?_ ?_
     . simp only [go_sem,hF,hty.O,bN,aB,T];exact an.mk ⟨rfl,ay⟩
     clear hF;rintro a _ ⟨rfl,hF⟩
     cases N:S b d with
     | none=>
       rw [N] at g;cases g;simp only [go_sem,hF];exact au.stop rfl (by simp only [go_sem];exact an.stop rfl (by simp only [go_sem,hF];exact aY (bC N)))
     | some bl=>
       rw [N] at g;obtain ⟨bm,a7,bU,rfl⟩:=g;have bG:iL (.A [[bm]] a7)=some (.int .i64 1):=rfl;simp only [go_sem,hF,bG];obtain ⟨bS,bu⟩:=bs b d bl ab B z N;exact au.next (bm,bl,a7) rfl ⟨by show (fZ S b u).bind (S b)=_;rw [f];exact N,bS,bU,bu⟩ ay
   . rintro ⟨h,d,o⟩ a ⟨f,B,C,z⟩ hF;simp only at f B C z hF;simp only [go_sem];exact an.mk ⟨⟨rfl,h,d,o,f,B,C,z,hF.1⟩,ay⟩
 clear hF;rintro a _ ⟨⟨rfl,h,d,o,f,B,C,z,a8⟩,hF⟩;refine ak.bM (λa c=> ∃v,(H=c/\ka Z v)/\M a 1=v/\a.length=96) ?_ ?_
 . simp only [go_sem,hF,L.O,ba];generalize bw:a1 _ _ _ _ _ _ _ _ _ _=ah;revert ah;refine hz _ _ _ _ (σ:=aa) (λs=> [(1,s),(4,.W 0 [ax]),(7,.W 0 [.int .i64 kt,.int .i64 mV,.str tl tm,.str ul nb,ty,tz]),(9,.int .i64 (pk.length:Nat)),(79,m0)]) (λ_=>H) (λb v=>ka (fZ S (pk.length+b) u) v/\(b=0->v= .A [[h]] o)) 96 bn (.A [[h]] o) rfl rfl (λ_=>rfl) rfl ⟨by rw [vU,f];exact ⟨h,o,C,rfl⟩,λ_=>rfl⟩ (by simp only [go_sem,hF,a8]) ab ab ?_ ?_
   . clear hF a8;rintro b v a aH ⟨cb,g⟩ hF;obtain rfl:b=0:=ab;obtain rfl:=g rfl;obtain ⟨r,aS⟩: ∃r,fk[0]? =some r:=⟨fk[0]'ab,ai⟩;obtain ⟨v,bc,ae⟩:=br ad n ab ab r aS K d h o H B C z af;have bg:=bK r (aV aS);have aQ:=L.a_ (k:=6) (j:=0) aS bg.len;have bB:=Z3 hty (λr f=>(bb r f).len) K;have aG:=BB hty pk.length;obtain ⟨aW,aX,ao,aq,ar,aw,aZ,a6,bZ,b0,rfl,aD,aF⟩:=bg.t;obtain ⟨-,aT,T⟩:=bc.aI 0;simp only [j2] at ae;refine au.kp [80,4,7,9,79] (λw a c=>H=c/\ ∃bj,M a 81= .int .i64 0/\M a 1= .A [[h]] o/\M a 13= .W bj [.int .i64 aW,.int .i64 aX,.str ao aq,.str ar aw,aZ,a6]/\w a) ?_ ?_
     . simp only [go_sem,hF,L.O,aQ,aD.J,aF.J];exact an.mk ⟨rfl,_,by simp only [go_sem,hF];exact ⟨rfl,rfl⟩⟩
     clear hF;rintro a _ ⟨rfl,bj,hF⟩;simp only [go_sem,hF,hty.O,bB,aG.O,aG.J,aG.cells,ae,T];refine au.next v rfl ⟨?_,λe=>absurd e al⟩ (by simp only [go_sem,hF];rfl);show ka ((fZ S pk.length u).bind (S pk.length)) v;rw [f];exact bc
   . rintro v a ⟨g,-⟩ hF;have aK:=hF.len;rw [I] at g;simp only [go_sem];exact an.mk ⟨v,⟨rfl,g⟩,hF.1,aK⟩
 rintro a _ ⟨v,⟨rfl,g⟩,bq,aK⟩;obtain ⟨bT,aT,T⟩:=g.aI 19;simp only [go_sem,bq,T,aT,dX,aK];exact ak.mk g bT af (U.refl _)
theorem DA {kp np:Int} {pl pm n8 n9:Nat} {py m0:aa} {pk fk:Y} (c:kp=5\/kp=7) (d:F py pk) (e:F m0 fk) (x: ∀r∈pk,aN r) (z: ∀r∈fk,aN r) (y:pk.length<1048560) (I:fk.length<=1)
  {kt mV:Int} {tl tm ul nb:Nat} {ty tz:aa} {tk uz:Y} (hty:F ty tk) (f:F tz uz) (A: ∀r∈tk,aN r)
  (D:Nat->Sub->Prop) (S:Nat->Sub->Option Sub) (v: ∀i p q,pk[i]? =some p->tk[i]? =some q->mb ax p q (D i) (S i)) (t: ∀r,fk[0]? =some r->pk.length<=tk.length->mb ax r (j2 ty pk.length) (D pk.length) (S pk.length))
  (n: ∀i u b,i<pk.length+fk.length->c7 u->D i u->S i u=some b->c7 b/\D (i+1) b):
  mb ax [.int .i64 kp,.int .i64 np,.str pl pm,.str n8 n9,py,m0] [.int .i64 kt,.int .i64 mV,.str tl tm,.str ul nb,ty,tz] (D 0) (λu=>if kp=kt/\(pl=tl/\pm=tm) then (if pk.length<=tk.length/\(fk.length≠0\/pk.length=tk.length) then fZ S (pk.length+fk.length) u else none) else none):=by
 obtain ⟨T,M,V,W,X,Z⟩:=ag.val;obtain ⟨K,w⟩:=VF ag (np:=np) (n8:=n8) (n9:=n9) (mV:=mV) (ul:=ul) (nb:=nb) (kt:=kt) (pl:=pl) (pm:=pm) (tl:=tl) (tm:=tm) c d e x z y I hty f A D S v t n;refine ⟨K+1,λL a P Q u N k j B H o h=> ?_⟩;obtain ⟨a,rfl⟩:=bY a;obtain ⟨R,g,l⟩:=w L a ab ab u N k j B H o h;obtain ⟨C,E,G⟩:=g.aI 19;simp only;generalize (if kp=kt/\(pl=tl/\pm=tm) then (if pk.length<=tk.length/\(fk.length≠0\/pk.length=tk.length) then fZ S (pk.length+fk.length) u else none) else none:Option Sub)=O at*;refine hg (aL.at (m:=50) rfl rfl rfl rfl rfl (by simp only [aO];rfl) rfl rfl ?_);rcases c with rfl|rfl
 all_goals
  simp only [go_sem,d.J,e.J,hty.J,f.J,M,l,G,E,dX];exact ak.mk g C h (U.refl _)
end
end Go.aj
