/- A part of the proof. -/
import Derived.Test.YtiodgpibgiodcaaGreatDoorP00
import Derived.Test.YtiodgpibgiodcaaGreatDoorP07
import Derived.Test.YtiodgpibgiodcaaGreatDoorP10
import Derived.Test.YtiodgpibgiodcaaGreatDoorP12
set_option linter.all false
set_option maxHeartbeats 4000000
namespace Go.aj
open Go Go.Proofs.Tryz
set_option maxRecDepth 100000
def aN.RZ {r:List aa} (b:aN r): ∀v∈r,D 19 v=true:=λv a=>by
 obtain ⟨i,l,e,f,g,h,m,n,j,k,rfl,c,d⟩:=b.t;simp only [b2,dG,or_false] at a;rcases a with rfl|rfl|rfl|rfl|rfl|rfl
 . rfl
 . rfl
 . rfl
 . rfl
 . exact c.aI 18
 . exact d.aI 18
def FE (r:List aa) (ad n:Nat):Prop:= ∀(a:af) (c d b:aa),Tidy a->ec 10 a c->ec 10 a d->ec 10 a b-> ∃e,aN e/\ ∀f,az G (X G R ad n) 226 [.agg r,c,d,b] a f= .ok (.agg e) f a
def Jo (rows:Y) (ai: ∀r∈rows,aN r) (ag:rows.length<1048560) (ae:bo λad n=> ∀r∈rows,FE r ad n):
    bo λad n=> ∀x H p q h i j l f g fn,Tidy H->F x rows->H.get p=some (.cells h j 0 [f])->j<=h->H.get q=some (.cells i l 0 [fn])->l<=i->ec 10 H f->ec 10 H g->ec 10 H fn->
     ∃v,oB (λ_=>True) v/\ ∀tm,az G (X G R ad n) 287 [x,g,.ptr p h 0 1,.ptr q i 0 1] H tm= .ok v tm H:=by
 obtain ⟨an,T⟩:=ae;refine ⟨an+1048570,λad n aA aB x H p q h i j l f g fn hT e ao P ar Q B o z=> ?_⟩;obtain ⟨n,rfl⟩:=bY n;refine hg (aL.at (m:=22) rfl rfl rfl rfl rfl (by simp only [aO,e.aD,o.nl];rfl) rfl rfl ?_);simp only [go_sem,e.O,e.len];have hF:=trivial;generalize ax:a1 _ _ _ _ _ _ _ _ _ _=K;revert K;refine cv [1,2,3,10] (λb=> [(7,b.1)]) (λb=>b.2) (λC b=>eN (λ_=>True) H b.2 b.1 C) rows.length (.V,H) (eN.new _ H hT) ?_ ?_
 . rintro C ⟨v,c⟩ tm af a hF;simp only at a hF|-;obtain ⟨r,y⟩:=bA af;have u:=aV y;have W:Tidy c/\U H c:=by obtain ⟨D,-,-,-,L,M⟩:=a;exact ⟨L,M⟩
   obtain ⟨Z,d⟩:=W;obtain ⟨E,w,N⟩:=T ad n ab ab r u c f g fn Z (B.up d) (o.up d) (z.up d);have aq:=d.get hT.1 ao;have av:=d.get hT.1 ar;have aa:=jc w c;obtain ⟨aw,I,S,s⟩:=a.app (x:= .A [E] true) (aQ:= [E]) (.inl (.inr ⟨_,rfl⟩)) (λD ah=>by rw [bs.1 ah];exact ⟨w,trivial⟩) (by show _+1<_;omega);obtain ⟨aJ,aK,aC,aE,aF,aG,aM,D,aI,aH,rfl,al,aj⟩:=(ai r u).t;simp only [go_sem,hF,e.O,e.a_ (k:=6) y rfl,al.J,aj.J,aq,P,av,Q,B.op,o.op,z.op,a.O,N,aa,bH,S,s.O];exact au.next (aw,I) rfl s ay
 . rintro ⟨v,c⟩ tm a hF;simp only at a hF;simp only [go_sem,hF,a.O,a.nl,dX,if_true];exact ak.B_ hT a ag
def VM {r:List aa} {n:Nat} (B:e1 r n):n<1048560-> ∃k,∀ad h,k<=ad->k<=h->FE r ad h:=by
 induction B with
 | @mk r k n u v z A ae P F G I e R S az aA=>
 intro aG;have aw:(F++G).length<=((F++G).map I).sum:=qq λd f=>((cr.1 f).elim (R d) (S d)).pos;have T: ∀d∈F++G,I d<=((F++G).map I).sum:=λd f=>o3 f;rw [bD] at aw;obtain ⟨aB,ar⟩:=Jo F (λd f=>(R d f).wt) ab (dE λd f=>az d f (by have:=T d (hP _ f);omega));obtain ⟨aC,au⟩:=Jo G (λd f=>(S d f).wt) ab (dE λd f=>aA d f (by have:=T d (h7 _ f);omega));refine ⟨aB+aC+20,λad h aH aJ b l Q j X s E p=> ?_⟩;obtain ⟨h,rfl⟩:=bY h;have ax:Tidy (b.push (.cells (q 130) (q 130) 0 [l])):=X.push (by show [l].all _=true;simp only [aO,kz (mN _) 20 l s.ids];rfl);have C:Tidy ((b.push (.cells (q 130) (q 130) 0 [l])).push (.cells (q 130) (q 130) 0 [j])):=ax.push (by have ai:y ((b.push (.cells (q 130) (q 130) 0 [l])).n+1) 20 j=true:=kz (by simp [lq];omega) 20 j p.ids;show [j].all _=true;simp only [aO,ai];rfl);have o:U b ((b.push (.cells (q 130) (q 130) 0 [l])).push (.cells (q 130) (q 130) 0 [j])):=((U.refl b).push _).push _;have K:=ta b (.cells (q 130) (q 130) 0 [l]) (.cells (q 130) (q 130) 0 [j]);have L:((b.push (.cells (q 130) (q 130) 0 [l])).push (.cells (q 130) (q 130) 0 [j])).get (b.n+1)=some (.cells (q 130) (q 130) 0 [j]):=dL (b.push _) _;generalize av:(b.push (.cells (q 130) (q 130) 0 [l])).push (.cells (q 130) (q 130) 0 [j])=g at*;obtain ⟨H,⟨aP,w,aD,aK⟩,aj⟩:=ar ad h ab ab ae g _ _ _ _ _ _ _ Q _ C e.dh K (aT _) L (aT _) (s.up o) (E.up o) (p.up o);obtain ⟨N,⟨aQ,x,aF,aN⟩,ao⟩:=au ad h ab ab P g _ _ _ _ _ _ _ (.fn (.func 288) [] []) _ C e.cq K (aT _) L (aT _) (s.up o) ((To g).mono al) (p.up o);have af:=λa=>s.call ad h ab ab g o C u v a e.c5 e.s1;have ag:=λa=>p.call ad h ab ab g o C u v a e.c5 e.s1;have ah:=λa=>E.call ad h ab ab g o C z A a e.pw e.s2;refine ⟨[.int .i64 k,.int .i64 n,.str u v,.str z A,H,N],.mk ⟨rfl,e.c5,e.pw,e.s1,e.s2,w,x,ab,ab⟩ (λr B=>(aD r B).1) (λr B=>(aF r B).1),?_⟩;obtain ⟨rfl,Y,Z⟩:=e.c;refine jQ (aL.at (m:=48) (rs:= [.cell 8 35]) rfl rfl rfl rfl rfl (by simp only [aO,s.nl,E.nl,p.nl];rfl) rfl rfl ?_);refine ak.bM (λa i=>g=i/\aM 52 [(2,Q),(5,.ptr b.n (q 130) 0 1),(7,.ptr (b.n+1) (q 130) 0 1),(8,.W 0 [.int .i64 0,.int .i64 0,.str 0 0,.str 0 0,.V,.V]),(4,.W 0 [.int .i64 k,.int .i64 n,.str u v,.str z A,ae,P])] a) ?_ ?_
 . simp only [go_sem,Y.J,Z.J,s.op,s.ok,s.cs,p.op,p.ok,p.cs,av];exact an.mk ⟨rfl,dC⟩
 rintro a _ ⟨rfl,hF⟩;refine ak.bF hF (λt a i=>g=i/\t a) ?_ ?_
 . simp only [go_sem,hF]
   iterate 4 all_goals try (refine an.aE ?_ ?_<;>intro aq<;>simp only [go_sem,hF,aq,K,L,s.op,E.op,p.op,af,ag,ah])
   all_goals exact an.mk ⟨rfl,ay⟩
 clear hF;rintro a _ ⟨rfl,hF⟩;refine ak.bF hF (λt a i=>g=i/\aM 52 [(9,.fn (.func 287) [] [.ptr b.n (q 130) 0 1,.ptr (b.n+1) (q 130) 0 1])] a/\t a) ?_ ?_
 . simp only [go_sem,hF];exact an.mk ⟨rfl,ay⟩
 clear hF;rintro a _ ⟨rfl,hF⟩;refine ak.kp [2,5,7,8] (λt a i=>g=i/\M a 4= .W 0 [.int .i64 k,.int .i64 n,.str u v,.str z A,H,P]/\M a 9= .fn (.func 287) [] [.ptr b.n (q 130) 0 1,.ptr (b.n+1) (q 130) 0 1]/\t a) ?_ ?_
 . simp only [go_sem,hF,E.op,Y.O,aj,w.O,w.J,w.cells];exact an.mk ⟨rfl,ay⟩
 clear hF;rintro a _ ⟨rfl,hF⟩;refine ak.kp [2,5,7,8,9] (λt a i=>g=i/\M a 4= .W 0 [.int .i64 k,.int .i64 n,.str u v,.str z A,H,N]/\t a) ?_ ?_
 . simp only [go_sem,hF,Z.O,ao,x.O,x.J,x.cells];exact an.mk ⟨rfl,ay⟩
 clear hF;rintro a _ ⟨rfl,hF⟩;simp only [go_sem,hF,w.J,x.J];exact ak.mk rfl (by show (([.int .i64 k,.int .i64 n,.str u v,.str z A,H,N]:List aa).all (D 19))=true;simp only [aO,w.aI 18,x.aI 18];rfl) X o
def Tr {a:Nat} (e:1<=a) {H:af} {p:Nat} {fv:aa} {g b:Nat} (d:H.get p=some (.cells g b 0 [fv])) (h:b<=g) (i:H.l.length=H.n) (c:ec a H fv):ec (a+1) H (.fn (.func 225) [] [.ptr p g 0 1]):=
 ⟨rfl,λ_=>rfl,rfl,rfl,by have f:Nat.blt p H.n=true:=h_ (gW d);show ([].all (y H.n 19)&& [aa.ptr p g 0 1].all (y H.n 19))=true;simp only [aO,jm,y,f];rfl,⟨_,_,_,rfl⟩,Tq d h i e c.call c.op⟩
def l9 (r:List aa) (ad n:Nat):Prop:= ∀(a:af) (b:aa),Tidy a->ec 9 a b-> ∃c,aN c/\ ∀d,az G (X G R ad n) 150 [b,.agg r] a d= .ok (.agg c) d a
def Jn {r:List aa} {n:Nat} (l:e1 r n) (hN:n<1048560): ∃k,∀ad d,k<=ad->k<=d->l9 r ad d:=by
 obtain ⟨E,v⟩:=VM l hN;refine ⟨E+20,λad d H I b a o c=> ?_⟩;obtain ⟨d,rfl⟩:=bY d;have p:Tidy (b.push (.cells (q 192) (q 192) 0 [a])):=o.push (by show [a].all _=true;simp only [aO,kz (mN _) 20 a c.ids];rfl);have g:U b (b.push (.cells (q 192) (q 192) 0 [a])):=(U.refl b).push _;have s:(b.push (.cells (q 192) (q 192) 0 [a])).get b.n=some (.cells (q 192) (q 192) 0 [a]):=dL _ _;have F: ∀e,b.push (.cells (q 192) (q 192) 0 [a])=e->e=e:=λ_ _=>rfl;generalize w:b.push (.cells (q 192) (q 192) 0 [a])=e at*;obtain ⟨h,f,u⟩:=v ad d ab ab e _ a a p (Tr al s (aT _) p.1 (c.up g)) ((c.up g).mono al) ((c.up g).mono al);refine ⟨h,f,jQ (aL.at (m:=10) (rs:= [.cell 4 35]) rfl rfl rfl rfl rfl (by simp only [aO,c.nl];rfl) rfl rfl ?_)⟩;obtain ⟨X,Z,K,L,M,N,af,ah,S,V,rfl,z,A⟩:=l.wt.t;have y:=f.row;have G:h.all J=true:=ba.2 λj i=>(y.2 j i).1;have x:D 20 (.agg h)=true:=by show h.all (D 19)=true;exact ba.2 λj i=>aN.RZ f j i
 obtain ⟨Y,ae,O,P,Q,R,ag,ai,T,W,rfl,B,C⟩:=f.t;simp only [go_sem,z.J,A.J,B.J,C.J,c.op,c.ok,c.cs,w,s,u];exact ak.mk rfl x o g
def y_ (rows:Y) (P: ∀r∈rows,aN r) (L:rows.length<1048560) (I:bo λad n=> ∀r∈rows,l9 r ad n):
    bo λad n=> ∀x H e,Tidy H->F x rows->ec 9 H e-> ∃v,oB (λ_=>True) v/\ ∀tm,az G (X G R ad n) 151 [e,x] H tm= .ok v tm H:=by
 obtain ⟨T,B⟩:=I;refine ⟨T+1048570,λad n aa ae x H e hT d f=> ?_⟩;obtain ⟨n,rfl⟩:=bY n;refine hg (aL.at (m:=20) rfl rfl rfl rfl rfl (by simp only [aO,d.aD,f.nl];rfl) rfl rfl ?_);simp only [go_sem,d.O,d.len];have hF:=trivial;generalize Z:a1 _ _ _ _ _ _ _ _ _ _=s;revert s;refine cv [0,8] (λb=> [(5,b.1)]) (λb=>b.2) (λl b=>eN (λ_=>True) H b.2 b.1 l) rows.length (.V,H) (eN.new _ H hT) ?_ ?_
 . rintro l ⟨v,c⟩ tm K a hF;simp only at a hF|-;obtain ⟨r,j⟩:=bA K;have h:=aV j;have C:Tidy c/\U H c:=by obtain ⟨o,-,-,-,u,w⟩:=a;exact ⟨u,w⟩
   obtain ⟨D,N⟩:=C;obtain ⟨p,i,y⟩:=B ad n ab ab r h c e D (f.up N);have E:=jc i c;obtain ⟨W,q,z,g⟩:=a.app (x:= .A [p] true) (aQ:= [p]) (.inl (.inr ⟨_,rfl⟩)) (λo M=>by rw [bs.1 M];exact ⟨i,trivial⟩) (by show _+1<_;omega);obtain ⟨an,ao,af,ag,ah,ai,aq,o,al,aj,rfl,S,Q⟩:=(P r h).t;simp only [go_sem,hF,d.O,d.a_ (k:=6) j rfl,S.J,Q.J,f.op,a.O,y,E,bH,z,g.O];exact au.next (W,q) rfl g ay
 . rintro ⟨v,c⟩ tm a hF;simp only at a hF;simp only [go_sem,hF,a.O,a.nl,dX,if_true];exact ak.B_ hT a L
def hi (el k:Nat) (b H:af) (v:aa) (B:Nat):Prop:= ∃a,bd b.n el k a.length H a v/\Rows k a/\a.length<=B/\Tidy H/\U b H
def hi.O {el k b H v B} (a:hi el k b H v B) (t):O t v=v:=by obtain ⟨c,a,-⟩:=a;exact a.O t
def hi.nl {el k b H v B} (a:hi el k b H v B):aD v=true:=by obtain ⟨c,a,-⟩:=a;exact a.aD
def hi.ok {el k b H v B} (a:hi el k b H v B):v.cells= [v]/\J v=true:=by obtain ⟨c,a,-⟩:=a;exact a.cells
def hi.new (el k:Nat) (H:af) (b:Tidy H):hi el k H H .V 0:=⟨[],bd.nil,λ_ a=>(by cases a),aT _,b,U.refl _⟩
def hi.app {t el k b:Nat} {i:TypeInfo} {c H v B} (z:aW G t=some (.slice el)) (hT:G.T el=some i) (s:i.size=k) (p:i.bytes=b) (u:0<k) (q:b<=4096) (o:hi el k c H v B) {r:List aa} (w:r.length=k/\ ∀v∈r,J v=true/\D 20 v=true) (F:B+1<1048560):
    ∃a H',cI G t t v (.A [r] true) H=some (a,H')/\hi el k c H' a (B+1):=by
 obtain ⟨g,C,l,I,y,j⟩:=o;have e:Rows k [r]:=λf d=>by rw [bs.1 d];exact w
 obtain ⟨a,H',m,E,h⟩:=C.app (x:= .A [r] true) (aQ:= [r]) z hT s p u q y j.n l (dR (.inr ⟨_,rfl⟩) e.len) e (by have:(g.length+ [r].length)*(b+1)<=1048560*4097:=kF (by show g.length+1<=_;omega) ab;unfold b7;omega) (by show _+1<_;omega);exact ⟨a,H',m,g++ [r],by rw [bD];exact E,λf d=>(cr.1 d).elim (l f) (e f),by rw [bD];show _+1<=_;omega,h.tidy,h.up c (aT _) j⟩
def xi (k:Nat) (v:aa):Prop:= ∃a,F v a/\Rows k a/\a.length<1048560
def ak.Sr {el k a H v B} (d:0<k) (g:Tidy a) (b:hi el k a H v B) (i:B<1048560):ak (xi k) bQ a (.ret v H):=by
 obtain ⟨h,f,c,j,l,e⟩:=b;exact ak.W d g c f (aT _) e λm b=>⟨h,b,c,ab⟩
def O2 {r} (a:r.length=10/\ ∀v∈r,J v=true/\D 20 v=true) (H:af):cT G 28 1 [(0,.agg r)] H=some (.A [r] true,H):=
 mo (E:=G) (t:=28) (el:=83) (k:=10) (H:=H) (z:= .agg [.str 0 0,.str 0 0,.int .i64 0,.int .i64 0,.str 0 0,.str 0 0,.V,.V,.int .i64 0,.int .i64 0]) aq aq aq al rfl al (.agg r) ⟨a.1,ba.2 λv b=>(a.2 v b).1,ba.2 λv b=>(a.2 v b).2⟩
def Jm (rows:Y) (aj: ∀r∈rows,iz r) (ah:rows.length<1048560) (af:bo λad n=> ∀r∈rows,l9 (dQ r) ad n):
    bo λad n=> ∀x H g,Tidy H->F x rows->ec 9 H g-> ∃v,xi 10 v/\ ∀tm,az G (X G R ad n) 149 [g,x] H tm= .ok v tm H:=by
 obtain ⟨aw,aa⟩:=af;refine ⟨aw+1048570,λad n aF aG x H g hT e f=> ?_⟩;obtain ⟨n,rfl⟩:=bY n;refine hg (aL.at (m:=33) rfl rfl rfl rfl rfl (by simp only [aO,e.aD,f.nl];rfl) rfl rfl ?_);simp only [go_sem,e.O,e.len];have hF:=trivial;generalize aE:a1 _ _ _ _ _ _ _ _ _ _=Q;revert Q;refine cv [0,8] (λd=> [(5,d.1)]) (λd=>d.2) (λM d=>hi 83 10 H d.2 d.1 M) rows.length (.V,H) (hi.new _ _ H hT) ?_ ?_
 . rintro M ⟨v,c⟩ tm ag a hF;simp only at a hF|-;obtain ⟨r,s⟩:=bA ag;have I:=aV s;have ae:Tidy c/\U H c:=by obtain ⟨ax,-,-,-,S,T⟩:=a;exact ⟨S,T⟩
   obtain ⟨q,u⟩:=ae;obtain ⟨N,K,A⟩:=aa ad n ab ab r I c g q (f.up u);obtain ⟨aB,aC,z,o,p,rfl,⟨h,j,rfl,w⟩,⟨i,l,rfl,y⟩,C,⟨o,rfl⟩,⟨p,rfl⟩⟩:=aj r I;rw [show dQ ([.str h j,.str i l]++z++ [.int .i64 o,.int .i64 p])=z by unfold dQ;rw [fu,qh ai];simp [C.len]] at A;have L:=iz.row (r:= [.str h j,.str i l]++N++ [.int .i64 o,.int .i64 p]) ⟨_,_,N,_,_,rfl,⟨_,_,rfl,w⟩,⟨_,_,rfl,y⟩,K,⟨_,rfl⟩,⟨_,rfl⟩⟩;have E:=O2 L c;obtain ⟨aA,P,B,D⟩:=a.app (t:=28) (b:=144) aq B4 rfl rfl al al L ab;have W:=λtm=>f.call ad n ab ab c u q h j tm w.1 w.2;have Z:=λtm=>f.call ad n ab ab c u q i l tm y.1 y.2;obtain ⟨aW,aY,aH,aI,aJ,aK,a7,ax,aS,aR,rfl,ao,an⟩:=C.t;obtain ⟨aX,aZ,aM,aN,aP,aQ,a8,ba,aT,aU,rfl,ar,av⟩:=K.t;simp only [bl,a6] at s E B;simp only [go_sem,hF,e.O,e.a_ (k:=10) s rfl,ao.J,an.J,ar.J,av.J,f.op,W,Z,a.O,A,E,bH,B,D.O];exact au.next (aA,P) rfl D ay
 . rintro ⟨v,c⟩ tm a hF;simp only at a hF;simp only [go_sem,hF,a.O,a.nl,dX,if_true];exact ak.Sr al hT a ah
def xx {r} (a:r.length=11/\ ∀v∈r,J v=true/\D 20 v=true) (H:af):cT G 61 1 [(0,.agg r)] H=some (.A [r] true,H):=
 mo (E:=G) (t:=61) (el:=85) (k:=11) (H:=H) (z:= .agg [.str 0 0,.str 0 0,.int .i64 0,.int .i64 0,.str 0 0,.str 0 0,.V,.V,.V,.int .i64 0,.int .i64 0]) aq aq aq al rfl al (.agg r) ⟨a.1,ba.2 λv b=>(a.2 v b).1,ba.2 λv b=>(a.2 v b).2⟩
def O3 {v} (a:J v=true/\D 20 v=true) (H:af):cT G 62 1 [(0,.agg [v])] H=some (.A [[v]] true,H):=
 mo (E:=G) (t:=62) (el:=114) (k:=1) (H:=H) (z:= .agg [.V]) aq aq aq al rfl al (.agg [v]) ⟨rfl,by show [v].all J=true;grind,by show [v].all (D 20)=true;grind⟩
def oB.aI {A v} (b:oB A v):(∀t,O t v=v)/\J v=true/\v.cells= [v]/\ ∀d,D (d+1) v=true:=by
 obtain ⟨c,a,-⟩:=b;exact ⟨a.O,a.J,a.cells,a.aI⟩
def Vi {r:List aa} (ag:lI r) {N:Nat} (hT:bL (pf r) N) (hN:N<50000):bo λad n=> ∀H f,Tidy H->ec 9 H f-> ∃aB,(aB.length=7/\ ∀v∈aB,J v=true/\D 20 v=true)/\ ∀tm,az G (X G R ad n) 152 [f,.agg r] H tm= .ok (.agg aB) tm H:=by
 obtain ⟨dZ,bt,L,a,bT,bO,bQ,rfl,⟨h,q,rfl,ct⟩,⟨bu,aG,cS,dP⟩,⟨c7,bj,cP,dM⟩,⟨cf,aJ,cV,dR⟩,⟨cj,aX,cO,dL⟩,⟨w,rfl⟩,⟨z,rfl⟩⟩:=ag;rw [LA aG bj aJ] at hT;have cR:=hT.len;simp only [bD,di] at cR;have bZ:=hT.right;have bg: ∀ {bx:Y},bL bx N->bo λad n=> ∀r∈bx,l9 r ad n:=λE=>dE λr ag=>Jn (E.g_ ag).1 (by have:=(E.g_ ag).2;omega);obtain ⟨dc,bb⟩:=dE (l:=bu) (Q:=λe ad n=>l9 (dd e) ad n/\ ∀aC H f,Tidy H->F aC (cu e)->ec 9 H f-> ∃v,oB (λ_=>True) v/\ ∀tm,az G (X G R ad n) 151 [f,aC] H tm= .ok v tm H) λe bn=>by obtain ⟨h,bV⟩:=bg (hT.left.one (cd.2 ⟨e,bn,rfl⟩));have Z:=bZ.left.left.flat (cd.2 ⟨e,bn,rfl⟩);have:=Z.len;obtain ⟨bP,af⟩:=y_ (cu e) Z.wt ab (bg Z);exact ⟨h+bP,λad n cw cx=>⟨ah,λaC H f=>af ad n ab ab aC H f⟩⟩
 obtain ⟨de,bc⟩:=y_ c7 cP ab (bg bZ.left.right);obtain ⟨df,cM⟩:=dE (l:=cf) (Q:=λe ad n=> ∀aC H f,Tidy H->F aC (cC e)->ec 9 H f-> ∃v,oB (λ_=>True) v/\ ∀tm,az G (X G R ad n) 151 [f,aC] H tm= .ok v tm H) λe bn=>by have Z:=bZ.right.flat (cd.2 ⟨e,bn,rfl⟩);have:=Z.len;obtain ⟨bP,af⟩:=y_ (cC e) Z.wt ab (bg Z);exact ⟨bP,ab⟩
 refine ⟨dc+de+df+1048580,λad n dN dO H f S s=> ?_⟩;obtain ⟨n,rfl⟩:=bY n;obtain ⟨T,cU,aw⟩:=bc ad n ab ab L H f S bj s;obtain ⟨dr,b7,ds,br⟩:=cU.aI;have bR:=λtm=>s.call ad n ab ab H (U.refl _) S h q tm ct.1 ct.2
 suffices dU: ∃v,(∃aB,v= .agg aB/\(aB.length=7/\ ∀v∈aB,J v=true/\D 20 v=true))/\ ∀tm,az G (X G R ad (n+1)) 152 [f,.agg [.str h q,bt,L,a,bT,.int .i64 w,.int .i64 z]] H tm= .ok v tm H by grind
 refine hg (aL.at (m:=95) rfl rfl rfl rfl rfl (by simp only [aO,s.nl];rfl) rfl rfl ?_);refine ak.bM (λtm o=>H=o/\aM 97 [(0,f),(3,.W 0 [.str h q,bt,L,a,bT,.int .i64 w,.int .i64 z]),(4,.W 0 [.str 0 0,.V,.V,.V,.V,.int .i64 0,.int .i64 0]),(5,.av [])] tm) ?_ ?_
 . simp only [go_sem,aG.J,bj.J,aJ.J,aX.J];exact an.mk ⟨rfl,dC⟩
 rintro tm _ ⟨rfl,hF⟩;refine ak.kp [0,3,4] (λK tm o=>H=o/\M tm 5= .W 0 [.str h q,.V,T,.V,.V,.int .i64 w,.int .i64 z]/\K tm) ?_ ?_
 . simp only [go_sem,hF,bj.O,s.op,bR,aw,dr,b7,ds];exact an.mk ⟨rfl,ay⟩
 clear hF;rintro tm _ ⟨rfl,hF⟩;refine ak.kp [0,3,4] (λK tm o=> ∃p,hi 85 11 H o p bu.length/\M tm 5= .W 0 [.str h q,p,T,.V,.V,.int .i64 w,.int .i64 z]/\K tm) ?_ ?_
 . simp only [go_sem,hF,aG.O,aG.len];generalize cl:a1 _ _ _ _ _ _ _ _ _ _=aP;revert aP;refine cv [0,3,4,26] (λd=> [(5,.W 0 [.str h q,d.1,T,.V,.V,.int .i64 w,.int .i64 z])]) (λd=>d.2) (λae d=>hi 85 11 H d.2 d.1 ae) bu.length (.V,H) (hi.new _ _ H S) ?_ ?_
   . rintro ae ⟨p,g⟩ tm aY c hF;simp only at c hF|-;obtain ⟨e,aj⟩:=bA aY;have a7:=aV aj;have aU:Tidy g/\U H g:=by obtain ⟨aK,-,-,-,bO,bQ⟩:=c;grind
     obtain ⟨ax,P⟩:=aU;obtain ⟨bV,af⟩:=bb ad n ab ab e a7;obtain ⟨dF,dH,dD,cE,bG,bI,rfl,⟨bC,bJ,rfl,b1⟩,⟨bE,bK,rfl,b3⟩,bW,⟨dT,bp,dS,-⟩,⟨bG,rfl⟩,⟨bI,rfl⟩⟩:=cS e a7;rw [zy bW.len] at bV;rw [zz bW.len,bm bp] at af;obtain ⟨cg,ck,cL⟩:=bV g f ax (s.up P);obtain ⟨bz,bk,bU⟩:=af cE g f ax bp (s.up P);obtain ⟨b8,bw,b9,cz⟩:=bk.aI;obtain ⟨du,c4,c5,c6⟩:=id bk;have cr:=lG.row (r:= [.str bC bJ,.str bE bK]++cg++ [bz,.int .i64 bG,.int .i64 bI]) ⟨_,_,cg,_,_,_,rfl,⟨_,_,rfl,b1⟩,⟨_,_,rfl,b3⟩,ck,⟨du,c4,λr ag=>(c5 r ag).1,c6⟩,⟨_,rfl⟩,⟨_,rfl⟩⟩;have bf:=xx cr g;obtain ⟨ao,B,aF,u⟩:=c.app (t:=61) (b:=168) (i:=t85) aq aq rfl rfl al al cr ab;have bR:=λtm=>s.call ad n ab ab g P ax bC bJ tm b1.1 b1.2;have cF:=λtm=>s.call ad n ab ab g P ax bE bK tm b3.1 b3.2;obtain ⟨dg,dn,c0,c1,c2,c3,dy,aK,dW,dV,rfl,cX,cW⟩:=bW.t;obtain ⟨dh,dp,c8,c9,da,db,dz,dA,dX,dY,rfl,cY,cZ⟩:=ck.t;simp only [bl,a6] at aj bf aF;have dB:True:=trivial;refine au.bM (λtm o=>g=o/\ ∃ca,aM 97 [(28,.int .i64 (ae:Nat)),(27,.int .i64 (bu.length:Nat)),(0,f),(3,.W 0 [.str h q,bt,L,a,bT,.int .i64 w,.int .i64 z]),(4,.W 0 [.str 0 0,.V,.V,.V,.V,.int .i64 0,.int .i64 0]),(5,.W 0 [.str h q,p,T,.V,.V,.int .i64 w,.int .i64 z]),(26,bt),(7,.W ca [.str bC bJ,.str bE bK,.int .i64 dg,.int .i64 dn,.str c0 c1,.str c2 c3,dy,aK,cE,.int .i64 bG,.int .i64 bI])] tm) ?_ ?_
     . simp only [go_sem,hF,aG.O,aG.a_ (k:=11) aj rfl,cX.J,cW.J,bp.J];exact an.mk ⟨rfl,_,by simp only [go_sem,hF];trivial⟩
     clear hF;rintro tm _ ⟨rfl,ca,hF⟩;refine au.bF hF (λK tm o=>g=o/\K tm) ?_ ?_
     . simp only [go_sem,hF];refine an.aE ?_ ?_<;>intro aT<;>simp only [go_sem,hF,aT,s.op,cF]
       all_goals exact an.mk ⟨rfl,ay⟩
     clear hF;rintro tm _ ⟨rfl,hF⟩;refine au.kp [28,27,0,3,4,5,26] (λK tm o=>g=o/\M tm 7= .W ca [.str bC bJ,.str bE bK,.int .i64 dh,.int .i64 dp,.str c8 c9,.str da db,dz,dA,bz,.int .i64 bG,.int .i64 bI]/\K tm) ?_ ?_
     . simp only [go_sem,hF,s.op,bR,bp.O,cL,bU,b8,bw,b9,cY.J,cZ.J];exact an.mk ⟨rfl,ay⟩
     clear hF;rintro tm _ ⟨rfl,hF⟩;simp only [go_sem,hF,c.O,u.ok.2,u.ok.1,bf,bH,aF,u.O];exact au.next (ao,B) rfl u ay
   . rintro ⟨p,g⟩ tm c hF;simp only at c hF;simp only [go_sem];exact an.mk ah
 clear hF;rintro tm g ⟨p,cm,hF⟩;obtain ⟨cD,b6,dx,ed,ax,P⟩:=id cm;refine ak.kp [0,3,4] (λK tm o=> ∃I,hi 114 1 g o I cf.length/\M tm 5= .W 0 [.str h q,p,T,I,.V,.int .i64 w,.int .i64 z]/\K tm) ?_ ?_
 . simp only [go_sem,hF,aJ.O,aJ.len];generalize cl:a1 _ _ _ _ _ _ _ _ _ _=aP;revert aP;refine cv [0,3,4,63] (λd=> [(5,.W 0 [.str h q,p,T,d.1,.V,.int .i64 w,.int .i64 z])]) (λd=>d.2) (λae d=>hi 114 1 g d.2 d.1 ae) cf.length (.V,g) (hi.new _ _ g ax) ?_ ?_
   . rintro ae ⟨I,B⟩ tm aY c hF;simp only at c hF|-;obtain ⟨e,aj⟩:=bA aY;have a7:=aV aj;have aU:Tidy B/\U g B:=by obtain ⟨aK,-,-,-,bO,bQ⟩:=c;grind
     obtain ⟨aW,aA⟩:=aU;have af:=cM ad n ab ab e a7;obtain ⟨ch,rfl,⟨cH,bh,dK,dJ⟩⟩:=cV e a7;rw [show cC [ch]=cH from bm bh] at af;obtain ⟨bz,bk,bU⟩:=af ch B f aW bh ((s.up P).up aA);obtain ⟨b8,bw,b9,cz⟩:=bk.aI;have bf:=O3 ⟨bw,cz 19⟩ B;obtain ⟨ao,C,aF,u⟩:=c.app (t:=62) (b:=24) (i:=t114) aq aq rfl rfl al al (r:= [bz]) ⟨rfl,ah⟩ ab;simp only [go_sem,hF,aJ.O,aJ.a_ (k:=1) aj rfl,bh.J,bh.O,s.op,bU,b8,bw,b9,bf,bH,c.O,aF,u.O,u.ok.2,u.ok.1];exact au.next (ao,C) rfl u ay
   . rintro ⟨I,B⟩ tm c hF;simp only at c hF;simp only [go_sem];exact an.mk ah
 clear hF;rintro tm B ⟨I,cn,hF⟩;obtain ⟨cB,b5,dw,eb,aW,aA⟩:=id cn;refine ak.kp [0,4] (λK tm o=> ∃j,gw B o j cj.length/\M tm 5= .W 0 [.str h q,p,T,I,j,.int .i64 w,.int .i64 z]/\K tm) ?_ ?_
 . simp only [go_sem,hF,aX.O,aX.len];generalize cl:a1 _ _ _ _ _ _ _ _ _ _=aP;revert aP;refine cv [0,4,81] (λd=> [(5,.W 0 [.str h q,p,T,I,d.1,.int .i64 w,.int .i64 z])]) (λd=>d.2) (λae d=>gw B d.2 d.1 ae) cj.length (.V,B) ⟨[],bd.nil,λ_ E=>(by cases E),ai,aW,U.refl _⟩ ?_ ?_
   . rintro ae ⟨j,C⟩ tm aY c hF;simp only at c hF|-;obtain ⟨e,aj⟩:=bA aY;have aU:Tidy C/\U B C:=by obtain ⟨aK,-,-,-,bO,bQ⟩:=c;grind
     obtain ⟨bX,a8⟩:=aU;obtain ⟨aN,cb,rfl,b0⟩:=cO e ah;have cG:=λtm=>s.call ad n ab ab C (P.trans (aA.trans a8)) bX aN cb tm b0.1 b0.2;obtain ⟨ao,bN,aF,u⟩:=c.app (x:= .A [[.str aN cb]] true) (aQ:= [[.str aN cb]]) (.inl (.inr ⟨_,rfl⟩)) (λr ag=>by rw [bs.1 ag];exact ⟨_,_,rfl,b0⟩) ah;obtain ⟨cw,cx⟩:ao.cells= [ao]/\J ao=true:=by obtain ⟨aK,E,-⟩:=u;exact E.cells
     obtain ⟨dt,cy⟩:j.cells= [j]/\J j=true:=by obtain ⟨aK,E,-⟩:=c;exact E.cells
     simp only [go_sem,hF,aX.O,aX.a_ (k:=1) aj rfl,s.op,cG,c.O,aF,u.O,cw,cx];exact au.next (ao,bN) rfl u ay
   . rintro ⟨j,C⟩ tm c hF;simp only at c hF;simp only [go_sem];exact an.mk ah
 clear hF;rintro tm C ⟨j,cN,hF⟩;obtain ⟨cA,bq,dv,ea,bX,a8⟩:=id cN;have dm:bd H.n 85 11 cD.length C cD p:=b6.at λid dq _ aT=>a8.get aW.1 (aA.get ax.1 aT);have dk:bd H.n 114 1 cB.length C cB I:=(b5.at λid dq _ aT=>a8.get aW.1 aT).mono P.n ab;have dj:bd H.n 9 1 cA.length C cA j:=bq.mono (eT P.n aA.n) ab;have cI:cc p I:=λid aS aw=>by have bb:=b6.lt aS;have bc:=b5.ge aw;omega
 have cJ:cc p j:=λid aS aw=>by have bb:=b6.lt aS;have bc:=bq.ge aw;have:=aA.n;omega
 have cK:cc I j:=λid aS aw=>by have bb:=b5.lt aS;have bc:=bq.ge aw;omega
 have bS: ∀ {v a:aa} {ar:Nat},D (ar+1) v=true->cc v a:=λE id aR=>by rw [vi E] at aR;cases aR
 have aD: ∀ {v a:aa} {ar:Nat},D (ar+1) a=true->cc v a:=λE id _ aR=>by rw [vi E] at aR;cases aR
 obtain ⟨bB,bN,dI,dQ,cT,cq,Z⟩:=Ey 48 al H (λv a=>J a=true/\ ∀ar,D (ar+1) a=true) [.str h q,p,T,I,j,.int .i64 w,.int .i64 z] C bX (P.trans (aA.trans a8)) (λv aH=>by
  have aN: ∀ {bx a},F a bx->J a=true/\ ∀ar,D (ar+1) a=true:=λL=>⟨L.J,L.aI⟩;simp only [b2,dG,or_false] at aH;rcases aH with rfl|rfl|rfl|rfl|rfl|rfl|rfl
  . exact .inl ⟨rfl,rfl,λ_=>rfl⟩
  . exact .inr ⟨_,_,_,_,al,dx,dm,λa L=>aN L⟩
  . exact .inl ⟨br 48,b7,br⟩
  . exact .inr ⟨_,_,_,_,al,dw,dk,λa L=>aN L⟩
  . exact .inr ⟨_,_,_,_,al,dv.rows,dj,ah⟩
  . exact .inl ⟨rfl,rfl,λ_=>rfl⟩
  . exact .inl ⟨rfl,rfl,λ_=>rfl⟩) (by
  simp only [hq,b2,dG,or_false,List.Pairwise.nil,and_true];refine ⟨λa _=> @bS _ _ 0 rfl,λa S=> ?_,λa _=>bS (br 0),λa S=> ?_,λa S=> ?_,λa _=> @bS _ _ 0 rfl,ai⟩
  . rcases S with rfl|rfl|rfl|rfl|rfl
    . exact aD (br 0)
    . exact cI
    . exact cJ
    . exact @aD _ _ 0 rfl
    . exact @aD _ _ 0 rfl
  . rcases S with rfl|rfl|rfl
    . exact cK
    . exact @aD _ _ 0 rfl
    . exact @aD _ _ 0 rfl
  . rcases S with rfl|rfl<;>exact @aD _ _ 0 rfl)
 obtain ⟨dt,cy⟩:j.cells= [j]/\J j=true:=bq.cells;simp only [go_sem,hF,b7,cm.ok.2,cn.ok.2,cy];refine .inl ⟨.agg bB,⟨bB,rfl,cq,λv aH=> ?_⟩,.agg [.str h q,p,T,I,j,.int .i64 w,.int .i64 z],C,bN,rfl,?_,gV S cT ?_⟩
 . obtain ⟨b4,cp⟩:=jo aH
   grind
 . show aZ (49+1) _ _=_;rw [aZ]
   simp_all
 . show bB.all (y H.n 19)=true;refine ba.2 λv aH=> ?_;obtain ⟨b4,cp⟩:=jo aH;have cQ:b4<bB.length:=ah;have:=Z b4 _ v (lj (by rw [<-cq];exact cQ)) cp;exact fR H.n 19 19 v ab (this.2 18)
def gB (x:aa) (rows:Y):aa:=match x,rows with
 | .V,_=> .V
 |_,[]=> .A [] true
 |_,_::_=> .A rows false
def xH {x rows} (a:F x rows):F (gB x rows) rows:=by
 rcases a with ⟨rfl,rfl⟩|⟨b,rfl⟩
 . exact .inl ⟨rfl,rfl⟩
 . cases rows with
   |nil=>exact .inr ⟨_,rfl⟩
   |cons=>exact .inr ⟨_,rfl⟩
structure ei (el k:Nat) (a7 H:af) (v x:aa) (rows:Y):Prop where
  tidy:Tidy H
  up:U a7 H
  alt:(rows= []/\v=gB x []/\cW v=none)\/(x≠ .V/\rows≠ []/\P el k a7 H v rows)
section
variable {el k:Nat} {a7 H:af} {v x:aa} {rows:Y}
theorem Bs (x):gB x []= .V\/gB x []= .A [] true:=by cases x<;>first|exact .inl rfl|exact .inr rfl
theorem ei.cw (a:ei el k a7 H v x rows):cG H k v rows:=by
 rcases a.alt with ⟨rfl,rfl,-⟩|⟨-,-,a⟩
 . rcases Bs x with b|b<;>rw [b]
   . exact .inl (.inl ⟨rfl,rfl⟩)
   . exact .inl (.inr ⟨_,rfl⟩)
 . exact a.cw
theorem ei.facts (a:ei el k a7 H v x rows):(∀t,O t v=v)/\J v=true/\v.cells= [v]/\aD v=true:=by
 rcases a.alt with ⟨rfl,rfl,-⟩|⟨-,-,a⟩
 . rcases Bs x with b|b<;>rw [b]<;>exact ⟨λ_=>rfl,rfl,rfl,rfl⟩
 . exact ⟨a.O,a.ok,a.cs,a.nl⟩
theorem ei.at (a:ei el k a7 H v x rows) {H':af} (b:Tidy H') (ik:U H H'):ei el k a7 H' v x rows:=
 ⟨b,a.up.trans ik,a.alt.imp id λ⟨c,d,e⟩=>⟨c,d,e.at b ik⟩⟩
theorem ei.mono {b:af} (a:ei el k a7 H v x rows) (ik:U b a7):ei el k b H v x rows:=⟨a.tidy,ik.trans a.up,a.alt.imp id λ⟨c,d,e⟩=>⟨c,d,e.mono ik⟩⟩
theorem ei.bS (e:ei el k a7 H v x rows) {H':af} (b:Tidy H') (ik:U a7 H') (g: ∀id o,H.get id=some o->cW v=some id->H'.get id=some o):ei el k a7 H' v x rows:=
 ⟨b,ik,e.alt.imp id λ⟨c,d,a⟩=>⟨c,d,a.W.at ah,a.rw,b,ik,a.ex⟩⟩
theorem ei.gc {a:af} {w:aa} (b:ei el k a7 H v x rows) (c:Tidy a) (ik:U a a7) {d:Nat} (h:y a.n 20 w=true->y a.n (d+1) v=true):ei el k a (gc a.n w H) v x rows:=by
 rcases b.alt with ⟨rfl,rfl,l⟩|⟨i,j,g⟩
 . have:Tidy (gc a.n w H)/\U a (gc a.n w H):=by
    rcases H9 c (ik.trans b.up) w with e|⟨e,-⟩<;>rw [e]
    . exact ⟨b.tidy,ik.trans b.up⟩
    . exact ⟨c,U.refl _⟩
   exact ⟨this.1,this.2,ah⟩
 . have:=g.gc c ik h;exact ⟨this.tidy,this.up,ah⟩
theorem ei.aZ (d:Nat) (h:20<=d) (aj6:0<k) (i:F x rows) (e:ei el k a7 H v x rows): ∃a,Go.aj.aZ (d+1) v H=some (gB x rows,a)/\Tidy a/\(∀c,c.n<=a7.n->U c H->U c a)/\(∀id o,H.get id=some o->cW v≠some id->a.get id=some o):=by
 rcases e.alt with ⟨rfl,rfl,-⟩|⟨l,m,g⟩
 . rcases Bs x with b|b<;>rw [b]<;>exact ⟨H,rfl,e.tidy,ai,ah⟩
 . have b:gB x rows=dk rows:=by
    rcases i with ⟨rfl,-⟩|⟨j,rfl⟩
    . grind
    . cases rows with
      |nil=>grind
      |cons=>rfl
   rw [b];exact g.aZ d h aj6
theorem ei.ge (b:ei el k a7 H v x rows) {id:Nat} (e:cW v=some id):a7.n<=id/\id<H.n:=by
 rcases b.alt with ⟨rfl,rfl,c⟩|⟨-,-,a⟩
 . grind
 . exact ⟨a.W.ge e,a.W.lt e⟩
end
@[go_sem] theorem akl (H):cT G 22 0 [] H=some (.A [] true,H)/\cT G 48 0 [] H=some (.A [] true,H)/\cT G 50 0 [] H=some (.A [] true,H):=by and_intros<;>kernel_rfl
section
variable {f t el k:Nat} {ti:TypeInfo} (ik:aW G t=some (.slice el)) (hT:G.T el=some ti) (aj7:ti.size=k) (aj6:0<k) (fP:ti.bytes<=32)
include ik hT aj7 aj6 fP
theorem akj {H:af} {x:aa} {rows:Y} (p:Tidy H) (h:F x rows) (b:Rows k rows) (r:rows.length<1048560) (o:rows≠ []): ∃d H',cI G t t (.A [] true) x H=some (d,H')/\P el k H H' d rows:=by
 obtain ⟨d,H',a,g,e⟩:=bd.app (c:=0) (n0:=H.n) (H:=H) (rows:= []) (aQ:=rows) (v:= .A [] true) (x:=x) ik hT aj7 rfl aj6 ab (.inr (.inl rfl)) p ab (λq b=>by cases b) (dR h b.len) b (by have l:(([]:Y).length+rows.length)<=1048560:=ah;have m:ti.bytes+1<=33:=ab;exact eT (kF l m) (by unfold b7;omega)) ab;rw [gH,a6] at g;refine ⟨d,H',a,⟨g,b,e.tidy,e.up H ab (U.refl _),.inr ⟨o,?_⟩⟩⟩;have i:hx G el k (.slice el) x H=some (rows.flatten,rows.length):=dR h b.len;unfold cI at a;subst aj7;simp only [ik,hT,i] at a;split at a
 rotate_left
 . cases a
 cases rows with
 |nil=>grind
 | cons q s=>
   simp only [cl,b.ok,if_true,bu,dn,c8] at a;split at a
   . simp only [N,bz] at a;rw [<-a.1];exact λj=>by cases j
   grind
theorem akc (i:(f,t)∈ [(101,22),(285,48),(286,50)]) {ad n:Nat} {x:aa} {rows:Y} {H:af} (b:Tidy H) (j:F x rows) (o:Rows k rows) (l:rows.length<1048560):
  ∃v H',ei el k H H' v x rows/\ ∀tm,az G (X G R ad (n+1)) f [x] H tm= .ok v tm H':=by
 simp only [b2,bz,dG,or_false] at i;rcases i with ⟨rfl,rfl⟩|⟨rfl,rfl⟩|⟨rfl,rfl⟩
 all_goals
  refine bn.at (m:=7) rfl rfl rfl rfl rfl (by simp only [aO,j.aD];rfl) rfl rfl ?_;rcases j with ⟨rfl,rfl⟩|⟨a,rfl⟩
  . simp only [go_sem];refine bn.mk ?_;rw [ft ab];exact ⟨b,U.refl _,.inl ⟨rfl,rfl,rfl⟩⟩
  . have g:b4 G .eql 22 (.A rows a) .V=some (.bool false)/\b4 G .eql 48 (.A rows a) .V=some (.bool false)/\b4 G .eql 50 (.A rows a) .V=some (.bool false):=by and_intros<;>kernel_rfl
    cases h:rows with
    | nil=>
      subst h;have c:cI G 22 22 (.A [] true) (.A [] a) H=some (.A [] true,H)/\cI G 48 48 (.A [] true) (.A [] a) H=some (.A [] true,H)/\cI G 50 50 (.A [] true) (.A [] a) H=some (.A [] true,H):=by cases a<;>and_intros<;>kernel_rfl
      simp only [go_sem,g,c,bH];refine bn.mk ?_;rw [ft ab];exact ⟨b,U.refl _,.inl ⟨rfl,rfl,rfl⟩⟩
    | cons r q=>
      rw [<-h];obtain ⟨p,H',c,e⟩:=akj ik hT aj7 aj6 fP b (x:= .A rows a) (.inr ⟨a,rfl⟩) o l ah;simp only [go_sem,g,c,bH,e.O,e.nl,dX,if_true];refine bn.mk ?_;have:=e.gc b (U.refl _) (v:=p) (d:=19) id;exact ⟨this.tidy,this.up,ah⟩
end
def I5:= @akc 101 22 9 1 t9 aq aq rfl al al al
def Ui:= @akc 285 48 88 2 t88 aq aq rfl al al al
def Ug:= @akc 286 50 3 1 t3 aq aq rfl al al al
def EL {l:Y} (b: ∀r∈l,gd r):Rows 2 l:=λr c=>by
 obtain ⟨d,e,g,h,rfl,-⟩:=b r c;exact ⟨rfl,λv a=>by simp only [b2,dG,or_false] at a;rcases a with rfl|rfl<;>exact ⟨rfl,rfl⟩⟩
def Zs {l:Y} (a: ∀r∈l,∃i,r= [.int .i64 i]):Rows 1 l:=λr b=>by
 obtain ⟨d,rfl⟩:=a r b;exact ⟨rfl,λv c=>by rw [bs.1 c];exact ⟨rfl,rfl⟩⟩
def Uh {ad n:Nat} {l m ls ms:Nat} {a p s:aa} {i j:Int} {r u rs:Y} {H:af} (q:Tidy H) (z:F a r) (B:F p u) (C:F s rs) (P:Rows 1 r) (Q:Rows 2 u) (S:Rows 1 rs) (T:r.length<1048560) (V:u.length<1048560) (W:rs.length<1048560):
    ∃w H',(∃b c s',w= .agg [.str l m,b,.str ls ms,c,.int .i64 i,.int .i64 j,s']/\ei 9 1 H H' b a r/\ei 88 2 H H' c p u/\ei 3 1 H H' s' s rs/\cc b c/\cc b s'/\cc c s')/\ ∀tm,az G (X G R ad (n+1+1)) 224 [.agg [.str l m,a,.str ls ms,p,.int .i64 i,.int .i64 j,s]] H tm= .ok w tm H':=by
 obtain ⟨b,an,e,L⟩:=I5 (ad:=ad) (n:=n) q z P T;obtain ⟨c,ao,g,M⟩:=Ui (ad:=ad) (n:=n) e.tidy B Q V;obtain ⟨s',aq,d,N⟩:=Ug (ad:=ad) (n:=n) g.tidy C S W;obtain ⟨Z,ab,ae,au⟩:=e.facts;obtain ⟨ag,ah,ai,av⟩:=g.facts;obtain ⟨aj,ak,al,aw⟩:=d.facts;refine bn.at (m:=15) rfl rfl rfl rfl rfl rfl rfl rfl ?_;simp only [go_sem,z.O,z.J,B.O,B.J,C.O,C.J,L,M,N,Z,ab,ae,ag,ah,ai,aj,ak,al];have A: ∀ {h},(h=b\/h=c\/h=s')->y H.n 20 (.agg [.str l m,b,.str ls ms,c,.int .i64 i,.int .i64 j,s'])=true->y H.n (18+1) h=true:=λ{h} ar E=>by
  have E: [.str l m,b,.str ls ms,c,.int .i64 i,.int .i64 j,s'].all (y H.n 19)=true:=E
  grind
 have I:=e.up;have D:=g.up;have K:=d.up;refine bn.mk ⟨b,c,s',rfl,(e.at d.tidy (D.trans K)).gc q (U.refl _) (A (.inl rfl)),(g.at d.tidy K).gc q I (A (.inr (.inl rfl))),d.gc q (I.trans D) (A (.inr (.inr rfl))),λid x o=> ?_,λid x o=> ?_,λid x o=> ?_⟩
 . have:=(e.ge x).2;have:=(g.ge o).1;omega
 . have:=(e.ge x).2;have:=(d.ge o).1;have:=D.n;omega
 . have:=(g.ge x).2;have:=(d.ge o).1;omega
def Jp (N:Nat) (hN:N<900000):bo λad n=> ∀x rows H fv,b8 rows->rows.length<=N->Tidy H->cG H 1 x rows->ec 9 H fv->
    ∃v H',P 9 1 H H' v rows/\ ∀tm,az G (X G R ad n) 222 [x,fv] H tm= .ok v tm H':=by
 refine ⟨N+20,λad n Y ae x rows H fv p Z l e j=> ?_⟩;obtain ⟨n,rfl⟩:=bY n;refine bn.at (m:=20) rfl rfl rfl rfl rfl (by simp only [aO,e.aD,j.nl];rfl) rfl rfl ?_;simp only [go_sem,e.O,e.len];generalize T:a1 _ _ _ _ _ _ _ _ _ _=u;revert u;have hF:=trivial;refine cv [1,8] (λc=> [(5,c.1)]) (λc=>c.2) (λr c=>P 9 1 H c.2 c.1 (rows.take r)) rows.length (.V,H) (P.new _ _ l) ?_ ?_
 . rintro r ⟨v,o⟩ tm B a hF;simp only at a hF|-;obtain ⟨Q,k⟩:=bA B;have C:=aV k;obtain ⟨ag,D,F,af,I⟩:=(e.up l.1 a.up).at p.len k;obtain ⟨f,g,rfl,M,z⟩:=p Q C;have J:=I _ rfl;have y:=j.call ad n ab ab o a.up a.tidy f g;have q:Rows 1 [[aa.str f g]]:=λah K=>by rw [bs.1 K];exact ⟨rfl,λv L=>by rw [bs.1 L];exact ⟨rfl,rfl⟩⟩
   obtain ⟨S,s,w,h,W⟩:=a.app (E:=G) (t:=22) (b:=16) (i:=t9) oe nI rfl rfl al al (x:= .A [[.str f g]] true) (aQ:= [[.str f g]]) (dR (.inr ⟨_,rfl⟩) q.len) q (by rw [h6];show _+1<_;omega);rw [<-od k] at h;simp only [go_sem,hF,e.O,D,F,J,j.op,a.O,y _ M z,bH,w,h.O];exact au.next (S,s) rfl h ay
 . rintro ⟨v,o⟩ tm a hF;simp only at a hF;rw [bX] at a;simp only [go_sem,hF,a.O,a.nl,dX,if_true];exact bn.mk (a.gc l (U.refl _) (d:=19) id)
@[go_sem] theorem ZP (f):f_ (some (.fn (.func f) [] [])) (some (.fn (.func f) [] []))=true:=by simp [f_,cN,eu]
@[go_sem] theorem LV (f a b c d):f_ (some (.fn (.func f) [] [.ptr a b c d])) (some (.fn (.func f) [] [.ptr a b c d]))=true:=by simp [f_,cN,eu]
def Yw {a H:af} {v w e p s' s:aa} {rows o h rs:Y} {l m ls ms:Nat} {i j:Int} (g:P 52 7 a H v rows) (y:P 9 1 a H w o) (B:ei 88 2 a H e p h) (C:ei 3 1 a H s' s rs)
    (M:cc v w) (d2:cc v e) (N:cc v s') (O:cc w e) (Q:cc w s') (R:cc e s') (V:F p h) (W:F s rs):
    ∃H',cT G 24 1 [(0,.agg [.str l m,w,.str ls ms,e,.int .i64 i,.int .i64 j,s'])] H=some (.A [[.str l m,dk o,.str ls ms,gB p h,.int .i64 i,.int .i64 j,gB s rs]] true,H')/\P 52 7 a H' v rows:=by
 obtain ⟨ao,S,q,r,n⟩:=y.aZ 49 al al;have u:=g.bS q (r a ab g.up) λid d c b=>n id d c (M id b);have Z:=B.bS q (r a ab g.up) λid d c b=>n id d c (λf=>O id f b);have ag:=C.bS q (r a ab g.up) λid d c b=>n id d c (λf=>Q id f b);obtain ⟨ar,f,I,K,D⟩:=Z.aZ 49 al al V;have L:=u.bS I (K a ab u.up) λid d c b=>D id d c (d2 id b);have ah:=ag.bS I (K a ab u.up) λid d c b=>D id d c (λf=>R id f b);obtain ⟨x,T,aj,ak,X⟩:=ah.aZ 49 al al W;have an:=L.bS aj (ak a ab L.up) λid d c b=>X id d c (N id b);refine ⟨x,?_,an⟩;have ok: ∀v∈ [aa.agg [.str l m,w,.str ls ms,e,.int .i64 i,.int .i64 j,s']],v.cells.length=7/\v.cells.all J=true:=λv g=>by rw [bs.1 g];refine ⟨rfl,?_⟩;show [aa.str l m,w,.str ls ms,e,.int .i64 i,.int .i64 j,s'].all J=true;simp only [aO,jm,y.ok,B.facts.2.1,C.facts.2.1];rfl
 have U:cD (aZ bR) ([aa.agg [.str l m,w,.str ls ms,e,.int .i64 i,.int .i64 j,s']].flatMap aa.cells) H=some ([.str l m,dk o,.str ls ms,gB p h,.int .i64 i,.int .i64 j,gB s rs],x):=by show cD (aZ (49+1)) [.str l m,w,.str ls ms,e,.int .i64 i,.int .i64 j,s'] H=_;have ad: ∀l m H,aZ (49+1) (.str l m) H=some (.str l m,H):=λ_ _ _=>rfl;have ae: ∀i H,aZ (49+1) (.int .i64 i) H=some (.int .i64 i,H):=λ_ _=>rfl;simp only [cD,ad,ae,S,f,T]
 exact A5 (E:=G) (t:=24) (el:=52) (k:=7) (z:= .agg Aq) aq aq aq al rfl [.agg [.str l m,w,.str ls ms,e,.int .i64 i,.int .i64 j,s']] ok ai U
def ct:List aa->List aa
 | [g,c,h,a,d,e,b]=> [g,dk (f c),h,gB a (f a),d,e,gB b (f b)]
 |r=>r
def nk (r:List aa):Prop:= ∀c e a d f b,fB r c e a d f b->a.length<800000/\b.length<800000
def Jw (rows:Y) (cu: ∀r∈rows,c6 r) (cx: ∀r∈rows,nk r) (dh:rows.length<800000):bo λad n=> ∀x H aF ao aA ai bb aB aj bc aC ak bd,Tidy H->F x rows->ec 9 H aF->ec 9 H ao->f_ (some aF) (some aF)=true->f_ (some ao) (some ao)=true->
    H.get aA=some (.cells ai bb 0 [aF])->bb<=ai->H.get aB=some (.cells aj bc 0 [.fn (.func 222) [] []])->bc<=aj->H.get aC=some (.cells ak bd 0 [ao])->bd<=ak->
    ∃v H',P 52 7 H H' v (rows.map ct)/\ ∀tm,az G (X G R ad n) 223 [x,.ptr aA ai 0 1,.ptr aB aj 0 1,.ptr aC ak 0 1] H tm= .ok v tm H':=by
 obtain ⟨bQ,cl⟩:=Jp 800000 al;refine ⟨bQ+1048580,λad n dg dm x H aF ao aA ai bb aB aj bc aC ak bd ar aJ bP aK dv cL cJ cC cK cD bV bU=> ?_⟩;obtain ⟨n,rfl⟩: ∃cF,n=cF+1+1+1:=⟨n-3,ab⟩;refine bn.at (m:=58) rfl rfl rfl rfl rfl (by simp only [aO,aJ.aD];rfl) rfl rfl ?_;simp only [go_sem,aJ.O,aJ.len];generalize cm:a1 _ _ _ _ _ _ _ _ _ _=ba;revert ba;have hF:=trivial;refine cv [1,2,3,11] (λc=> [(6,c.1)]) (λc=>c.2) (λQ c=>P 52 7 H c.2 c.1 ((rows.map ct).take Q)) rows.length (.V,H) (P.new _ _ ar) ?_ ?_
 . rintro Q ⟨v,bB⟩ tm df a hF;simp only at a hF|-;obtain ⟨r,bq⟩: ∃r,rows[Q]? =some r:=de;have bL:=aV bq;obtain ⟨o,q,S,p,s,aR,D⟩:=cu r bL;obtain ⟨dt,du⟩:=cx r bL _ _ _ _ _ _ D;obtain ⟨bC,I,c,u,w,rfl,bp,aH,g,aG,ds,br⟩:=D.eq;have bh:=a.up.get ar.1 cJ;have bj:=a.up.get ar.1 cK;have aU:=a.up.get ar.1 bV;refine au.kp [13,12,1,2,3,11] (λax tm H'=>bB=H'/\ ∃aP,M tm 6=v/\M tm 8= .W aP [.str o q,bC,.str p s,I,.int .i64 u,.int .i64 w,c]/\ax tm) ?_ ?_
   . simp only [go_sem,hF,aJ.O,aJ.a_ (k:=7) bq rfl,bp.J,aG.J,aH.J];exact an.mk ⟨rfl,_,by simp only [go_sem,hF];trivial⟩
   clear hF;rintro tm _ ⟨rfl,aP,hF⟩;obtain ⟨_,a7,⟨bD,y,T,rfl,h,B,L,c4,c7,bG⟩,b8⟩:=Uh (ad:=ad) (n:=n) (l:=o) (m:=q) (ls:=p) (ms:=s) (i:=u) (j:=w) a.tidy bp aG aH D.hS.rows (EL br) (Zs D.rs) ab ab ab;obtain ⟨cb,cd,c8,c9⟩:=h.facts;obtain ⟨cf,cg,db,dc⟩:=B.facts;obtain ⟨dw,cM,dx,dy⟩:=L.facts;refine au.kp [13,12,1,2,3,6,11] (λax tm H'=>a7=H'/\M tm 8= .W aP [.str o q,bD,.str p s,y,.int .i64 u,.int .i64 w,T]/\ax tm) ?_ ?_
   . simp only [go_sem,hF,b8,cd,cg,cM];exact an.mk ⟨rfl,ay⟩
   clear hF;rintro tm _ ⟨rfl,hF⟩;have bh:=h.up.get a.tidy.1 bh;have bj:=h.up.get a.tidy.1 bj;have aU:=h.up.get a.tidy.1 aU;have aX:=a.up.trans h.up;obtain ⟨Z,a8,e,ca⟩:=cl ad (n+1+1) ab ab bD S a7 ao D.hS ab h.tidy h.cw (aK.up aX);have b3:=λtm=>bP.call ad (n+1+1) ab ab a7 aX h.tidy o q tm D.c5 D.s1;have bg:=λtm=>aK.call ad (n+1+1) ab ab a8 (aX.trans e.up) e.tidy p s tm D.pw D.s2;have ch:=e.up.get h.tidy.1 aU;refine au.bM (λtm H'=>a8=H'/\aM 62 [(13,.int .i64 (Q:Nat)),(12,.int .i64 (rows.length:Nat)),(1,.ptr aA ai 0 1),(2,.ptr aB aj 0 1),(3,.ptr aC ak 0 1),(6,v),(11,x),(8,.W aP [.str o q,Z,.str p s,y,.int .i64 u,.int .i64 w,T])] tm) ?_ ?_
   . simp only [go_sem,hF,cb,bh,bj,aU,ch,cC,cD,bU,bP.op,aK.op,b3,ca,bg,e.O,e.ok,e.cs,cL];exact an.mk ⟨rfl,ay⟩
   clear hF;rintro tm _ ⟨rfl,hF⟩;have dz:=h.up.n;have bI:cc v y:=λid x K=>by have:=a.W.lt x;have:=(B.ge K).1;omega
   have bZ:cc v T:=λid x K=>by have:=a.W.lt x;have:=(L.ge K).1;omega
   have b0:cc v Z:=λid x K=>by have:=a.W.lt x;have:=e.W.ge K;omega
   have bJ:cc Z y:=λid x K=>by have:=e.W.ge x;have:=(B.ge K).2;omega
   have b1:cc Z T:=λid x K=>by have:=e.W.ge x;have:=(L.ge K).2;omega
   have bf:=a.at e.tidy (h.up.trans e.up);have B:=(B.at e.tidy e.up).mono a.up;have L:=(L.at e.tidy e.up).mono a.up;have bE:=e.mono aX;refine au.bF hF (λax tm H'=>(P 52 7 H H' v ((rows.map ct).take Q)/\P 9 1 H H' Z S/\ei 88 2 H H' y I g/\ei 3 1 H H' T c aR)/\ax tm) ?_ ?_
   . have cp:=B.cw.len;simp only [go_sem,hF,cf,cp];generalize cm:a1 _ _ _ _ _ _ _ _ _ _=ba;revert ba;refine cv [13,12,1,2,3,6,11,8,36] (λ_=> []) (λc=>c) (λdn H'=>P 52 7 H H' v ((rows.map ct).take Q)/\P 9 1 H H' Z S/\ei 88 2 H H' y I g/\ei 3 1 H H' T c aR) g.length a8 ah ?_ ?_
     . clear hF;rintro aw ag tm cn ⟨aL,bT,aZ,bR⟩ hF;obtain ⟨a6,aW⟩: ∃a6,g[aw]? =some a6:=ah;have cr:=aV aW;obtain ⟨cG,bO,cA,cB,-⟩:=aZ.cw.at (EL br).len aW;obtain ⟨bt,bu,ae,af,rfl,-,cO,-,cE⟩:=br a6 cr;have bk:P 88 2 H ag y g:=by
        rcases aZ.alt with ⟨C,-⟩|⟨-,-,C⟩
        all_goals grind
       obtain ⟨cH,cI,aS,dA,cP,dB,cQ,cR,cS,cT,z,bw⟩:=bk.pn aW 1 [.str ae af] (aT 2) (λv aY=>by rw [bs.1 aY];exact ⟨rfl,rfl⟩);have b4:cH=cG:=ah;subst b4;have cy:g.set aw (putAt 1 [aa.str ae af] [aa.str bt bu,aa.str ae af])=g:=by show g.set aw [aa.str bt bu,aa.str ae af]=g;have dj:aw<g.length:=cn;have:=e6.1 aW;obtain ⟨_,N⟩:=this;rw [<-N,List.set_getElem_self]
       rw [cy] at z;have cU: ∀tm,hf 1 cI [.str ae af] tm ag= .ok (.av []) tm aS:=cT;have bQ:=aL.bS z.tidy z.up λid aN C N=>bw.other id aN C (bI id N);have dp:=bT.bS z.tidy z.up λid aN C N=>bw.other id aN C (bJ id N);have dq:=bR.bS z.tidy z.up λid aN C N=>bw.other id aN C (λb5=>bG id b5 N);have dr:ei 88 2 H aS y I g:=⟨z.tidy,z.up,.inr ⟨λN=>by
        rcases aZ.alt with ⟨C,-⟩|⟨C,-⟩
        all_goals grind,ah,z⟩⟩
       have bK:=bk.O;have da:=bk.ok;have cj:=aL.up.get ar.1 bV;have bg:=λtm=>aK.call ad (n+1+1) ab ab ag aL.up aL.tidy ae af tm cO cE;refine au.bM (λtm H'=>ag=H'/\ ∃bW,aM 62 [(38,.int .i64 (aw:Nat)),(37,.int .i64 (g.length:Nat)),(13,.int .i64 (Q:Nat)),(12,.int .i64 (rows.length:Nat)),(1,.ptr aA ai 0 1),(2,.ptr aB aj 0 1),(3,.ptr aC ak 0 1),(6,v),(11,x),(8,.W aP [.str o q,Z,.str p s,y,.int .i64 u,.int .i64 w,T]),(36,y),(9,.int .i64 (aw:Nat)),(10,.W bW [.str bt bu,.str ae af])] tm) ?_ ?_
       . simp only [go_sem,hF,bK,bO,cA,cB];exact an.mk ⟨rfl,_,by simp only [go_sem,hF];trivial⟩
       clear hF;rintro tm _ ⟨rfl,bW,hF⟩;simp only [go_sem,hF];refine au.aE ?_ ?_<;>intro ck<;>simp only [go_sem,hF,ck,bK,cj,bU,aK.op,bg,bO,cP,cQ,cR,cS,cU]
       . exact au.next ag rfl ah ay
       . exact au.next aS rfl ah ay
     . rintro ag tm ⟨aL,bT,aZ,bR⟩ hF;simp only [go_sem];exact an.mk ah
   clear hF;rintro tm cV ⟨⟨bf,bE,B,L⟩,hF⟩;obtain ⟨aS,b7,cz⟩:=Yw (l:=o) (m:=q) (ls:=p) (ms:=s) (i:=u) (j:=w) bf bE B L b0 bI bZ bJ b1 bG aG aH;have bN:Rows 7 [[aa.str o q,dk S,.str p s,gB I g,.int .i64 u,.int .i64 w,gB c aR]]:=λa6 cq=>by
    rw [bs.1 cq];refine ⟨rfl,λv aY=> ?_⟩;have bx:=fW S;have bz:=xH aG;have bA:=xH aH;simp only [b2,dG,or_false] at aY;rcases aY with rfl|rfl|rfl|rfl|rfl|rfl|rfl
    . exact ⟨rfl,rfl⟩
    . exact ⟨bx.J,bx.aI _⟩
    . exact ⟨rfl,rfl⟩
    . exact ⟨bz.J,bz.aI _⟩
    . exact ⟨rfl,rfl⟩
    . exact ⟨rfl,rfl⟩
    . exact ⟨bA.J,bA.aI _⟩
   obtain ⟨cN,bY,b6,bl,dd⟩:=cz.app (E:=G) (t:=24) (b:=120) (i:=t52) aq aq rfl rfl al al (x:= .A [[.str o q,dk S,.str p s,gB I g,.int .i64 u,.int .i64 w,gB c aR]] true) (aQ:= [_]) (dR (.inr ⟨_,rfl⟩) bN.len) bN ah;have b9:(rows.map ct)[Q]? =some [aa.str o q,dk S,.str p s,gB I g,.int .i64 u,.int .i64 w,gB c aR]:=by rw [hO,bq];show some [aa.str o q,dk (f bC),.str p s,gB I (f I),.int .i64 u,.int .i64 w,gB c (f c)]=_;rw [bm bp,bm aG,bm aH]
   rw [<-od b9] at bl;obtain ⟨cW,cX,cY,cZ⟩:=B.facts;obtain ⟨c0,c1,c2,c3⟩:=L.facts;simp only [go_sem,hF,bf.O,b7,bH,b6,bl.O];exact au.next (cN,bY) rfl bl ay
 . rintro ⟨v,bB⟩ tm a hF;simp only at a hF;rw [show (rows.map ct).take rows.length=rows.map ct by rw [<-di ct,bX]] at a;simp only [go_sem,hF,a.O,a.nl,dX,if_true];exact bn.mk (a.gc ar (U.refl _) (d:=19) id)
def U0 {s:List aa} {kN jv rop j3 aR:Y} (T:oz s kN jv rop j3 aR) (cp:kN.length+jv.length+rop.length+j3.length+aR.length<800000) (b5: ∀r∈rop,nk r) (b1: ∀r∈j3,nk r):
    bo λad n=> ∀H K p,Tidy H->ec 9 H K->ec 9 H p->f_ (some K) (some K)=true->f_ (some p) (some p)=true->
    ∃ w H',(∃z B C D F,w= .agg [z,B,C,D,F]/\P 9 1 H H' z kN/\P 166 2 H H' B jv/\P 52 7 H H' C (rop.map ct)/\P 52 7 H H' D (j3.map ct)/\P 9 1 H H' F aR/\ [z,B,C,D,F].Pairwise cc)/\
      ∀tm,az G (X G R ad n) 148 [.agg s,p,K] H tm= .ok w tm H':=by
 obtain ⟨bb,aL⟩:=Jp 800000 al;obtain ⟨bc,aW⟩:=Jw rop T.op b5 ab;obtain ⟨b8,bW⟩:=Jw j3 T.cP b1 ab;obtain ⟨bw,bL,bu,bl,bz,rfl,a7,aH,a6,aZ,a8⟩:=T.eq;refine ⟨bb+bc+b8+1048580,λad n cr b4 H K p ao Z h bk aK=> ?_⟩;obtain ⟨n,rfl⟩:=bY n;refine bn.at (m:=52) rfl rfl rfl rfl rfl (by simp only [aO,Z.nl,h.nl];rfl) rfl rfl ?_;have bm: ∀ {H:af} {aI:aa},Tidy H->y H.n 20 aI=true->Tidy (H.push (.cells (q 130) (q 130) 0 [aI])):=λaC b7=>aC.push (by show [_].all _=true;simp only [aO,jm,kz (mN _) 20 _ b7];rfl);have aG:=bm ao h.ids;have aN:U H (H.push (.cells (q 130) (q 130) 0 [p])):=(U.refl H).push _;have a:=bm aG (kz aN.n 20 _ Z.ids);have b6:=aN.trans ((U.refl _).push (.cells (q 130) (q 130) 0 [K]));refine bn.bM (λtm Q=>(Tidy Q/\U H Q/\Q.get (H.n+1)=some (.cells (q 130) (q 130) 0 [K])/\Q.get H.n=some (.cells (q 130) (q 130) 0 [p]))/\aM 55 [(3,.W 0 [bw,bL,bu,bl,bz]),(4,.ptr H.n (q 130) 0 1),(5,.ptr (H.n+1) (q 130) 0 1),(6,.W 0 [.V,.V,.V,.V,.V]),(9,.av []),(11,.av [])] tm) ?_ ?_
 . simp only [go_sem,a7.J,aH.J,a6.J,aZ.J,a8.J,h.op,Z.op,h.ok,Z.ok,h.cs,Z.cs];exact an.mk ⟨⟨a,b6,vo _ _ _,yg _ _ _⟩,dC⟩
 rintro tm Q ⟨⟨aG,aN,aP,o⟩,hF⟩;have br:Tidy (Q.push (.cells (q 254) (q 254) 0 [.fn (.func 222) [] []])):=aG.push rfl;have ak:=(U.refl Q).push (.cells (q 254) (q 254) 0 [.fn (.func 222) [] []]);refine bn.bF hF (λS tm ag=> ∃aw aj aS,(Tidy ag/\U Q ag/\ag.get aw=some (.cells aj aS 0 [.fn (.func 222) [] []])/\aS<=aj)/\aM 55 [(7,.ptr aw aj 0 1)] tm/\S tm) ?_ ?_
 . simp only [go_sem,hF];exact an.mk ⟨_,_,_,⟨br,ak,dL _ _,aT _⟩,ay⟩
 clear hF ak br;rintro tm ag ⟨aw,aj,aS,⟨a,ak,ae,bd⟩,hF⟩;refine bn.kp [3,4,6,11,9] (λS tm H'=>ag=H'/\M tm 7= .ptr aw aj 0 1/\M tm 8= .fn (.func 223) [] [.ptr (H.n+1) (q 130) 0 1,.ptr aw aj 0 1,.ptr H.n (q 130) 0 1]/\S tm) ?_ ?_
 . simp only [go_sem,hF];exact an.mk ⟨rfl,ay⟩
 clear hF;rintro tm _ ⟨rfl,hF⟩;have u:=aN.trans ak;have aP:=ak.get aG.1 aP;have o:=ak.get aG.1 o;obtain ⟨z,bB,d,aU⟩:=aL ad n ab ab bw kN ag p T.so ab a (.inl a7) (h.up u);obtain ⟨F,bC,j,bU⟩:=aL ad n ab ab bz aR bB p T.bJ ab d.tidy (.inl a8) (h.up (u.trans d.up));have L:=d.up.trans j.up;obtain ⟨C,bD,g,bS⟩:=aW ad n ab ab bu bC K p _ _ _ _ _ _ _ _ _ j.tidy a6 (Z.up (u.trans L)) (h.up (u.trans L)) bk aK (L.get a.1 aP) (aT _) (L.get a.1 ae) bd (L.get a.1 o) (aT _);have N:=L.trans g.up;obtain ⟨D,aJ,f,bT⟩:=bW ad n ab ab bl bD K p _ _ _ _ _ _ _ _ _ g.tidy aZ (Z.up (u.trans N)) (h.up (u.trans N)) bk aK (N.get a.1 aP) (aT _) (N.get a.1 ae) bd (N.get a.1 o) (aT _);have aF:=N.trans f.up;refine bn.kp [3,4,6,11] (λS tm H'=>aJ=H'/\M tm 9= .W 0 [z,.V,C,D,F]/\S tm) ?_ ?_
 . have bf:=ae;have bg:=d.up.get a.1 ae;have cA:=L.get a.1 ae;have cB:=N.get a.1 ae;have cC:=aF.get a.1 ae;have cd:=o;have cf:=d.up.get a.1 o;have cD:=L.get a.1 o;have cE:=N.get a.1 o;have cF:=aF.get a.1 o;simp only [go_sem,hF,a7.O,a6.O,aZ.O,a8.O,bf,bg,cd,cf,bd,aT,h.op,aU,bU,bS,bT,aK,d.O,d.ok,d.cs,g.O,g.ok,g.cs,f.O,f.ok,f.cs,j.O,j.ok,j.cs];exact an.mk ⟨rfl,ay⟩
 clear hF;rintro tm _ ⟨rfl,hF⟩;have o:=aF.get a.1 o;have aY:=u.trans aF;have b0:=EL T.be;refine bn.kp [3,4,6] (λS tm H'=> ∃B,P 166 2 aJ H' B jv/\M tm 9= .W 0 [z,B,C,D,F]/\S tm) ?_ ?_
 . simp only [go_sem,hF,aH.O,aH.len];generalize cq:a1 _ _ _ _ _ _ _ _ _ _=bK;revert bK;refine cv [3,4,6,33] (λs=> [(9,.W 0 [z,s.1,C,D,F])]) (λs=>s.2) (λbt s=>P 166 2 aJ s.2 s.1 (jv.take bt)) jv.length (.V,aJ) (P.new _ _ f.tidy) ?_ ?_
   . rintro bt ⟨aI,ah⟩ tm b3 l hF;simp only at l hF|-;obtain ⟨r,aX⟩:=bA b3;have bp:=aV aX;obtain ⟨ar,ax,aA,aB,rfl,ch,cj,b9,ca⟩:=T.be r bp;have cb:=l.up.get f.tidy.1 o;have bN:=λtm=>h.call ad n ab ab ah (aY.trans l.up) l.tidy ar ax tm ch b9;have bO:=λtm=>h.call ad n ab ab ah (aY.trans l.up) l.tidy aA aB tm cj ca;have bq:Rows 2 [[aa.str ar ax,.str aA aB]]:=λv c=>b0 v (by rw [bs.1 c];exact bp);obtain ⟨cg,bE,bV,aD,-⟩:=l.app (E:=G) (t:=23) (b:=32) (i:=t166) aq aq rfl rfl al al (x:= .A [[.str ar ax,.str aA aB]] true) (aQ:= [_]) (dR (.inr ⟨_,rfl⟩) bq.len) bq (by rw [h6];show _+1<_;omega);rw [<-od aX] at aD;have bZ:cT G 23 1 [(0,.agg [.str ar ax,.str aA aB])] ah=some (.A [[.str ar ax,.str aA aB]] true,ah):=aq;simp only [go_sem,hF,aH.O,aH.a_ (k:=2) aX rfl,cb,aT,h.op,bN,bO,aK,bZ,bH,l.O,bV,aD.O,aD.ok,aD.cs];exact au.next (cg,bE) rfl aD ay
   . rintro ⟨aI,ah⟩ tm l hF;simp only at l hF;rw [bX] at l;simp only [go_sem];exact an.mk ⟨aI,l,ay⟩
 clear hF;rintro tm ah ⟨B,e,hF⟩;simp only [go_sem,hF,d.ok,e.ok,g.ok,f.ok,j.ok];have aE: ∀ {v},v∈ [z,B,C,D,F]->y H.n 20 (.agg [z,B,C,D,F])=true->y H.n (18+1) v=true:=λ{v} c aC=>by have aC: [z,B,C,D,F].all (y H.n 19)=true:=aC;exact ba.1 aC v c
 have ck:=(d.at (aF.trans e.up|>λ_=>e.tidy) ((j.up.trans g.up).trans (f.up.trans e.up)));have cn:=j.at e.tidy (g.up.trans (f.up.trans e.up));have cl:=g.at e.tidy (f.up.trans e.up);have cm:=f.at e.tidy e.up;refine bn.mk ⟨z,B,C,D,F,rfl,ck.gc ao u (aE ai),e.gc ao aY (aE ai),cl.gc ao (u.trans L) (aE ai),cm.gc ao (u.trans N) (aE ai),cn.gc ao (u.trans d.up) (aE ai),?_⟩;have cu:=d.up.n;have cz:=j.up.n;have cx:=g.up.n;have cy:=f.up.n;have cw:=e.up.n;have I: ∀ {aU bb bR bc bG bh bj bI:_} {bx w:aa} {bf bg},P aU bb bG bh bx bf->P bR bc bj bI w bg->bh.n<=bj.n->cc bx w:=λaL aW b4 id bP bQ=>by have:=aL.W.lt bP;have:=aW.W.ge bQ;omega
 refine hq.2 ⟨λv c=> ?_,hq.2 ⟨λv c=> ?_,hq.2 ⟨λv c=> ?_,hq.2 ⟨λv c=> ?_,hq.2 ⟨λv c=> ?_,List.Pairwise.nil⟩⟩⟩⟩⟩
 . simp only [b2,dG,or_false] at c;rcases c with rfl|rfl|rfl|rfl
   . exact I d e ab
   . exact I d g ab
   . exact I d f ab
   . exact I d j ab
 . simp only [b2,dG,or_false] at c;rcases c with rfl|rfl|rfl
   . exact (I g e ab).symm
   . exact (I f e ab).symm
   . exact (I j e ab).symm
 . simp only [b2,dG,or_false] at c;rcases c with rfl|rfl
   . exact I g f ab
   . exact (I j g ab).symm
 . simp only [b2,dG,or_false] at c;subst c;exact (I j f ab).symm
 . cases c
def P.pM {g k h l:Nat} {c a b d:af} {u w:aa} {m o:Y} (i:P g k c a u m) (j:P h l b d w o) (p:a.n<=b.n):cc u w:=λid e f=>by have:=i.W.lt e;have:=j.W.ge f;omega
def IK {n d:Nat} {l:List aa} (a:y n (d+1) (.agg l)=true) {q:aa} (b:q∈l):y n d q=true:=ba.1 (show l.all (y n d)=true from a) q b
structure FF (mc H:af) (w:aa) (kN jv rop j3 m4:Y) (ne W_:Nat):Prop where
  eq: ∃n v1 v2 v3 v4 v5 uE o k m sr st uG K6 K7,w= .agg [n,v1,v2,v3,v4,v5,uE,o,k,m,sr,st,uG]/\kW n/\kW k/\kW st/\kW uG/\P 9 1 mc H v1 kN/\P 166 2 mc H v2 jv/\P 52 7 mc H v3 (rop.map ct)/\P 52 7 mc H v4 (j3.map ct)/\P 9 1 mc H v5 m4/\
    P 81 15 mc H uE K6/\xi 10 o/\xi 10 m/\P 64 7 mc H sr K7/\K6.length=ne/\K7.length=W_/\ [v1,v2,v3,v4,v5,uE,sr].Pairwise cc
def Vf {d s:List aa} {kN jv rop j3 cA bg p bP aZ:Y} (z:fz d s kN jv rop j3 cA bg p bP aZ) (dw:kN.length+jv.length+rop.length+j3.length+cA.length<800000) (dF: ∀r∈rop,nk r) (dB: ∀r∈j3,nk r)
    {N:Nat} (hT:bL (eE bg p bP aZ) N) (hN:N<50000):bo λad n=> ∀H fv,Tidy H->ec 1 H fv->f_ (some fv) (some fv)=true->
    ∃w H',FF H H' w kN jv rop j3 cA bg.length aZ.length/\ ∀tm,az G (X G R ad n) 74 [.agg d,fv] H tm= .ok w tm H':=by
 obtain ⟨cq,aU⟩:=U0 z.bT dw dF dB;have cf: ∀ {c5:Y} {cF:Nat},cF<100000->bL c5 cF->bo λad n=> ∀r∈c5,l9 r ad n:=λeN aS=>dE λr bW=>Jn (aS.g_ bW).1 (by have:=(aS.g_ bW).2;omega);have cK: ∀ {ct:Y},(∀r∈ct,r∈p++bP)->bo λad n=> ∀r∈ct,l9 (dQ r) ad n:=λ{ct} dD=>by obtain ⟨en,aS⟩:=cf ab hT.left.right;exact ⟨en,ah⟩
 have ew:p.length<1048560:=by have:=z.iN;omega
 have ev:bP.length<1048560:=by have:=z.iN;omega
 have e9:bg.length<1048556:=by have:=z.iN;omega
 have fa:aZ.length<1048556:=by have aU:=z.iN;have:=D9 aZ;omega
 obtain ⟨ep,bc⟩:=Jm p z.b9 ew (cK λr bW=>hP _ bW);obtain ⟨er,dt⟩:=Jm bP z.hm ev (cK ah);obtain ⟨et,du⟩:=dE (l:=bg) (Q:=λc ad n=>l9 (c.take 6) ad n/\l9 ((c.drop 6).take 6) ad n/\ ∀b4 H a8,Tidy H->F b4 (f (M c 12))->ec 9 H a8-> ∃g,oB (λ_=>True) g/\ ∀tm,az G (X G R ad n) 151 [a8,b4] H tm= .ok g tm H) λc bZ=>by have e:bL (eo c) N:=hT.left.left.flat (cd.2 ⟨c,bZ,rfl⟩);obtain ⟨b6,bV⟩:=cf ab e;have cb:bL (f (M c 12)) N:=e.right;have:=cb.len;obtain ⟨dk,b8⟩:=y_ (f (M c 12)) cb.wt ab (cf ab cb);exact ⟨b6+dk,λad n fj fk=>⟨bV ad n ab ab _ (by simp [eo]),bV ad n ab ab _ (by simp [eo]),λb4 H a8=>b8 ad n ab ab b4 H a8⟩⟩
 obtain ⟨eu,dv⟩:=dE (l:=aZ) (Q:=λc ad n=> ∀H a8,Tidy H->ec 9 H a8-> ∃aK,(aK.length=7/\ ∀g∈aK,J g=true/\D 20 g=true)/\ ∀tm,az G (X G R ad n) 152 [a8,.agg c] H tm= .ok (.agg aK) tm H) λc bZ=>
  Vi (z.bh c bZ) (hT.right.flat (cd.2 ⟨c,bZ,rfl⟩)) hN
 obtain ⟨fg,cH,cw,eU,cu,r,fq,ft,rfl,⟨C,S,rfl,df,cY⟩,bE,cp,⟨B,L,rfl,de,cX⟩,cn,bJ,⟨I,T,rfl,dg,cZ⟩,⟨K,Z,rfl,dh,c0⟩⟩:=z.eq;obtain ⟨c8,cG,c3,cJ,db,rfl,ej,dY,ei,eb,ek⟩:=z.bT.eq;refine ⟨cq+ep+er+et+eu+1048580,λad n dD eO H fv aY aJ eM=> ?_⟩;obtain ⟨n,rfl⟩:=bY n;simp only [bl,a6];refine bn.at (m:=89) rfl rfl rfl rfl rfl (by simp only [aO,aJ.nl];rfl) rfl rfl ?_;have br:Tidy (H.push (.cells (q 130) (q 130) 0 [fv])):=aY.push (by show [_].all _=true;simp only [aO,jm,kz (mN _) 20 _ aJ.ids];rfl);have bp:=(U.refl H).push (.cells (q 130) (q 130) 0 [fv]);refine bn.bM (λtm af=>(Tidy af/\U H af/\af.get H.n=some (.cells (q 130) (q 130) 0 [fv]))/\aM 91 [(2,.W 0 [.str C S,c8,cG,c3,cJ,db,cH,cw,.str B L,cu,r,.str I T,.str K Z]),(3,.ptr H.n (q 130) 0 1),(4,.W 0 [.str 0 0,.V,.V,.V,.V,.V,.V,.V,.str 0 0,.V,.V,.str 0 0,.str 0 0]),(7,.av []),(9,.av []),(11,.av [])] tm) ?_ ?_
 . simp only [go_sem,ej.J,dY.J,ei.J,eb.J,ek.J,bE.J,cp.J,cn.J,bJ.J,aJ.op,aJ.ok,aJ.cs];exact an.mk ⟨⟨br,bp,dL _ _⟩,dC⟩
 clear br bp;rintro tm af ⟨⟨br,bp,cx⟩,hF⟩;have ck:ec 9 af (.fn (.func 145) [] [.ptr H.n (q 130) 0 1]):=ec.mono ⟨rfl,λ_=>rfl,rfl,rfl,by have aW:Nat.blt H.n af.n=true:=h_ (gW cx);show ([].all (y af.n 19)&& [aa.ptr H.n (q 130) 0 1].all (y af.n 19))=true;simp only [aO,jm,y,aW];rfl,⟨_,_,_,rfl⟩,IJ cx (aT _) br.1 (aT _) (λad n aU bc H' bC=>aJ.call ad n aU bc H' (bp.trans bC)) aJ.op⟩ (show 2<=9 by decide);have bd:Tidy (af.push (.cells (q 192) (q 192) 0 [.fn (.func 145) [] [.ptr H.n (q 130) 0 1]])):=br.push (by show [_].all _=true;simp only [aO,jm,kz (mN _) 20 _ ck.ids];rfl);have bq:=(U.refl af).push (.cells (q 192) (q 192) 0 [.fn (.func 145) [] [.ptr H.n (q 130) 0 1]]);refine bn.bM (λtm u=> ∃a7 bb b7,(Tidy u/\U af u/\u.get a7=some (.cells bb b7 0 [.fn (.func 145) [] [.ptr H.n (q 130) 0 1]])/\b7<=bb)/\aM 91 [(2,.W 0 [.str C S,c8,cG,c3,cJ,db,cH,cw,.str B L,cu,r,.str I T,.str K Z]),(4,.W 0 [.str 0 0,.V,.V,.V,.V,.V,.V,.V,.str 0 0,.V,.V,.str 0 0,.str 0 0]),(5,.ptr a7 bb 0 1),(7,.av []),(9,.av []),(11,.av [])] tm) ?_ ?_
 . simp only [go_sem,hF];exact an.mk ⟨_,_,_,⟨bd,bq,dL _ _,aT _⟩,ay⟩
 clear hF bq bd;rintro tm u ⟨a7,bb,b7,⟨bd,bq,b3,b1⟩,hF⟩;have ea:ec 9 u (.fn (.func 146) [] [.ptr a7 bb 0 1]):=ec.mono ⟨rfl,λ_=>rfl,rfl,rfl,by have aW:Nat.blt a7 u.n=true:=h_ (gW b3);show ([].all (y u.n 19)&& [aa.ptr a7 bb 0 1].all (y u.n 19))=true;simp only [aO,jm,y,aW];rfl,⟨_,_,_,rfl⟩,Tp b3 b1 bd.1 (show 1<=2 by decide) (λad n aU bc H' bC=>IJ cx (aT _) br.1 (aT _) (λad n aU bc H' bC=>aJ.call ad n aU bc H' (bp.trans bC)) aJ.op ad n aU bc H' (bq.trans bC)) ck.op⟩ (show 3<=9 by decide);have cl:=ck.up bq;refine bn.bF hF (λae tm H'=>u=H'/\aM 91 [(6,.fn (.func 146) [] [.ptr a7 bb 0 1])] tm/\ae tm) ?_ ?_
 . simp only [go_sem,hF];exact an.mk ⟨rfl,ay⟩
 clear hF;rintro tm _ ⟨rfl,hF⟩;obtain ⟨_,aB,⟨ak,ao,ar,aw,ax,rfl,j,cB,cC,cD,cE,dI⟩,dr⟩:=aU ad n ab ab u _ _ bd ea cl (LV _ _ _ _ _) (LV _ _ _ _ _);have bf:=cl.up j.up;obtain ⟨aD,cj,dq⟩:=bc ad n ab ab cw aB _ j.tidy cp bf;obtain ⟨aC,ch,dp⟩:=dt ad n ab ab cu aB _ j.tidy cn bf;have cy:=j.up.get bd.1 b3;refine bn.kp [2,4,5,9,11] (λae tm H'=>aB=H'/\M tm 7= .W 0 [.str C S,ak,ao,ar,aw,ax,.V,aD,.str B L,aC,.V,.str I T,.str K Z]/\ae tm) ?_ ?_
 . have aR:=λtm=>cl.call ad n ab ab u (U.refl _) bd C S tm df cY;have bR:=λtm=>bf.call ad n ab ab aB (U.refl _) j.tidy B L tm de cX;have bS:=λtm=>bf.call ad n ab ab aB (U.refl _) j.tidy I T tm dg cZ;have cI:=λtm=>bf.call ad n ab ab aB (U.refl _) j.tidy K Z tm dh c0;obtain ⟨eD,bI,ef,eh⟩:=id cj;obtain ⟨eC,bG,ed,ee⟩:=id ch;simp only [eg,a6,bl] at aR bR bS cI;simp only [go_sem,hF,cp.O,cn.O,b3,cy,b1,aR,bR,bS,cI,dr,dq,dp,j.ok,cB.ok,cC.ok,cD.ok,cE.ok,bI.O,bI.J,bI.cells,bG.O,bG.J,bG.cells];exact an.mk ⟨rfl,ay⟩
 clear hF;rintro tm _ ⟨rfl,hF⟩;obtain ⟨eD,bI,ef,eh⟩:=id cj;obtain ⟨eC,bG,ed,ee⟩:=id ch;have dU:bN G 81=some (.agg [.int .i64 0,.int .i64 0,.str 0 0,.str 0 0,.V,.V,.int .i64 0,.int .i64 0,.str 0 0,.str 0 0,.V,.V,.V,.int .i64 0,.int .i64 0]):=aq;refine bn.kp [2,4,5,11] (λae tm H'=> ∃h aL,(P 81 15 aB H' h aL/\aL.length=bg.length)/\M tm 7= .W 0 [.str C S,ak,ao,ar,aw,ax,h,aD,.str B L,aC,.V,.str I T,.str K Z]/\ae tm) ?_ ?_
 . simp only [go_sem,hF,bE.O,bE.len];generalize dy:a1 _ _ _ _ _ _ _ _ _ _=b5;revert b5;refine cv [2,4,5,11,45] (λs=> [(7,.W 0 [.str C S,ak,ao,ar,aw,ax,s.1,aD,.str B L,aC,.V,.str I T,.str K Z])]) (λs=>s.2) (λbO s=> ∃aL,P 81 15 aB s.2 s.1 aL/\aL.length=bO) bg.length (.V,aB) ⟨[],P.new _ _ j.tidy,rfl⟩ ?_ ?_
   . clear hF;rintro bO ⟨h,v⟩ tm cg ⟨aL,a,ca⟩ hF;simp only at a hF|-;obtain ⟨c,bt⟩:=bA cg;have bB:=aV bt;obtain ⟨eJ,eK,bw,aN,aP,rfl,eH,eI,⟨fp,b0,eT,eP⟩,⟨aN,rfl⟩,⟨aP,rfl⟩⟩:=z.kx c bB;obtain ⟨bV,b8,ds⟩:=du ad n ab ab _ bB;obtain ⟨cV,c1,cM,cN,cO,cP,c9,aj,eZ,eV,rfl,dP,dO⟩:=eH.t;obtain ⟨cW,c2,cQ,cR,cS,cU,da,c4,e0,eW,rfl,dT,dS⟩:=eI.t;have cm:=bf.up a.up;obtain ⟨bx,dc,aR⟩:=(show l9 [.int .i64 cV,.int .i64 c1,.str cM cN,.str cO cP,c9,aj] ad n from bV) v _ a.tidy cm;obtain ⟨bz,dd,bR⟩:=(show l9 [.int .i64 cW,.int .i64 c2,.str cQ cR,.str cS cU,da,c4] ad n from b8) v _ a.tidy cm;obtain ⟨bQ,dJ,bS⟩:=ds bw v _ a.tidy (by show F bw (f bw);rw [bm b0];exact b0) cm;obtain ⟨eS,bK,eQ,eR⟩:=id dJ;have fo:=dc.row;have aE:=dd.row;have aX:Rows 15 [bx++bz++ [bQ,.int .i64 aN,.int .i64 aP]]:=λdi bu=>by
      rw [bs.1 bu];refine ⟨ah,λg o=> ?_⟩;rcases cr.1 o with o|o
      . grind
      . simp only [b2,dG,or_false] at o;rcases o with rfl|rfl|rfl
        . exact ⟨bK.J,bK.aI _⟩
        . exact ⟨rfl,rfl⟩
        . exact ⟨rfl,rfl⟩
     have aW:cT G 27 1 [(0,.agg (bx++bz++ [bQ,.int .i64 aN,.int .i64 aP]))] v=some (.A [bx++bz++ [bQ,.int .i64 aN,.int .i64 aP]] true,v):=
      mo (E:=G) (t:=27) (el:=81) (k:=15) (H:=v) aq aq dU al rfl al (.agg (bx++bz++ [bQ,.int .i64 aN,.int .i64 aP])) ⟨(aX _ (bs.2 rfl)).1,ba.2 λg o=>((aX _ (bs.2 rfl)).2 g o).1,ba.2 λg o=>((aX _ (bs.2 rfl)).2 g o).2⟩
     obtain ⟨eF,aF,bU,aG,-⟩:=a.app (E:=G) (t:=27) (b:=232) (i:=t81) aq aq rfl rfl al al (x:= .A [bx++bz++ [bQ,.int .i64 aN,.int .i64 aP]] true) (aQ:= [_]) (dR (.inr ⟨_,rfl⟩) aX.len) aX ah;obtain ⟨e4,fi,e5,e6,e7,e8,fs,fm,e2,eY,rfl,dX,dW⟩:=dc.t;obtain ⟨e3,fh,fb,fc,fe,ff,fr,fl,e1,eX,rfl,dN,dM⟩:=dd.t;simp only [bl,a6] at bt aW bU;have cz:=a.up.get j.tidy.1 cy;refine au.kp [47,46,2,4,5,11,45] (λae tm H'=>v=H'/\ ∃c7,M tm 7= .W 0 [.str C S,ak,ao,ar,aw,ax,h,aD,.str B L,aC,.V,.str I T,.str K Z]/\M tm 9= .W c7 [.int .i64 cV,.int .i64 c1,.str cM cN,.str cO cP,c9,aj,.int .i64 cW,.int .i64 c2,.str cQ cR,.str cS cU,da,c4,bw,.int .i64 aN,.int .i64 aP]/\ae tm) ?_ ?_
     . simp only [go_sem,hF,bE.O,bE.a_ (k:=15) bt rfl,dP.J,dO.J,dT.J,dS.J,b0.J];exact an.mk ⟨rfl,_,by simp only [go_sem,hF];trivial⟩
     clear hF;rintro tm _ ⟨rfl,c7,hF⟩;simp only [go_sem,hF,cz,b1,b0.O,aR,bR,bS,dX.J,dW.J,dN.J,dM.J,bK.O,bK.J,bK.cells,a.O,aW,bH,bU,aG.O,aG.ok,aG.cs];exact au.next (eF,aF) rfl ⟨_,aG,ah⟩ ay
   . rintro ⟨h,v⟩ tm ⟨aL,a,ca⟩ hF;simp only at a hF;simp only [go_sem];exact an.mk ah
 clear hF;rintro tm v ⟨h,aL,⟨ag,dx⟩,hF⟩;have dV:bN G 64=some (.agg [.str 0 0,.V,.V,.V,.V,.int .i64 0,.int .i64 0]):=aq;refine bn.kp [2,4] (λae tm H'=> ∃aA aE,(P 64 7 v H' aA aE/\aE.length=aZ.length)/\M tm 7= .W 0 [.str C S,ak,ao,ar,aw,ax,h,aD,.str B L,aC,aA,.str I T,.str K Z]/\ae tm) ?_ ?_
 . simp only [go_sem,hF,bJ.O,bJ.len];generalize dy:a1 _ _ _ _ _ _ _ _ _ _=b5;revert b5;refine cv [2,4,5,75] (λs=> [(7,.W 0 [.str C S,ak,ao,ar,aw,ax,h,aD,.str B L,aC,s.1,.str I T,.str K Z])]) (λs=>s.2) (λbO s=> ∃aE,P 64 7 v s.2 s.1 aE/\aE.length=bO) aZ.length (.V,v) ⟨[],P.new _ _ ag.tidy,rfl⟩ ?_ ?_
   . clear hF;rintro bO ⟨aA,aF⟩ tm cg ⟨aE,a,ca⟩ hF;simp only at a hF|-;obtain ⟨c,bt⟩:=bA cg;have bB:=aV bt;obtain ⟨fu,eA,bw,w,dn,aN,aP,rfl,⟨b6,dm,rfl,-⟩,⟨_,dH,_⟩,⟨_,aH,_⟩,⟨_,dK,_⟩,⟨_,dA,_⟩,⟨ey,rfl⟩,⟨ez,rfl⟩⟩:=id (z.bh c bB);have dZ:=bf.up (ag.up.trans a.up);obtain ⟨aK,bX,aR⟩:=dv ad n ab ab _ bB aF _ a.tidy dZ;have aX:Rows 7 [aK]:=λdi bu=>by rw [bs.1 bu];exact bX
     have aW:cT G 29 1 [(0,.agg aK)] aF=some (.A [aK] true,aF):=
      mo (E:=G) (t:=29) (el:=64) (k:=7) (H:=aF) aq aq dV al rfl al (.agg aK) ⟨bX.1,ba.2 λg o=>(bX.2 g o).1,ba.2 λg o=>(bX.2 g o).2⟩
     obtain ⟨eG,dj,bU,aG,-⟩:=a.app (E:=G) (t:=29) (b:=128) (i:=t64) aq aq rfl rfl al al (x:= .A [aK] true) (aQ:= [_]) (dR (.inr ⟨_,rfl⟩) aX.len) aX ah;have cz:=a.up.get ag.tidy.1 (ag.up.get j.tidy.1 cy);refine au.kp [77,76,2,4,5,75] (λae tm H'=>aF=H'/\ ∃c6,M tm 7= .W 0 [.str C S,ak,ao,ar,aw,ax,h,aD,.str B L,aC,aA,.str I T,.str K Z]/\M tm 11= .W c6 [.str b6 dm,eA,bw,w,dn,.int .i64 ey,.int .i64 ez]/\ae tm) ?_ ?_
     . simp only [go_sem,hF,bJ.O,bJ.a_ (k:=7) bt rfl,dH.J,aH.J,dK.J,dA.J];exact an.mk ⟨rfl,_,by simp only [go_sem,hF];trivial⟩
     clear hF;rintro tm _ ⟨rfl,c6,hF⟩;simp only [go_sem,hF,cz,b1,aR,a.O,aW,bH,bU,aG.O,aG.ok,aG.cs];exact au.next (eG,dj) rfl ⟨_,aG,ah⟩ ay
   . rintro ⟨aA,aF⟩ tm ⟨aE,a,ca⟩ hF;simp only at a hF;simp only [go_sem];exact an.mk ah
 clear hF;rintro tm aF ⟨aA,aE,⟨e,dz⟩,hF⟩;simp only [go_sem,hF,j.ok,cB.ok,cC.ok,cD.ok,cE.ok,bI.J,bG.J,ag.ok,e.ok];have bD:=ag.up.trans e.up;have bk:=bp.trans bq;have cL:=bk.trans j.up;have aH: ∀ {aj},aj∈ [.str C S,ak,ao,ar,aw,ax,h,aD,.str B L,aC,aA,.str I T,.str K Z]->y H.n 20 (.agg [.str C S,ak,ao,ar,aw,ax,h,aD,.str B L,aC,aA,.str I T,.str K Z])=true->y H.n (18+1) aj=true:=λbj aS=>IK aS bj;have eL: ∀ {aR cq:Nat} {aj eB},P aR cq u aB aj eB->cc aj h/\cc aj aA:=λaS=>⟨aS.pM ag (aT _),aS.pM e ag.up.n⟩;refine bn.mk ⟨⟨_,ak,ao,ar,aw,ax,h,aD,_,aC,aA,_,_,aL,aE,rfl,⟨_,_,rfl,df,cY⟩,⟨_,_,rfl,de,cX⟩,⟨_,_,rfl,dg,cZ⟩,⟨_,_,rfl,dh,c0⟩,(j.at e.tidy bD).gc aY bk (aH ai),(cB.at e.tidy bD).gc aY bk (aH ai),(cC.at e.tidy bD).gc aY bk (aH ai),(cD.at e.tidy bD).gc aY bk (aH ai),(cE.at e.tidy bD).gc aY bk (aH ai),
  (ag.at e.tidy e.up).gc aY cL (aH ai),cj,ch,e.gc aY (cL.trans ag.up) (aH ai),dx,dz,?_⟩⟩
 have:=(rH (l₁:= [ak,ao,ar,aw,ax]) (l₂:= [h,aA])).2 ⟨dI,hq.2 ⟨λaj bj=>by rw [bs.1 bj];exact (P.pM ag e (aT _)),ai⟩,λaj bj di bu=> ?_⟩
 . grind
 simp only [b2,dG,or_false] at bj bu;rcases bj with rfl|rfl|rfl|rfl|rfl<;>rcases bu with rfl|rfl
 . grind
 . grind
 . grind
 . grind
 . grind
 . grind
 . grind
 all_goals grind
def Vg {d s:List aa} {kN jv rop j3 j h p E i:Y} (e:fz d s kN jv rop j3 j h p E i) (ag:kN.length+jv.length+rop.length+j3.length+j.length<800000) (an: ∀r∈rop,nk r) (al: ∀r∈j3,nk r)
    {N:Nat} (hT:bL (eE h p E i) N) (hN:N<50000):bo λad n=> ∀H,Tidy H->
    ∃w H',FF H H' w kN jv rop j3 j h.length i.length/\ ∀tm,az G (X G R ad n) 41 [.agg d] H tm= .ok w tm H':=by
 obtain ⟨aF,af⟩:=Vf e ag an al hT hN;refine ⟨aF+20,λad n aU aV H a=> ?_⟩;obtain ⟨n,rfl⟩:=bY n;obtain ⟨w,aQ,aj,x⟩:=af ad n ab ab H _ a (Tn H) (ZP _);obtain ⟨bd,aS,bf,a1,bc,r,bm,bq,rfl,⟨bx,bC,rfl,bs,a8⟩,au,ay,⟨bw,bB,rfl,br,a7⟩,aw,aC,⟨bz,bD,rfl,bt,ba⟩,⟨bA,bE,rfl,bu,bb⟩⟩:=e.eq;obtain ⟨bk,aR,bg,aT,bp,rfl,aD,ar,aB,av,aE⟩:=e.bT.eq;obtain ⟨_,k,l,o,q,t,u,g,_,f,v,_,_,aK,aL,rfl,⟨P,V,rfl,aN,aH⟩,⟨O,T,rfl,aM,aG⟩,⟨Q,W,rfl,aO,aI⟩,⟨S,Z,rfl,aP,aJ⟩,F,I,K,L,M,z,C,B,A,ah,ak,ao⟩:=aj.eq;obtain ⟨bj,aA,aY,aZ⟩:=id C;obtain ⟨bh,ax,aW,aX⟩:=id B;simp only [bl,a6] at x|-;refine bn.at (m:=4) rfl rfl rfl rfl rfl rfl rfl rfl ?_;simp only [go_sem,aD.J,ar.J,aB.J,av.J,aE.J,au.J,ay.J,aw.J,aC.J,x,F.ok,I.ok,K.ok,L.ok,M.ok,aA.J,ax.J,z.ok,A.ok];have b: ∀ {D},D∈ [.str P V,k,l,o,q,t,u,g,.str O T,f,v,.str Q W,.str S Z]->y H.n 20 (.agg [.str P V,k,l,o,q,t,u,g,.str O T,f,v,.str Q W,.str S Z])=true->y H.n (18+1) D=true:=λaq ae=>IK ae aq;have c:=U.refl H;exact bn.mk ⟨⟨_,k,l,o,q,t,u,g,_,f,v,_,_,aK,aL,rfl,⟨_,_,rfl,aN,aH⟩,⟨_,_,rfl,aM,aG⟩,⟨_,_,rfl,aO,aI⟩,⟨_,_,rfl,aP,aJ⟩,F.gc a c (b ai),I.gc a c (b ai),K.gc a c (b ai),L.gc a c (b ai),M.gc a c (b ai),
  z.gc a c (b ai),C,B,A.gc a c (b ai),ah,ak,ao⟩⟩
def int_ne (j:Nat):((j:Int)==((j+1:Nat):Int))=false:=by simp<;>omega
def I9 {ad n:Nat} {d H:af} {v:aa} {rows:Y} {j:Nat} (c:P 35 6 d H v rows) (q:j<rows.length) (r:rows.length<1048560):
    ∃a H',(fI 35 6 d H' a (rows.eraseIdx j)/\cW a=cW v/\iX d.n v a H H')/\ ∀tm,az G (X G R ad (n+1)) 91 [v,.int .i64 (j:Nat),.int .i64 ((j+1:Nat):Nat)] H tm= .ok a tm H':=by
 obtain ⟨J,L,M,a,F,N,I,f,g,h,i,o,l,⟨K,A,B,C⟩,s,e,x,p,u⟩:=c.del (k:=6) (E:=G) (t:=33) (b:=96) (ti:=t35) (z:= .agg [.int .i64 0,.int .i64 0,.str 0 0,.str 0 0,.V,.V]) aq aq aq rfl rfl al al rfl rfl (λv y n=>fR n 20 20 v al (ba.1 (show (aa.cells (.agg [.int .i64 0,.int .i64 0,.str 0 0,.str 0 0,.V,.V])).all (D 20)=true from rfl) v y)) q r;have w:=int_ne j;refine bn.at (m:=30) rfl rfl rfl rfl rfl (by simp only [aO,c.nl];rfl) rfl rfl ?_;simp only [go_sem,c.O,c.len,f,w,g,h,A,B,i,bH,e.O,s,o,l,C,e.nl,dX,if_true];refine bn.mk ?_;rw [ft (yW u)];exact ⟨e,x,p⟩
def Uv {ad n:Nat} {d H:af} {v:aa} {rows:Y} {j:Nat} (c:P 9 1 d H v rows) (q:j<rows.length) (r:rows.length<1048560):
    ∃a H',(fI 9 1 d H' a (rows.eraseIdx j)/\cW a=cW v/\iX d.n v a H H')/\ ∀tm,az G (X G R ad (n+1)) 100 [v,.int .i64 (j:Nat),.int .i64 ((j+1:Nat):Nat)] H tm= .ok a tm H':=by
 obtain ⟨J,L,M,a,F,N,I,f,g,h,i,o,l,⟨K,A,B,C⟩,s,e,x,p,u⟩:=c.del (k:=1) (E:=G) (t:=22) (b:=16) (ti:=t9) (z:= .str 0 0) aq aq aq rfl rfl al al rfl rfl (λv y n=>fR n 20 20 v al (ba.1 (show (aa.cells (.str 0 0)).all (D 20)=true from rfl) v y)) q r;have w:=int_ne j;refine bn.at (m:=30) rfl rfl rfl rfl rfl (by simp only [aO,c.nl];rfl) rfl rfl ?_;simp only [go_sem,c.O,c.len,f,w,g,h,A,B,i,bH,e.O,s,o,l,C,e.nl,dX,if_true];refine bn.mk ?_;rw [ft (yW u)];exact ⟨e,x,p⟩
@[go_sem] theorem ag8:s 2 (.string ⟨#[48,49,50,51,52,53,54,55,56,57,97,98,99,100,101,102,103,104,105,106,107,108,109,110,111,112,113,114,115,116,117,118,119,120,121,122]⟩)= .str 36 237927390410950444456928663707796224754864904193074819559483181009558347043374296609072:=aq
theorem QA (i:Nat) (a:i<10):m8 36 237927390410950444456928663707796224754864904193074819559483181009558347043374296609072 (some (.int .i64 (i:Nat))) (some (.int .i64 ((i:Int)+1))) none=some (.str 1 (48+i)):=by
 match i,a with
 |0,_=>rfl
 |1,_=>rfl
 |2,_=>rfl
 |3,_=>rfl
 |4,_=>rfl
 |5,_=>rfl
 |6,_=>rfl
 |7,_=>rfl
 |8,_=>rfl
 |9,_=>rfl
def XY (l m:Nat) (lo a8 tm H):ij G 9 (some TypeDesc.string) (.str l m) lo a8 none tm H=bb (m8 l m lo a8 none) tm H:=by
 have a:=KE G 9 (.str l m) lo a8 none tm H;rw [lA] at a;rw [a];simp only [go_sem]
theorem abA:d G R 306 (λi:Nat=>i<10) (λi=> [.int .i64 (i:Nat)]) (λi=> .str 1 (48+i)):=by refine d.run (m:=14) rfl rfl rfl rfl (λ_=>rfl) (λ_ _=>rfl) rfl rfl 0 λk l h j i c g f=> ?_;have a:decide ((i:Int)<10)=true:=da;have b:IntKind.i64.wrap ((i:Int)+1)=(i:Int)+1:=wrap64 _ ab ab;simp only [go_sem,a,b,XY,QA i c];refine e.mk ?_ f (U.refl _);rfl
theorem abl:d G R 244 (λi:Nat=>i<10) (λi=> [.int .i64 (i:Nat),.int .i64 10]) (λi=> .str 1 (48+i)):=by obtain ⟨k,f⟩:=abA;refine d.run (m:=52) rfl rfl rfl rfl (λ_=>rfl) (λ_ _=>rfl) rfl rfl (k+1) λl n p q i j b a=> ?_;have g:decide (0<=(i:Int))=true:=ai;have h:decide ((i:Int)<100)=true:=da;have c:=λo=>f l n ab ab i j b o a;simp only [go_sem,g,h,c];refine e.mk ?_ a (U.refl _);rfl
theorem abp:d G R 168 (λi:Nat=>i<10) (λi=> [.int .i64 (i:Nat)]) (λi=> .str 1 (48+i)):=by obtain ⟨h,f⟩:=abl;refine d.run (m:=4) rfl rfl rfl rfl (λ_=>rfl) (λ_ _=>rfl) rfl rfl (h+1) λj k n o i g b a=> ?_;have c:=λl=>f j k ab ab i g b l a;simp only [go_sem,c];refine e.mk ?_ a (U.refl _);rfl
theorem Ag:d G R 93 (λi:Nat=>i<10) (λi=> [.int .i64 (i:Nat)]) (λi=> .str 1 (48+i)):=by obtain ⟨h,f⟩:=abp;refine d.run (m:=4) rfl rfl rfl rfl (λ_=>rfl) (λ_ _=>rfl) rfl rfl (h+1) λj k n o i g b a=> ?_;have c:=λl=>f j k ab ab i g b l a;simp only [go_sem,c];refine e.mk ?_ a (U.refl _);rfl
def cn (l m a b:Nat):List aa:= [.int .i64 6,.int .i64 0,.str l m,.str a b,.V,.V]
def cm (l m:Nat) (y:aa):List aa:= [.int .i64 5,.int .i64 0,.str l m,.str 0 0,y,.V]
def eX (y z:aa):List aa:= [.int .i64 7,.int .i64 0,.str 0 0,.str 0 0,y,z]
def Fc:d G R 95 (λ_:Nat×Nat×Nat×Nat=>True) (λp=> [.str p.1 p.2.1,.str p.2.2.1 p.2.2.2]) (λp=> .agg (cn p.1 p.2.1 p.2.2.1 p.2.2.2)):=by
 refine d.run (m:=6) rfl rfl rfl rfl (λ_=>rfl) (λ_ _=>rfl) rfl rfl 0 λk n h i a _ c b=> ?_;obtain ⟨j,l,f,g⟩:=a;simp only [go_sem];exact e.mk rfl b (U.refl _)
def abM (j:Nat) (r:List aa):List aa:=match r with
 | [.str a b]=>cn 2 (88+(48+(j+1))<<<8) a b
 |_=> []
def cp (args:Y):Y:=args.mapIdx abM
def qP (args):(cp args).length=args.length:=C2
def uv (l m a b:Nat):(cn l m a b).length=6/\ ∀v∈cn l m a b,J v=true/\D 20 v=true:=⟨rfl,λv d=>by
 have c:(cn l m a b).all (λv=>J v&&D 20 v)=true:=rfl;have:=ba.1 c v d;simpa using this⟩
def ki {r:List aa} (a:r.length=6/\ ∀v∈r,J v=true/\D 20 v=true) (H:af):cT G 33 1 [(0,.agg r)] H=some (.A [r] true,H):=
 mo (E:=G) (t:=33) (el:=35) (k:=6) (H:=H) (z:= .agg [.int .i64 0,.int .i64 0,.str 0 0,.str 0 0,.V,.V]) aq aq aq al rfl al (.agg r) ⟨a.1,ba.2 λv b=>(a.2 v b).1,ba.2 λv b=>(a.2 v b).2⟩
def JB:bo λad n=> ∀r l m args ls ms st H,fB r l m args ls ms st->args.length<9->Tidy H->
    ∃v H',P 35 6 H H' v (cp args)/\ ∀tm,az G (X G R ad n) 89 [.agg r] H tm= .ok v tm H':=by
 obtain ⟨aa,M⟩:=Ag;obtain ⟨ae,N⟩:=Fc;refine ⟨aa+ae+40,λad n aj an r l m args ls ms st H w ak B=> ?_⟩;obtain ⟨n,rfl⟩:=bY n;obtain ⟨q,av,e,ao,ar,rfl,f,Z,aw,W,-⟩:=w.eq;refine bn.at (m:=24) rfl rfl rfl rfl rfl rfl rfl rfl ?_;simp only [go_sem,f.J,W.J,Z.J,f.O,f.len];generalize ai:a1 _ _ _ _ _ _ _ _ _ _=F;revert F;have hF:=trivial;refine cv [7] (λe=> [(3,e.1)]) (λe=>e.2) (λc e=>P 35 6 H e.2 e.1 ((cp args).take c)) args.length (.V,H) (P.new _ _ B) ?_ ?_
 . rintro c ⟨v,g⟩ tm S a hF;simp only at a hF|-;obtain ⟨C,p⟩:=bA S;have T:=aV p;obtain ⟨h,j,rfl,-⟩:=w.hS C T;have s:=λtm=>M ad n ab ab (c+1) ab g tm a.tidy;have u:=λl m q I tm=>N ad n ab ab (l,m,q,I) trivial g tm a.tidy;simp only at s u;have ag:IntKind.i64.wrap ((c:Int)+1)=((c+1:Nat):Int):=by rw [wrap64 _ ab ab];rfl
   have ah:1+1<=ht:=al;have y:=uv 2 (88+(48+(c+1))<<<8) h j;have Q:=ki y g;have z:Rows 6 [cn 2 (88+(48+(c+1))<<<8) h j]:=λC Y=>by rw [bs.1 Y];exact y
   obtain ⟨af,D,K,o,-⟩:=a.app (E:=G) (t:=33) (b:=96) (i:=t35) aq aq rfl rfl al al (x:= .A [cn 2 (88+(48+(c+1))<<<8) h j] true) (aQ:= [_]) (dR (.inr ⟨_,rfl⟩) z.len) z (by rw [h6];show _+1<_;omega);have L:(cp args)[c]? =some (cn 2 (88+(48+(c+1))<<<8) h j):=by unfold cp;rw [yO,p];rfl
   rw [<-od L] at o;simp only [go_sem,hF,f.O,f.a_ (k:=1) p rfl,ag,s,ah,u,Q,bH,a.O,K,o.O];exact au.next (af,D) rfl o ay
 . rintro ⟨v,g⟩ tm a hF;simp only at a hF;rw [<-qP,bX] at a;simp only [go_sem,hF,a.O,a.nl,dX,if_true];exact bn.mk (a.gc B (U.refl _) (d:=19) id)
def fe (l:Nat):Nat:=l+1+1
def gD (l m j:Nat):Nat:=m+39<<<(8*l)+(48+(j+1))<<<(8*(l+1))
def ko (l m:Nat) (args:Y) (ls ms j:Nat):List aa:= [.str (fe l) (gD l m j),.A (args.eraseIdx j) false,.str ls ms,.V,.int .i64 0,.int .i64 0,.V]
theorem DB:bo λad n=> ∀r l m args ls ms st j H,fB r l m args ls ms st->args.length<9->j<args.length->Tidy H->
  ∀tm,az G (X G R ad n) 60 [.agg r,.int .i64 ((j+1:Nat):Nat)] H tm= .ok (.agg (ko l m args ls ms j)) tm H:=by
 obtain ⟨x,u⟩:=Ag;refine ⟨x+40,λad n I L r l m args ls ms st j H e K d i=> ?_⟩;obtain ⟨n,rfl⟩: ∃y,n=y+1+1:=⟨n-2,ab⟩;obtain ⟨E,T,V,Q,S,rfl,c,w,U,v,-⟩:=e.eq;obtain ⟨A,k,p,q⟩:=I5 (ad:=ad) (n:=n) i c e.hS.rows ab;have h:P 9 1 H k A args:=by
  rcases p.alt with ⟨b,-⟩|⟨-,-,b⟩
  . rw [b] at d;simp at d
  . exact b
 obtain ⟨Y,f,⟨a,M,F⟩,s⟩:=Uv (ad:=ad) (n:=n) h d ab;have g:=λtm=>u ad (n+1) ab ab (j+1) ab f tm a.tidy;simp only at g;have B:IntKind.i64.wrap (((j+1:Nat):Int)-1)=(j:Nat):=by rw [wrap64 _ ab ab];omega
 have N:=e.s1;have C:l+1<=ht:=by unfold ht;omega
 have D:l+1+1<=ht:=by unfold ht;omega
 obtain ⟨o,t,W,z,-⟩:=a.aZ 48 al al;refine jQ (aL.at (m:=21) rfl rfl rfl rfl rfl rfl rfl rfl ?_);simp only [go_sem,c.J,v.J,w.J,c.O,q,B,s,h.O,a.O,g,C,D,a.ok,a.cs];refine .inl ⟨_,rfl,_,f,o,rfl,?_,gV i (z H (aT _) a.up) rfl⟩;refine wB ?_;simp only [cD,Go.aj.zB,Go.aj.wC,Go.aj.Ez,t];rfl
def RA {r:List aa} (f:iz r) (ad n:Nat) (H:af) (g:Tidy H) (tm:List aa):cx G (X G R ad (n+1)) (.fn (.func 167) [] []) [.agg r] H tm= .ok (.bool (eV 1 107 r)) tm H:=by
 obtain ⟨w,z,k,c,d,rfl,⟨a,b,rfl,-⟩,⟨B,C,rfl,-⟩,j,⟨c,rfl⟩,⟨d,rfl⟩⟩:=f;obtain ⟨v,x,l,o,p,q,A,y,u,s,rfl,i,h⟩:=j.t;simp only [eg,a6,fw,bl];refine fa (aL.at (m:=5) rfl rfl rfl rfl rfl rfl rfl rfl ?_) tm;have e:(a==1&&b==107)=(1==a&&107==b):=ah;simp only [go_sem,i.J,h.J,e];refine ak.mk ?_ rfl g (U.refl _);simp only [go_sem,eV]
def rp (p:Y):Bool:=p.any (eV 1 107)
def Vq {p:Y} (b: ∀r∈p,iz r) (f:p.length<1048560) {ad n:Nat} (d:p.length<ad) {o:aa} (e:F o p) {H:af} (c:Tidy H):
    ∀tm,az G (X G R ad (n+1+2)) 166 [o,.fn (.func 167) [] []] H tm= .ok (.bool (rp p)) tm H:=
 Uq o _ p (eV 1 107) e (λr a=>(iz.row (b r a)).1) ab rfl (λ_=>rfl) ad (n+1) d H c λr a tm=>RA (b r a) ad n H c tm
def qo {ad n:Nat} {y w:aa} {H H':af} (d:aD y=true) (op: ∀t,O t y=y) (ok:J y=true) (cs:y.cells= [y]) (c:aZ (48+1) y H=some (w,H')) (e:H'.n=H.n) (l m:Nat):
    ∀tm,az G (X G R ad (n+1)) 90 [.str l m,y] H tm= .ok (.agg (cm l m w)) tm H':=by
 have: ∃b a,(b= .agg (cm l m w)/\a=H')/\ ∀tm,az G (X G R ad (n+1)) 90 [.str l m,y] H tm= .ok b tm a:=by refine dJ.at (m:=6) rfl rfl rfl rfl rfl (by simp only [aO,d];rfl) rfl rfl ?_;simp only [go_sem,op,ok,cs];refine dJ.mk (wB (cs':=cm l m w) (H':=H') ?_) ⟨rfl,ft ab⟩;simp only [cD,Go.aj.zB,Go.aj.wC,Go.aj.Ez,c];rfl
 grind
def cM:aa:= .A [cn 1 75 4 1953720652] true
theorem Js:bo λad n=> ∀y rows H,F y rows->Tidy H-> ∀tm,az G (X G R ad n) 94 [y] H tm= .ok (.agg (eX y cM)) tm H:=by obtain ⟨f,d⟩:=Fc;refine ⟨f+2,λad n g h y rows H a c=> ?_⟩;obtain ⟨n,rfl⟩:=bY n;have b:=λtm=>d ad n ab ab (1,75,4,1953720652) trivial H tm c;simp only at b;have e:=ki (uv 1 75 4 1953720652) H;refine jQ (aL.at (m:=6) rfl rfl rfl rfl rfl (by simp only [aO,a.aD];rfl) rfl rfl ?_);simp only [go_sem,a.O,a.J,a.cells,b,e];refine ak.mk rfl ?_ c (U.refl _);show [aa.int .i64 7,.int .i64 0,.str 0 0,.str 0 0,y,cM].all (D 19)=true;simp only [aO,a.aI];rfl
def wH (p:Y) (a b:aa):List aa:= [.str 1 107,if rp p then .str 0 0 else .str 1 105,.int .i64 7,.int .i64 0,.str 0 0,.str 0 0,a,cM,.A [eX b cM] true,.int .i64 0,.int .i64 0]
def j5 (p:Y) (a b:Nat) (c d w:aa):List aa:= [.str a b,.A [wH p c d] true,w,.V,.V,.int .i64 0,.int .i64 0]
def Jt {d s:List aa} {kN jv rop j3 a1 aV p aW aY:Y} (k:fz d s kN jv rop j3 a1 aV p aW aY):bo λad n=> ∀(f g:Nat) (c b y w:aa) (N P:Y) (H H':af),F c N->F b P->Tidy H->aD y=true->(∀t,O t y=y)->J y=true->y.cells= [y]->aZ (48+1) y H=some (w,H')->H'.n=H.n->
    ∀tm,az G (X G R ad n) 92 [.agg d,.str f g,.agg (eX c cM),.agg (eX b cM),y] H tm= .ok (.agg (j5 p f g c b w)) tm H':=by
 have aR:p.length<1048560:=by have:=k.iN;omega
 obtain ⟨bh,i,I,bb,E,L,bj,bk,rfl,⟨Z,ai,rfl,bn,bd⟩,aH,q,⟨U,ah,rfl,bm,bc⟩,aK,aN,⟨ae,ak,rfl,bp,bf⟩,⟨ag,al,rfl,bq,bg⟩⟩:=k.eq;obtain ⟨S,u,K,v,T,rfl,aP,aG,aL,aJ,aQ⟩:=k.bT.eq;refine ⟨p.length+20,λad n a7 a8 f g c b y w N P H H' j o aF aT aU ok ao ax ba=> ?_⟩;obtain ⟨n,rfl⟩: ∃aS,n=aS+1+2+1:=⟨n-4,ab⟩;have aq:=Vq k.b9 aR (ad:=ad) (n:=n) ab q aF;simp only [bl,a6];have aX:(eX b cM).length=6/\ ∀a∈eX b cM,J a=true/\D 20 a=true:=⟨rfl,λa aC=>by
  have ar:(eX b cM).all (λa=>J a&&D 20 a)=true:=by show [aa.int .i64 7,.int .i64 0,.str 0 0,.str 0 0,b,cM].all (λa=>J a&&D 20 a)=true;simp only [aO,o.J,o.aI];rfl
  grind⟩
 have B:=ki aX H;have Q:J cM=true:=rfl;have r: ∀h:aa,J h=true->D 20 h=true->([.str 1 107,h,.int .i64 7,.int .i64 0,.str 0 0,.str 0 0,c,cM,.A [eX b cM] true,.int .i64 0,.int .i64 0]:List aa).length=11/\ ∀a∈([.str 1 107,h,.int .i64 7,.int .i64 0,.str 0 0,.str 0 0,c,cM,.A [eX b cM] true,.int .i64 0,.int .i64 0]:List aa),J a=true/\D 20 a=true:=λh au aw=>⟨rfl,λa aC=>by
  have ar:([.str 1 107,h,.int .i64 7,.int .i64 0,.str 0 0,.str 0 0,c,cM,.A [eX b cM] true,.int .i64 0,.int .i64 0]:List aa).all (λa=>J a&&D 20 a)=true:=by simp only [aO,j.J,j.aI,au,aw];rfl
  grind⟩
 have aA:=xx (r (.str 0 0) rfl rfl) H;have aB:=xx (r (.str 1 105) rfl rfl) H;have: ∃a e,(a= .agg (j5 p f g c b w)/\e=H')/\ ∀tm,az G (X G R ad (n+1+2+1)) 92 [.agg [.str Z ai,S,u,K,v,T,i,I,.str U ah,E,L,.str ae ak,.str ag al],.str f g,.agg (eX c cM),.agg (eX b cM),y] H tm= .ok a tm e:=by
  refine dJ.at (m:=21) rfl rfl rfl rfl rfl (by simp only [aO,aT];rfl) rfl rfl ?_;simp only [eX] at B aA aB|-;refine dJ.bM (λtm e=>H=e/\aM 26 [(1,.str f g),(4,y),(5,.W 0 [.str Z ai,S,u,K,v,T,i,I,.str U ah,E,L,.str ae ak,.str ag al]),(10,.W 0 [.str 0 0,.V,.V,.V,.V,.int .i64 0,.int .i64 0]),(7,.W 0 [.int .i64 7,.int .i64 0,.str 0 0,.str 0 0,c,cM]),(8,.W 0 [.int .i64 7,.int .i64 0,.str 0 0,.str 0 0,b,cM]),(11,.av [])] tm) ?_ ?_
  . simp only [go_sem,aP.J,aG.J,aL.J,aJ.J,aQ.J,aH.J,q.J,aK.J,aN.J,j.J,o.J,Q];exact an.mk ⟨rfl,dC⟩
  rintro tm _ ⟨rfl,hF⟩;refine dJ.kp [1,4,5,10] (λl tm e=>H=e/\M tm 11= .W 0 [.str 1 107,.str 0 0,.int .i64 7,.int .i64 0,.str 0 0,.str 0 0,c,cM,.A [[.int .i64 7,.int .i64 0,.str 0 0,.str 0 0,b,cM]] true,.int .i64 0,.int .i64 0]/\l tm) ?_ ?_
  . simp only [go_sem,hF,j.J,Q,B];exact an.mk ⟨rfl,ay⟩
  clear hF;rintro tm _ ⟨rfl,hF⟩;refine dJ.kp [1,4,5,10] (λl tm e=>H=e/\M tm 11= .W 0 [.str 1 107,(if rp p then .str 0 0 else .str 1 105),.int .i64 7,.int .i64 0,.str 0 0,.str 0 0,c,cM,.A [[.int .i64 7,.int .i64 0,.str 0 0,.str 0 0,b,cM]] true,.int .i64 0,.int .i64 0]/\l tm) ?_ ?_
  . simp only [go_sem,hF,q.O,aq];refine an.aE ?_ ?_<;>intro x<;>simp only [go_sem,hF,x]
    all_goals (refine an.mk ⟨rfl,?_⟩;simp only [go_sem,hF,x])
  clear hF;rintro tm _ ⟨rfl,hF⟩;have z:J (if rp p then aa.str 0 0 else .str 1 105)=true/\D 20 (if rp p then aa.str 0 0 else .str 1 105)=true:=by split<;>exact ⟨rfl,rfl⟩
  have C:=xx (r _ z.1 z.2) H;simp only [go_sem,hF,eX] at C|-;simp only [go_sem,hF,aU,C,ok,ao];refine dJ.mk (wB (cs':=j5 p f g c b w) (H':=H') ?_) ⟨rfl,ft ab⟩;simp only [cD,Go.aj.zB,Go.aj.wC,Go.aj.Ez,Go.aj.uc,ax];rfl
 obtain ⟨_,_,⟨rfl,rfl⟩,i⟩:=this;exact i
def j7:List aa->Int
 | [.int _ a]=>a
 |_=>0
def jA (args:Y) (i:Int):List aa:=((cp args)[(i-1).toNat]?).getD []
def fb (r:List aa):List aa:=cm 7 28558080999846761 (.A [r] true)
def n2 (r:List aa):List aa:=cm 3 7630702 (.A [fb r] true)
def lQ (args st:Y) (a:Nat) (j:Nat):Y:=((st.take a).map λb=>fb (jA args (j7 b)))++ [n2 (jA args ((j+1:Nat):Int))]
def gX (p:Y) (l m:Nat) (args st:Y) (a j:Nat):List aa:=
 j5 p (l+6+1) (m+104953454880863<<<(8*l)+(48+(j+1))<<<(8*(l+6))) (.A [cm l m (dk (cp args))] true) (.A [jA args ((j+1:Nat):Int),cm (fe l) (gD l m j) (.A ((cp args).eraseIdx j) false)] true) (dk (lQ args st a j))
def Fi {args:Y} {i:Int} (a:1<=i) (b:i<=args.length):(cp args)[(i-1).toNat]? =some (jA args i):=by
 unfold jA;have:(i-1).toNat<(cp args).length:=by rw [qP];omega
 simp_all
def Ni {args:Y} (e:b8 args):Rows 6 (cp args):=λj a=>by
 unfold cp at a;obtain ⟨i,f,b⟩:=List.mem_mapIdx.1 a;obtain ⟨g,h,c,-⟩:=e _ (List.getElem_mem f);rw [<-b,c];exact uv _ _ _ _
def M5 {args:Y} {i:Int} (a:1<=i) (b:i<=args.length):jA args i∈cp args:=aV (Fi a b)
def M4 {args:Y} (h:b8 args) {i:Int} (j:1<=i) (k:i<=args.length): ∃a b c d,jA args i=cn a b c d:=by
 have e:=M5 j k;unfold cp at e;obtain ⟨m,l,f⟩:=List.mem_mapIdx.1 e;obtain ⟨a,b,g,-⟩:=h _ (List.getElem_mem l);rw [<-f,g];exact ⟨_,_,_,_,rfl⟩
def qN (l m:Nat) {y:aa} (a:J y=true/\D 20 y=true):(cm l m y).length=6/\ ∀v∈cm l m y,J v=true/\D 20 v=true:=⟨rfl,λv b=>by
 have a:(cm l m y).all (λv=>J v&&D 20 v)=true:=by show [aa.int .i64 5,.int .i64 0,.str l m,.str 0 0,y,.V].all (λv=>J v&&D 20 v)=true;simp only [aO,a.1,a.2];rfl
 grind⟩
def tZ (r:Y) (c:Bool):J (.A r c)=true/\D 20 (.A r c)=true:=⟨rfl,rfl⟩
def Gj {r q:List aa} (b:r.length=6/\ ∀v∈r,J v=true/\D 20 v=true) (g:q.length=6/\ ∀v∈q,J v=true/\D 20 v=true) (H:af):cT G 33 2 [(0,.agg r),(1,.agg q)] H=some (.A [r,q] true,H):=
 uX (E:=G) (t:=33) (el:=35) (k:=6) (H:=H) (z:= .agg [.int .i64 0,.int .i64 0,.str 0 0,.str 0 0,.V,.V]) aq aq aq al rfl al (.agg r) (.agg q) ⟨b.1,ba.2 λv a=>(b.2 v a).1,ba.2 λv a=>(b.2 v a).2⟩ ⟨g.1,ba.2 λv a=>(g.2 v a).1,ba.2 λv a=>(g.2 v a).2⟩
def fI.mono {el k:Nat} {a b H:af} {v:aa} {rows:Y} (l:fI el k b H v rows) (c:U a b):fI el k a H v rows:=by
 obtain ⟨⟨id,j,d,h,i,e,f⟩,g,m,o⟩:=l;exact ⟨⟨id,j,d,h,i,eT c.n e,f⟩,g,m,c.trans o⟩
def ps (args:Y) (j:Nat):List aa:=match args[j]? with
 |some [.str a b]=>cn 1 86 a b
 |_=> []
def kl (p:Y) (l m:Nat) (args:Y) (j:Nat):List aa:=
 j5 p (l+6+1) (m+104919330677599<<<(8*l)+(48+(j+1))<<<(8*(l+6))) (.A [ps args j,cm (fe l) (gD l m j) (.A ((cp args).eraseIdx j) false)] true) (.A [cm l m (dk ((cp args).set j (ps args j)))] true) (.A [fb (ps args j)] true)
def P.aaI {el k:Nat} {a H:af} {v:aa} {rows:Y} (b:P el k a H v rows) {j:Nat} {r:List aa} (i:rows[j]? =some r) (vs:List aa) (l:vs.length=k) (m: ∀v∈vs,J v=true/\D 20 v=true):
    ∃p H',kA k v (.int .i64 (j:Nat))=some p/\(∀t,Go.aj.O t p=p)/\fh p=true/\(∀tm,hf k p vs tm H= .ok (.av []) tm H')/\P el k a H' v (rows.set j vs)/\iX a.n v v H H':=by
 have q:j<rows.length:=ah;have u:=b.rw.len r ah;obtain ⟨id,g,d,o,H',rfl,-,-,-,-,c,e,h⟩:=b.st i 0 vs ab m;have f:putAt 0 vs r=vs:=by
  unfold putAt
  grind
 rw [f] at e;rw [l] at c;refine ⟨.ptr id g (0+j*k) (0+j*k+k),H',?_,λ_=>rfl,rfl,c,e,h⟩;show (if k=k/\j<rows.length then _ else _)=_
 grind
section
variable {d s:List aa} {kN jv rop j3 aJ ahJ p aU ahI:Y} (aX:fz d s kN jv rop j3 aJ ahJ p aU ahI)
include aX
theorem Vr:bo λad n=> ∀r l m args ls ms st (a j:Nat) H,fB r l m args ls ms st->args.length<=8->(∀q∈st,∃i:Int,q= [.int .i64 i]/\1<=i/\i<=args.length)->st.length<=8->st[a]? =some [.int .i64 ((j+1:Nat):Int)]->Tidy H->
  ∀tm,az G (X G R ad n) 54 [.agg d,.agg r,.int .i64 (a:Nat)] H tm= .ok (.agg (gX p l m args st a j)) tm H:=by
 obtain ⟨c0,bR⟩:=JB;obtain ⟨c1,cy⟩:=Ag;obtain ⟨c2,cz⟩:=DB;obtain ⟨c3,bU⟩:=Js;obtain ⟨c4,bV⟩:=Jt aX;have cB:=aX.eq;obtain ⟨dS,aY,bd,dM,bc,bj,dX,ea,rfl,⟨bt,bz,rfl,ec,dO⟩,cR,cU,⟨br,bx,rfl,eb,dN⟩,cT,cX,⟨bu,bA,rfl,ed,dP⟩,⟨bw,bB,rfl,ee,dQ⟩⟩:=cB;obtain ⟨bm,aW,bf,a8,bq,rfl,cY,cQ,cV,cS,cZ⟩:=aX.bT.eq;refine ⟨c0+c1+c2+c3+c4+40,λad n dA dE r l m args ls ms st a j H L dB b3 dK bY b4=> ?_⟩;obtain ⟨n,rfl⟩: ∃c5,n=c5+1+1:=⟨n-2,ab⟩;obtain ⟨aT,bg,bk,bh,ac,rfl,cA,aE,dW,cH,-⟩:=L.eq;have dz:a<st.length:=ah;obtain ⟨dL,bE,bX,cD⟩:=b3 _ (aV bY);simp only [jn,aa.int.injEq,true_and,and_true] at bE;subst bE;have cE:j<args.length:=ab;obtain ⟨aG,F,z,cf⟩:=bR ad (n+1) ab ab _ l m args ls ms st H L ab b4;have aw:=Ni L.hS;have dJ:=qP args;have ag:=Fi (args:=args) bX ab;have cl:(((j+1:Nat):Int)-1).toNat=j:=ab;rw [cl] at ag;obtain ⟨ef,cP,aP⟩:=aE.fG (k:=1) ah (j:=a) ab;have dD:=L.s1;simp only [bl,a6] at bV|-;refine jQ (aL.at (m:=83) rfl rfl rfl rfl rfl rfl rfl rfl ?_);have eg:List aa:= [];refine ak.bM (λtm h=>H=h/\aM 86 [(2,.int .i64 (a:Nat)),(3,.W 0 [.str bt bz,bm,aW,bf,a8,bq,aY,bd,.str br bx,bc,bj,.str bu bA,.str bw bB]),(4,.W 0 [.str l m,aT,.str ls ms,bg,.int .i64 bh,.int .i64 ac,bk]),(6,.W 0 [.str 0 0,.V,.V,.V,.V,.int .i64 0,.int .i64 0])] tm) ?_ ?_
 . simp only [go_sem,cY.J,cQ.J,cV.J,cS.J,cZ.J,cR.J,cU.J,cT.J,cX.J,cA.J,cH.J,aE.J];exact an.mk ⟨rfl,dC⟩
 rintro tm _ ⟨rfl,hF⟩;refine ak.bF hF (λN tm h=>H=h/\aM 86 [(7,.int .i64 ((j+1:Nat):Int))] tm/\N tm) ?_ ?_
 . simp only [go_sem,hF,aE.O,aE.a_ (k:=1) bY rfl];exact an.mk ⟨rfl,ay⟩
 clear hF;rintro tm _ ⟨rfl,hF⟩;refine ak.bM (λtm h=>F=h/\aM 86 [(2,.int .i64 (a:Nat)),(3,.W 0 [.str bt bz,bm,aW,bf,a8,bq,aY,bd,.str br bx,bc,bj,.str bu bA,.str bw bB]),(4,.W 0 [.str l m,aT,.str ls ms,bg,.int .i64 bh,.int .i64 ac,bk]),(6,.W 0 [.str 0 0,.V,.V,.V,.V,.int .i64 0,.int .i64 0]),(7,.int .i64 ((j+1:Nat):Int)),(8,aG)] tm) ?_ ?_
 . simp only [go_sem,hF,cf,z.O];exact an.mk ⟨rfl,ay⟩
 clear hF;rintro tm _ ⟨rfl,hF⟩;refine ak.bF hF (λN tm h=>F=h/\aM 86 [(9,.V)] tm/\N tm) ?_ ?_
 . simp only [go_sem];exact an.mk ⟨rfl,ay⟩
 clear hF;rintro tm _ ⟨rfl,hF⟩;refine ak.kp [3,4,6,7,8] (λN tm h=> ∃u,P 35 6 F h u ((st.take a).map λq=>fb (jA args (j7 q)))/\M tm 9=u/\N tm) ?_ ?_
 . simp only [go_sem,hF,aE.O,cP,aP.len,aP.O];generalize dx:a1 _ _ _ _ _ _ _ _ _ _=cc;revert cc;refine cv (σ:=aa×af) [3,4,6,7,8,23] (λs=> [(9,s.1)]) (λs=>s.2) (λi s=>P 35 6 F s.2 s.1 (((st.take a).map λq=>fb (jA args (j7 q))).take i)) (st.take a).length (.V,F) (P.new _ _ z.tidy) (hlf:=ah) (hN:=ah) ?_ ?_
   . clear hF;rintro i ⟨u,v⟩ tm dy K hF;simp only at K hF|-;obtain ⟨q,bb⟩: ∃r,(st.take a)[i]? =some r:=ah;have cF:=hQ (aV bb);obtain ⟨cb,rfl,b5,b6⟩:=b3 q cF;have cO:=Fi (args:=args) b5 b6;have aH:IntKind.i64.wrap (cb-1)=(((cb-1).toNat:Nat):Int):=by rw [wrap64 _ ab ab];omega
     obtain ⟨aF,av,aB,Z,-⟩:=(z.at K.tidy K.up).cw.at aw.len cO;obtain ⟨c,e,f,g,ao⟩:=M4 L.hS b5 b6;have aC:=uv c e f g;rw [ao] at Z;have aA:=ki aC v;have ax:=λtm=>qo (ad:=ad) (n:=n) (y:= .A [cn c e f g] true) (H:=v) rfl (λ_=>rfl) rfl rfl (Go.aj.uc _ _ _ _) rfl 7 28558080999846761 tm;have ae:=qN 7 28558080999846761 (tZ [cn c e f g] true);have B:=ki ae v;have aD:Rows 6 [fb (cn c e f g)]:=λq ba=>by rw [bs.1 ba];exact ae
     obtain ⟨bp,Q,w,Y,-⟩:=K.app (E:=G) (t:=33) (b:=96) (i:=t35) aq aq rfl rfl al al (x:= .A [fb (cn c e f g)] true) (aQ:= [_]) (dR (.inr ⟨_,rfl⟩) aD.len) aD (by rw [h6,di,h6];show _+1<_;omega);have cq:((st.take a).map λq=>fb (jA args (j7 q)))[i]? =some (fb (cn c e f g)):=by rw [hO,bb,<-ao];rfl
     rw [<-od cq] at Y;simp only [fb] at w;simp only [go_sem,hF,aP.O,aP.a_ (k:=1) bb rfl,z.O,aH,av,aB,Z,cn] at aA ax B w|-;simp only [go_sem,hF,aA,bH,ax,B,K.O,w,Y.O,cm] at B w|-;exact au.next (bp,Q) rfl Y ay
   . rintro ⟨u,v⟩ tm K hF;simp only at K hF;rw [fT ai] at K;simp only [go_sem];exact an.mk ah
 clear hF;rintro tm v ⟨u,o,hF⟩;obtain ⟨c,e,f,g,ao⟩:=M4 L.hS bX cD;have aC:=uv c e f g;have aH:IntKind.i64.wrap (((j+1:Nat):Int)-1)=(j:Nat):=by rw [wrap64 _ ab ab];omega
 rw [ao] at ag;refine ak.bM (λtm h=> ∃u,P 35 6 F h u (lQ args st a j)/\aM 86 [(3,.W 0 [.str bt bz,bm,aW,bf,a8,bq,aY,bd,.str br bx,bc,bj,.str bu bA,.str bw bB]),(4,.W 0 [.str l m,aT,.str ls ms,bg,.int .i64 bh,.int .i64 ac,bk]),(6,.W 0 [.str 0 0,.V,.V,.V,.V,.int .i64 0,.int .i64 0]),(7,.int .i64 ((j+1:Nat):Int)),(8,aG),(9,u)] tm) ?_ ?_
 . obtain ⟨aF,av,aB,Z,-⟩:=(z.at o.tidy o.up).cw.at aw.len ag;have aA:=ki aC v;have ax:=λtm=>qo (ad:=ad) (n:=n) (y:= .A [cn c e f g] true) (H:=v) rfl (λ_=>rfl) rfl rfl (Go.aj.uc _ _ _ _) rfl 7 28558080999846761 tm;have ae:=qN 7 28558080999846761 (tZ [cn c e f g] true);have B:=ki ae v;have a7:=λtm=>qo (ad:=ad) (n:=n) (y:= .A [cm 7 28558080999846761 (.A [cn c e f g] true)] true) (H:=v) rfl (λ_=>rfl) rfl rfl (Go.aj.uc _ _ _ _) rfl 3 7630702 tm;have b2:=qN 3 7630702 (tZ [cm 7 28558080999846761 (.A [cn c e f g] true)] true);have aN:=ki b2 v;have aD:Rows 6 [n2 (cn c e f g)]:=λq ba=>by rw [bs.1 ba];exact b2
   obtain ⟨bp,Q,w,Y,-⟩:=o.app (E:=G) (t:=33) (b:=96) (i:=t35) aq aq rfl rfl al al (x:= .A [n2 (cn c e f g)] true) (aQ:= [_]) (dR (.inr ⟨_,rfl⟩) aD.len) aD ah;have aZ:((st.take a).map λq=>fb (jA args (j7 q)))++ [n2 (cn c e f g)]=lQ args st a j:=by unfold lQ;rw [ao]
   rw [aZ] at Y;simp only [n2,fb] at w;simp only [go_sem,hF,z.O,aH,av,aB,Z,cn] at aA ax B a7 aN w|-;simp only [go_sem,hF,aA,bH,ax,cm] at B a7 aN w|-;simp only [go_sem,hF,B,bH,a7,aN,o.O,w,Y.O] at aN w|-;exact an.mk ⟨bp,Y,ay⟩
 clear hF o;rintro tm Q ⟨u,o,hF⟩;obtain ⟨dZ,dq,bQ,cg⟩:=bR ad (n+1) ab ab _ l m args ls ms st Q L ab o.tidy;obtain ⟨ca,bC,⟨I,dI,dw⟩,aZ⟩:=I9 (ad:=ad) (n:=n) bQ (j:=j) ab ab;refine ak.bF hF (λN tm h=>bC=h/\aM 86 [(12,ca)] tm/\N tm) ?_ ?_
 . simp only [go_sem,hF,cg,aH,bQ.O,aZ,I.O];exact an.mk ⟨rfl,ay⟩
 clear hF;rintro tm _ ⟨rfl,hF⟩;have C:=z.at I.tidy (o.up.trans I.up);obtain ⟨aS,dc,aR,b9,dT,c6,b7⟩:=C.r2 48 al al;have dt: ∀id,cW ca=some id->Q.n<=id:=λid ar=>(I.ge ar).1;have ds: ∀id,cW aG=some id->id<F.n:=λid ar=>z.W.lt ar;have du: ∀id,cW u=some id->F.n<=id/\id<Q.n:=λid ar=>⟨o.W.ge ar,o.W.lt ar⟩;have dv:=o.up.n;have cL:U H Q:=z.up.trans o.up;have S:=(I.mono cL).bS aR (b9 H ab C.up) ah;have cu:=(o.at I.tidy I.up).mono z.up;have cx:=cu.bS aR (b9 H ab C.up) ah;obtain ⟨aK,dd,bn,dg,dU,c7⟩:=S.r2 48 al al;have T:=cx.bS bn (dg H ab S.up) ah;obtain ⟨bD,de,dY,dh,dV,c8,-⟩:=T.r2 48 al al;have bI:=λtm=>qo (ad:=ad) (n:=n) C.nl C.O C.ok C.cs dc c6 l m tm;have b1:=qN l m (y:=dk (cp args)) ⟨(fW _).J,(fW _).aI _⟩;have bW:=ki b1 aS;have bJ:=λtm=>bU ad (n+1) ab ab (.A [cm l m (dk (cp args))] true) _ aS (.inr ⟨_,rfl⟩) aR tm;obtain ⟨aF,av,aB,Z,-⟩:=b7.at aw.len ag;have bK:=λtm=>cz ad (n+1) ab ab _ l m args ls ms st j aS L ab cE aR tm;have bL:=λtm=>qo (ad:=ad) (n:=n) S.nl S.O S.ok S.cs dd c7 (fe l) (gD l m j) tm;have ae:=qN (fe l) (gD l m j) (tZ ((cp args).eraseIdx j) false);have B:=Gj aC ae aK;have bN:=λtm=>bU ad (n+1) ab ab (.A [cn c e f g,cm (fe l) (gD l m j) (.A ((cp args).eraseIdx j) false)] true) _ aK (.inr ⟨_,rfl⟩) bn tm;have bO:=λtm=>bV ad (n+1) ab ab (l+6+1) (m+104953454880863<<<(8*l)+(48+(j+1))<<<(8*(l+6))) (.A [cm l m (dk (cp args))] true) (.A [cn c e f g,cm (fe l) (gD l m j) (.A ((cp args).eraseIdx j) false)] true) u (dk (lQ args st a j)) _ _ aK bD (.inr ⟨_,rfl⟩) (.inr ⟨_,rfl⟩) bn T.nl T.O T.ok T.cs de c8 tm;have bG:=λtm=>cy ad (n+1) ab ab (j+1) ab bC tm I.tidy;simp only at bG;have dj:l+6<=ht:=by unfold ht;omega
 have dm:l+6+1<=ht:=by unfold ht;omega
 have cC:gX p l m args st a j=j5 p (l+6+1) (m+104953454880863<<<(8*l)+(48+(j+1))<<<(8*(l+6))) (.A [cm l m (dk (cp args))] true) (.A [cn c e f g,cm (fe l) (gD l m j) (.A ((cp args).eraseIdx j) false)] true) (dk (lQ args st a j)):=by unfold gX;rw [ao]
 rw [cC];have dp:=(fW (lQ args st a j)).J;have dn:=(fW (lQ args st a j)).aI 18;generalize dk (lQ args st a j)=cd at*;generalize dk (cp args)=dr at*;have cM:=dh H ab T.up;have bP:=k7 b1;have cr:=k7 aC;have ct:=k7 ae;have cI:=CI av;have b8:cG aK 6 aG (cp args):=b7.bS ah;have df:cG bD 6 aG (cp args):=b8.bS ah;obtain ⟨c9,dF,-,bZ,-⟩:=C.cw.at aw.len ag;obtain ⟨da,dG,-,b0,-⟩:=b8.at aw.len ag;obtain ⟨db,dH,-,cJ,-⟩:=df.at aw.len ag;have ch:c9=aF:=ah;have cj:da=aF:=ah;have ck:db=aF:=ah;subst ch cj ck;have cK:f_ (some (.agg [.int .i64 6,.int .i64 0,.str c e,.str f g,.V,.V])) (some (.agg [.int .i64 6,.int .i64 0,.str c e,.str f g,.V,.V]))=true:=by simp [f_,cN,eu]
 simp only [eX,cn,cm,ko,j5] at bW B bI bJ bK bL bN bO Z bZ b0 cJ bP cr ct|-;simp only [go_sem,hF,aH,dj,dm,bG,bI,bW,bH,bJ,C.O,av,aB,Z,bK,bL,S.O,B,bN,T.O,bO,dp,bP,cI,bZ,b0,cK];refine ak.mk rfl ?_ b4 cM;show List.all [_,_,cd,_,_,_,_] (D 19)=true;simp only [aO,dn];rfl
theorem Vd:bo λad n=> ∀r l m args ls ms st (j:Nat) H,fB r l m args ls ms st->args.length<=8->j<args.length->Tidy H->
  ∀tm,az G (X G R ad n) 55 [.agg d,.agg r,.int .i64 ((j+1:Nat):Nat)] H tm= .ok (.agg (kl p l m args j)) tm H:=by
 obtain ⟨bK,aK⟩:=JB;obtain ⟨bL,bk⟩:=Ag;obtain ⟨bN,bm⟩:=DB;obtain ⟨bO,aN⟩:=Js;obtain ⟨bP,aO⟩:=Jt aX;obtain ⟨bQ,bn⟩:=Fc;have bq:=aX.eq;obtain ⟨ct,B,L,cj,K,Q,cz,cB,rfl,⟨ae,aq,rfl,cD,cl⟩,bA,bD,⟨aa,ao,rfl,cC,ck⟩,bC,bG,⟨af,ar,rfl,cE,cq⟩,⟨ag,au,rfl,cF,cr⟩⟩:=bq;obtain ⟨T,z,M,C,Y,rfl,bI,bz,bE,bB,bJ⟩:=aX.bT.eq;refine ⟨bK+bL+bN+bO+bP+bQ+40,λad n ca cd r l m args ls ms st j H i cb bs I=> ?_⟩;obtain ⟨n,rfl⟩: ∃bR,n=bR+1+1:=⟨n-2,ab⟩;obtain ⟨x,N,S,P,ac,rfl,F,bu,cy,bt,-⟩:=i.eq;obtain ⟨bW,aT⟩: ∃r,args[j]? =some r:=⟨args[j],ai⟩;obtain ⟨a,b,rfl,-⟩:=i.hS bW ah;have bp:ps args j=cn 1 86 a b:=by unfold ps;rw [aT]
 have q:=uv 1 86 a b;obtain ⟨U,ba,D,bb⟩:=aK ad (n+1) ab ab _ l m args ls ms st H i ab I;have cg:=Ni i.hS;have ch:=qP args;obtain ⟨cG,bx⟩: ∃r,(cp args)[j]? =some r:=ah;have Z:IntKind.i64.wrap (((j+1:Nat):Int)-1)=(j:Nat):=by rw [wrap64 _ ab ab];omega
 have cc:=i.s1;simp only [bl,a6] at aO|-;refine jQ (aL.at (m:=54) rfl rfl rfl rfl rfl rfl rfl rfl ?_);refine ak.bM (λtm c=>H=c/\aM 57 [(2,.int .i64 ((j+1:Nat):Int)),(3,.W 0 [.str ae aq,T,z,M,C,Y,B,L,.str aa ao,K,Q,.str af ar,.str ag au]),(4,.W 0 [.str l m,x,.str ls ms,N,.int .i64 P,.int .i64 ac,S]),(6,.W 0 [.str 0 0,.V,.V,.V,.V,.int .i64 0,.int .i64 0]),(7,.av [])] tm) ?_ ?_
 . simp only [go_sem,bI.J,bz.J,bE.J,bB.J,bJ.J,bA.J,bD.J,bC.J,bG.J,F.J,bt.J,bu.J];exact an.mk ⟨rfl,dC⟩
 rintro tm _ ⟨rfl,hF⟩;have o:=λtm=>bn ad (n+1) ab ab (1,86,a,b) trivial H tm I;simp only at o;refine ak.bM (λtm c=>H=c/\aM 57 [(2,.int .i64 ((j+1:Nat):Int)),(3,.W 0 [.str ae aq,T,z,M,C,Y,B,L,.str aa ao,K,Q,.str af ar,.str ag au]),(4,.W 0 [.str l m,x,.str ls ms,N,.int .i64 P,.int .i64 ac,S]),(6,.W 0 [.str 0 0,.V,.V,.V,.V,.int .i64 0,.int .i64 0]),(7,.W 0 (cn 1 86 a b))] tm) ?_ ?_
 . simp only [go_sem,hF,F.O,F.a_ (k:=1) aT rfl,Z,o,cn];exact an.mk ⟨rfl,ay⟩
 clear hF;rintro tm _ ⟨rfl,hF⟩;refine ak.bF hF (λv tm c=>ba=c/\aM 57 [(8,U)] tm/\v tm) ?_ ?_
 . simp only [go_sem,hF,bb,D.O];exact an.mk ⟨rfl,ay⟩
 clear hF;rintro tm _ ⟨rfl,hF⟩;obtain ⟨cw,t,b3,b4,cH,a8,u,-⟩:=D.aaI bx (cn 1 86 a b) q.1 q.2;refine ak.bM (λtm c=>t=c/\aM 57 [(2,.int .i64 ((j+1:Nat):Int)),(3,.W 0 [.str ae aq,T,z,M,C,Y,B,L,.str aa ao,K,Q,.str af ar,.str ag au]),(4,.W 0 [.str l m,x,.str ls ms,N,.int .i64 P,.int .i64 ac,S]),(6,.W 0 [.str 0 0,.V,.V,.V,.V,.int .i64 0,.int .i64 0]),(7,.W 0 (cn 1 86 a b)),(8,U)] tm) ?_ ?_
 . simp only [cn] at hF a8;simp only [go_sem,hF,Z,D.O,b3,b4,a8];exact an.mk ⟨rfl,by simp only [go_sem,hF,cn]⟩
 clear hF;rintro tm _ ⟨rfl,hF⟩;obtain ⟨cA,b5,aH,bc⟩:=aK ad (n+1) ab ab _ l m args ls ms st t i ab u.tidy;obtain ⟨a7,w,⟨g,cf,b9⟩,bd⟩:=I9 (ad:=ad) (n:=n) aH (j:=j) ab ab;refine ak.bF hF (λv tm c=>w=c/\aM 57 [(9,a7)] tm/\v tm) ?_ ?_
 . simp only [go_sem,hF,bc,Z,aH.O,bd,g.O];exact an.mk ⟨rfl,ay⟩
 clear hF;rintro tm _ ⟨rfl,hF⟩;have b8: ∀id,cW a7=some id->t.n<=id:=λid E=>(g.ge E).1;have b7: ∀id,cW U=some id->id<t.n:=λid E=>u.W.lt E;have bj:=u.at g.tidy g.up;have h:=g.mono u.up;obtain ⟨aw,bY,aZ,bZ,cu,bU⟩:=h.r2 48 al al;have f:=bj.bS aZ (bZ H ab h.up) ah;obtain ⟨e,bX,a1,b0,cv,bV,cx⟩:=f.r2 48 al al;have aV:=qN l m (y:=dk ((cp args).set j (cn 1 86 a b))) ⟨(fW _).J,(fW _).aI _⟩;have aP:=ki aV e;have aW:=qN (fe l) (gD l m j) (tZ ((cp args).eraseIdx j) false);have aQ:=Gj q aW aw;have aY:=qN 7 28558080999846761 (tZ [cn 1 86 a b] true);have aR:=ki q e;have aS:=ki aY e;have aA:=λtm=>qo (ad:=ad) (n:=n) f.nl f.O f.ok f.cs bX bV l m tm;have aB:=λtm=>aN ad (n+1) ab ab (.A [cm l m (dk ((cp args).set j (cn 1 86 a b)))] true) _ e (.inr ⟨_,rfl⟩) a1 tm;have o:=λtm=>bm ad (n+1) ab ab _ l m args ls ms st j w i ab bs g.tidy tm;have aC:=λtm=>qo (ad:=ad) (n:=n) h.nl h.O h.ok h.cs bY bU (fe l) (gD l m j) tm;have aD:=λtm=>aN ad (n+1) ab ab (.A [cn 1 86 a b,cm (fe l) (gD l m j) (.A ((cp args).eraseIdx j) false)] true) _ aw (.inr ⟨_,rfl⟩) aZ tm;have aF:=λtm=>qo (ad:=ad) (n:=n) (y:= .A [cn 1 86 a b] true) (H:=e) rfl (λ_=>rfl) rfl rfl (Go.aj.uc _ _ _ _) rfl 7 28558080999846761 tm;have aE:=λtm=>aO ad (n+1) ab ab (l+6+1) (m+104919330677599<<<(8*l)+(48+(j+1))<<<(8*(l+6))) (.A [cn 1 86 a b,cm (fe l) (gD l m j) (.A ((cp args).eraseIdx j) false)] true) (.A [cm l m (dk ((cp args).set j (cn 1 86 a b)))] true) (.A [fb (cn 1 86 a b)] true) (.A [fb (cn 1 86 a b)] true) _ _ e e (.inr ⟨_,rfl⟩) (.inr ⟨_,rfl⟩) a1 rfl (λ_=>rfl) rfl rfl (Go.aj.uc _ _ _ _) rfl tm;have ax:=λtm=>bk ad (n+1) ab ab (j+1) ab w tm g.tidy;simp only at ax;have b1:l+6<=ht:=by unfold ht;omega
 have b2:l+6+1<=ht:=by unfold ht;omega
 have br:kl p l m args j=j5 p (l+6+1) (m+104919330677599<<<(8*l)+(48+(j+1))<<<(8*(l+6))) (.A [cn 1 86 a b,cm (fe l) (gD l m j) (.A ((cp args).eraseIdx j) false)] true) (.A [cm l m (dk ((cp args).set j (cn 1 86 a b)))] true) (.A [fb (cn 1 86 a b)] true):=by unfold kl;rw [bp]
 rw [br];generalize dk ((cp args).set j (cn 1 86 a b))=b6 at*;have bw:=b0 H ab f.up;have bf:=k7 aV;have aG:=k7 q;have bg:=k7 aW;have bh:=k7 aY;simp only [eX,cn,cm,ko,j5,fb] at hF aP aQ aR aS aA aB o aC aD aE aF bf aG bg bh|-;simp only [go_sem,hF,b1,b2,ax,aA,aP,bH,aB,f.O,o,aC,h.O,aQ,aD,aF,aR,aS,aE,aG];exact ak.mk rfl rfl I bw
end
def iR (r:List aa) (a:Nat):Nat:=(j7 (((f (M r 6))[a]?).getD [])).toNat-1
def j4 (p:Y) (b c:Bool) (r:List aa) (e:Nat):Y:=match r with
 | .str g h::a::_=>(if b then [gX p g h (f a) (f (M r 6)) e (iR r e)] else [])++(if c then [kl p g h (f a) (iR r e)] else [])
 |_=> []
def qF (p:Y) (b c:Bool) (r:List aa):Y:=(List.range (f (M r 6)).length).flatMap (j4 p b c r)
def kO (p:Y) (b c:Bool) (rop:Y):Y:=rop.flatMap (qF p b c)
def oM (r:List aa) (b:Nat):List aa:=match r with
 | .str c e::a:: .str ls ms::_=>ko c e (f a) ls ms (iR r b)
 |_=> []
def rj (r:List aa):Y:=(List.range (f (M r 6)).length).map (oM r)
def oN (rop:Y):Y:=rop.flatMap rj
def YV {α:Type} (f:Nat->List α) (k:Nat):(List.range (k+1)).flatMap f=(List.range k).flatMap f++f k:=by rw [List.range_succ,List.flatMap_append];simp
theorem YW {α:Type} (f:Nat->α) (k:Nat):(List.range (k+1)).map f=(List.range k).map f++ [f k]:=by rw [List.range_succ,vR];rfl
def nF {α β:Type} (f:α->List β) (M:Nat): ∀(l:List α),(∀x∈l,(f x).length<=M)->(l.flatMap f).length<=l.length*M
 | [],_=>by simp
 |a::l,b=>by have c:=b a (dF ..);have e:=nF f M l ah;rw [yL,bD,cl,iK];omega
def zK (p b c r rN):(j4 p b c r rN).length<=2:=by
 unfold j4
 grind
def HA: ∀(n:Nat) (l:Y),(∀q∈l,∃i:Int,q= [.int .i64 i]/\1<=i/\i<=n)->l.Pairwise (· ≠ ·)->l.length<=n
 | 0,l,f,_=>by
   cases l with
   |nil=>simp
   |cons e l=>obtain ⟨i,-,b,m⟩:=f e (dF ..);omega
 | n+1,l,f,h=>by
   have v:=HA n (l.filter λq=>j7 q !=((n+1:Nat):Int)) (λq a=>by
    rw [List.mem_filter] at a;obtain ⟨i,rfl,b,m⟩:=f q a.1;refine ⟨i,rfl,b,?_⟩;have g:i≠((n+1:Nat):Int):=λk=>by have:=a.2;rw [k] at this;simp [j7] at this
    omega) ah
   have : ∀(l:Y),(∀q∈l,∃i:Int,q= [.int .i64 i])->l.Pairwise (· ≠ ·)->l.length<=(l.filter λq=>j7 q !=((n+1:Nat):Int)).length+1:=by
    intro l
    induction l with
    |nil=>simp
    | cons e l r=>
      intro a h;have j:=hq.1 h;obtain ⟨t,rfl⟩:=a e (dF ..);by_cases o:t=((n+1:Nat):Int)
      . have:l.filter (λq=>j7 q !=((n+1:Nat):Int))=l:=CV.2 λq c=>by have b:=j.1 q c;obtain ⟨u,rfl⟩:=a q (h8 _ c);have g:u≠((n+1:Nat):Int):=ah;simpa [j7] using g
        grind
      . have b:=r (λq c=>a q (h8 _ c)) j.2;rw [tx,if_pos (by simpa [j7] using o)]
        grind
   grind
def nm.st {kN rop j3:Y} (c3:nm kN rop j3) {r} (f:r∈rop) {l m args ls ms st} (e:fB r l m args ls ms st):args.length<=8/\(∀q∈st,∃i:Int,q= [.int .i64 i]/\1<=i/\i<=args.length)/\st.length<=8:=by
 obtain ⟨a,b,c⟩:=c3.ops r f l m args ls ms st e;exact ⟨a,b,eT (HA args.length st b c.1) a⟩
def LB {p:Y} {a b:Nat} {c e w:aa} (f:J w=true/\D 20 w=true):(j5 p a b c e w).length=7/\ ∀v∈j5 p a b c e w,J v=true/\D 20 v=true:=⟨rfl,λv c3=>by
 have f:(j5 p a b c e w).all (λv=>J v&&D 20 v)=true:=by show [aa.str a b,.A [wH p c e] true,w,.V,.V,.int .i64 0,.int .i64 0].all (λv=>J v&&D 20 v)=true;simp only [aO,f.1,f.2];rfl
 grind⟩
def Is (p l m args st rN j):(gX p l m args st rN j).length=7/\ ∀v∈gX p l m args st rN j,J v=true/\D 20 v=true:=LB ⟨(fW _).J,(fW _).aI _⟩
def GN (p l m args j):(kl p l m args j).length=7/\ ∀v∈kl p l m args j,J v=true/\D 20 v=true:=LB ⟨rfl,rfl⟩
def Gk {r:List aa} (a:r.length=7/\ ∀v∈r,J v=true/\D 20 v=true) (H:af):cT G 29 1 [(0,.agg r)] H=some (.A [r] true,H):=
 mo (E:=G) (t:=29) (el:=64) (k:=7) (H:=H) (z:= .agg [.str 0 0,.V,.V,.V,.V,.int .i64 0,.int .i64 0]) aq aq aq al rfl al (.agg r) ⟨a.1,ba.2 λv c3=>(a.2 v c3).1,ba.2 λv c3=>(a.2 v c3).2⟩
def O6 {r:List aa} (a:r.length=7/\ ∀v∈r,J v=true/\D 20 v=true) (H:af):cT G 24 1 [(0,.agg r)] H=some (.A [r] true,H):=
 mo (E:=G) (t:=24) (el:=52) (k:=7) (H:=H) (z:= .agg [.str 0 0,.V,.str 0 0,.V,.int .i64 0,.int .i64 0,.V]) aq aq aq al rfl al (.agg r) ⟨a.1,ba.2 λv c3=>(a.2 v c3).1,ba.2 λv c3=>(a.2 v c3).2⟩
section
variable {d s:List aa} {kN jv rop j3 aJ ahJ p aU ahI:Y} (aX:fz d s kN jv rop j3 aJ ahJ p aU ahI) (c3:nm kN rop j3)
include aX c3
theorem Jx:bo λad n=> ∀(b c:Bool) H,Tidy H-> ∃v H',P 64 7 H H' v (kO p b c rop)/\ ∀tm,az G (X G R ad n) 29 [.agg d,.bool b,.bool c] H tm= .ok v tm H':=by
 obtain ⟨bC,aE⟩:=Vr aX;obtain ⟨bE,aF⟩:=Vd aX;have aK:=aX.bT.op;have b6:=c3.len;have b9: ∀S∈rop,(qF p true true S).length<=16:=λS aN=>by
  obtain ⟨a,e,u,l,o,y,D⟩:=aK S aN;have b1:=(c3.st aN D).2.2;obtain ⟨j,q,h,r,ac,rfl,ar,B,bI,aL,-⟩:=D.eq;have:=nF (j4 p true true [.str a e,j,.str l o,q,.int .i64 r,.int .i64 ac,h]) 2 (List.range (f h).length) λ_ _=>zK ..
  rw [nS,bm B] at this;show ((List.range (f h).length).flatMap _).length<=16;rw [bm B];omega
 have bg:=aX.eq;obtain ⟨cj,aY,bG,cc,bF,bJ,ck,cl,rfl,⟨bP,bU,rfl,cn,cf⟩,br,bw,⟨bO,bS,rfl,cm,cd⟩,bu,bx,⟨bQ,bV,rfl,cp,cg⟩,⟨bR,bW,rfl,cq,ch⟩⟩:=bg;obtain ⟨bK,aW,aR,bd,bN,rfl,bz,bq,Q,bt,bB⟩:=aX.bT.eq;refine ⟨bC+bE+300,λad n b5 b8 b c H aP=> ?_⟩;obtain ⟨n,rfl⟩:=bY n;simp only [bl,a6] at aE aF|-;refine bn.at (m:=44) rfl rfl rfl rfl rfl rfl rfl rfl ?_;simp only [go_sem,bz.J,bq.J,Q.J,bt.J,bB.J,br.J,bw.J,bu.J,bx.J,Q.O,Q.len];have hF:=trivial;generalize bf:a1 _ _ _ _ _ _ _ _ _ _=aj;revert aj;refine cv [1,2,3,14] (λs=> [(7,s.1)]) (λs=>s.2) (λF s=>P 64 7 H s.2 s.1 ((rop.take F).flatMap (qF p b c))/\((rop.take F).flatMap (qF p b c)).length<=F*16) rop.length (.V,H) ⟨P.new _ _ aP,ai⟩ ?_ ?_
 . rintro F ⟨v,ag⟩ tm bh ⟨w,b2⟩ hF;simp only at w hF|-;obtain ⟨S,Z⟩:=bA bh;have aI:=aV Z;obtain ⟨a,e,u,l,o,y,D⟩:=aK S aI;obtain ⟨aH,aO,bp⟩:=c3.st aI D;have bk:=D;obtain ⟨j,q,h,r,ac,rfl,ar,B,bI,aL,-⟩:=bk.eq;have b0:f j=u:=bm ar;have aC:f h=y:=bm B;have bb: ∀g,j4 p b c [.str a e,j,.str l o,q,.int .i64 r,.int .i64 ac,h] g=(if b then [gX p a e u y g (iR [.str a e,j,.str l o,q,.int .i64 r,.int .i64 ac,h] g)] else [])++(if c then [kl p a e u (iR [.str a e,j,.str l o,q,.int .i64 r,.int .i64 ac,h] g)] else []):=λg=>by
    show (if b then [gX p a e (f j) (f h) g _] else [])++(if c then [kl p a e (f j) _] else [])=_
    grind
   have aB:qF p b c [.str a e,j,.str l o,q,.int .i64 r,.int .i64 ac,h]=(List.range y.length).flatMap (j4 p b c [.str a e,j,.str l o,q,.int .i64 r,.int .i64 ac,h]):=by show (List.range (f h).length).flatMap _=_;rw [aC]
   have b7:(qF p b c [.str a e,j,.str l o,q,.int .i64 r,.int .i64 ac,h]).length<=16:=by
    rw [aB];have:=nF (j4 p b c [.str a e,j,.str l o,q,.int .i64 r,.int .i64 ac,h]) 2 (List.range y.length) ah
    grind
   refine au.kp [16,15,1,2,3,14] (λaf tm H'=>ag=H'/\ ∃ax,M tm 7=v/\M tm 9= .W ax [.str a e,j,.str l o,q,.int .i64 r,.int .i64 ac,h]/\af tm) ?_ ?_
   . simp only [go_sem,hF,Q.O,Q.a_ (k:=7) Z rfl,ar.J,aL.J,B.J];exact an.mk ⟨rfl,_,by simp only [go_sem,hF];trivial⟩
   clear hF;rintro tm _ ⟨rfl,ax,hF⟩;simp only [go_sem,hF,B.O,B.len];generalize bf:a1 _ _ _ _ _ _ _ _ _ _=aj;revert aj;generalize aG:(rop.take F).flatMap (qF p b c)=C at*;refine cv [16,15,1,2,3,14,9,21] (λs=> [(7,s.1)]) (λs=>s.2) (λg s=>P 64 7 H s.2 s.1 (C++(List.range g).flatMap (j4 p b c [.str a e,j,.str l o,q,.int .i64 r,.int .i64 ac,h]))) y.length (v,ag) ah ?_ ?_
   . clear hF;rintro g ⟨v,I⟩ tm bj w hF;simp only at w hF|-;obtain ⟨aS,Y⟩:=bA bj;obtain ⟨aa,rfl,ca,cb⟩:=aO _ (aV Y);have ba:iR [.str a e,j,.str l o,q,.int .i64 r,.int .i64 ac,h] g=aa.toNat-1:=by show (j7 (((f h)[g]?).getD [])).toNat-1=_;rw [aC,Y];rfl
     have bc:aa=((aa.toNat-1+1:Nat):Int):=ab;have aD:=bb g;rw [ba] at aD;generalize aa.toNat-1=z at*;subst bc;have b3:(C++(List.range g).flatMap (j4 p b c [.str a e,j,.str l o,q,.int .i64 r,.int .i64 ac,h])).length+2<1048560:=by
      have:=nF (j4 p b c [.str a e,j,.str l o,q,.int .i64 r,.int .i64 ac,h]) 2 (List.range g) ah
      grind
     have aZ:C++(List.range (g+1)).flatMap (j4 p b c [.str a e,j,.str l o,q,.int .i64 r,.int .i64 ac,h])=C++(List.range g).flatMap (j4 p b c [.str a e,j,.str l o,q,.int .i64 r,.int .i64 ac,h])++(if b then [gX p a e u y g z] else [])++(if c then [kl p a e u z] else []):=by rw [YV,aD,<-fu,<-fu]
     generalize C++(List.range g).flatMap (j4 p b c [.str a e,j,.str l o,q,.int .i64 r,.int .i64 ac,h])=ae at*;refine au.bM (λtm H'=>I=H'/\aM 47 [(23,.int .i64 (g:Nat)),(22,.int .i64 (y.length:Nat)),(16,.int .i64 (F:Nat)),(15,.int .i64 (rop.length:Nat)),(1,.bool b),(2,.bool c),(3,.W 0 [.str bP bU,bK,aW,aR,bd,bN,aY,bG,.str bO bS,bF,bJ,.str bQ bV,.str bR bW]),(7,v),(14,aR),(9,.W ax [.str a e,j,.str l o,q,.int .i64 r,.int .i64 ac,h]),(21,h),(10,.int .i64 (g:Nat)),(11,.int .i64 ((z+1:Nat):Int))] tm) ?_ ?_
     . simp only [go_sem,hF,B.O,B.a_ (k:=1) Y rfl];exact an.mk ⟨rfl,ay⟩
     clear hF;rintro tm _ ⟨rfl,hF⟩;have a8:=λtm=>aE ad n ab ab _ a e u l o y g z I D aH aO bp Y w.tidy tm;refine au.kp [23,22,16,15,1,2,3,14,9,21,11] (λaf tm H'=> ∃v,P 64 7 H H' v (ae++(if b then [gX p a e u y g z] else []))/\M tm 7=v/\af tm) ?_ ?_
     . cases b with
       | false=>
         simp only [go_sem,hF];exact an.mk ⟨v,ah,ay⟩
       | true=>
         have L:=Is p a e u y g z;have av:=Gk L I;have N:Rows 7 [gX p a e u y g z]:=λaS aw=>by rw [bs.1 aw];exact L
         obtain ⟨aA,T,ak,K,-⟩:=w.app (E:=G) (t:=29) (b:=128) (i:=t64) aq aq rfl rfl al al (x:= .A [gX p a e u y g z] true) (aQ:= [_]) (dR (.inr ⟨_,rfl⟩) N.len) N ah;simp only [go_sem,hF,a8,av,bH,w.O,ak,K.O];exact an.mk ⟨aA,K,ay⟩
     clear hF;rintro tm T ⟨bL,ao,hF⟩;have a7:=λtm=>aF ad n ab ab _ a e u l o y z T D aH ab ao.tidy tm;have b4:(ae++(if b then [gX p a e u y g z] else [])).length+1<1048560:=ah;generalize ae++(if b then [gX p a e u y g z] else [])=bZ at*
     cases c with
     | false=>
       simp only [go_sem,hF];exact au.next (bL,T) rfl (by show P _ 7 H _ _ (C++(List.range (g+1)).flatMap _);grind) ay
     | true=>
       have L:=GN p a e u z;have av:=Gk L T;have N:Rows 7 [kl p a e u z]:=λaS aw=>by rw [bs.1 aw];exact L
       obtain ⟨aA,aT,ak,K,-⟩:=ao.app (E:=G) (t:=29) (b:=128) (i:=t64) aq aq rfl rfl al al (x:= .A [kl p a e u z] true) (aQ:= [_]) (dR (.inr ⟨_,rfl⟩) N.len) N ab;simp only [go_sem,hF,a7,av,bH,ao.O,ak,K.O];exact au.next (aA,aT) rfl (by show P _ 7 H _ _ (C++(List.range (g+1)).flatMap _);rw [aZ];exact K) ay
   . clear hF;rintro ⟨v,I⟩ tm w hF;simp only at w hF;simp only [go_sem];rw [<-aB] at w;refine au.next (v,I) rfl ⟨by rw [kR _ Z,aG];exact w,by rw [kR _ Z,aG,bD];omega⟩ ay
 . rintro ⟨v,ag⟩ tm ⟨w,-⟩ hF;simp only at w hF;rw [bX] at w;simp only [go_sem,hF,w.O,w.nl,dX,if_true];exact bn.mk (w.gc aP (U.refl _) (d:=19) id)
end
def HP (l m args ls ms j):(ko l m args ls ms j).length=7/\ ∀v∈ko l m args ls ms j,J v=true/\D 20 v=true:=⟨rfl,λv c3=>by
 have a:(ko l m args ls ms j).all (λv=>J v&&D 20 v)=true:=rfl;have:=ba.1 a v c3;simpa using this⟩
section
variable {d s:List aa} {kN jv rop j3 aJ ahJ p aU ahI:Y} (aX:fz d s kN jv rop j3 aJ ahJ p aU ahI) (c3:nm kN rop j3)
include aX c3
theorem Vo:bo λad n=> ∀H,Tidy H-> ∃v,F v (oN rop)/\ ∀tm,az G (X G R ad n) 35 [.agg d] H tm= .ok v tm H:=by
 obtain ⟨bh,aI⟩:=DB;have aS:=aX.bT.op;have bB:=c3.len;have aN:=aX.eq;obtain ⟨bP,br,bQ,bJ,bO,bU,bW,b1,rfl,⟨b7,cb,rfl,b3,bL⟩,a8,bc,⟨b6,ca,rfl,b2,bK⟩,bb,bd,⟨b8,cc,rfl,b4,bM⟩,⟨b9,cd,rfl,b5,bN⟩⟩:=aN;obtain ⟨bV,bq,bR,bt,bZ,rfl,bf,a7,B,ba,bg⟩:=aX.bT.eq;refine ⟨bh+300,λad n bx bE H ao=> ?_⟩;obtain ⟨n,rfl⟩:=bY n;simp only [bl,a6];refine hg (aL.at (m:=31) rfl rfl rfl rfl rfl rfl rfl rfl ?_);simp only [go_sem,bf.J,a7.J,B.J,ba.J,bg.J,a8.J,bc.J,bb.J,bd.J,B.O,B.len];have hF:=trivial;generalize aK:a1 _ _ _ _ _ _ _ _ _ _=Q;revert Q;refine cv [10] (λs=> [(3,s.1)]) (λs=>s.2) (λz s=>P 52 7 H s.2 s.1 ((rop.take z).flatMap rj)/\((rop.take z).flatMap rj).length<=z*8) rop.length (.V,H) ⟨P.new _ _ ao,ai⟩ ?_ ?_
 . rintro z ⟨v,N⟩ tm aO ⟨a,bu⟩ hF;simp only at a hF|-;obtain ⟨bk,I⟩:=bA aO;have ag:=aV I;obtain ⟨c,g,u,e,h,K,S⟩:=aS bk ag;obtain ⟨bz,aZ,bF⟩:=c3.st ag S;have aR:=S;obtain ⟨l,q,j,r,ac,rfl,af,y,bS,aW,-⟩:=aR.eq;have aE:f l=u:=bm af;have Y:f j=K:=bm y;have aF: ∀o,oM [.str c g,l,.str e h,q,.int .i64 r,.int .i64 ac,j] o=ko c g u e h (iR [.str c g,l,.str e h,q,.int .i64 r,.int .i64 ac,j] o):=λo=>by show ko c g (f l) e h _=_;rw [aE]
   have U:rj [.str c g,l,.str e h,q,.int .i64 r,.int .i64 ac,j]=(List.range K.length).map (oM [.str c g,l,.str e h,q,.int .i64 r,.int .i64 ac,j]):=by show (List.range (f j).length).map _=_;rw [Y]
   have bC:(rj [.str c g,l,.str e h,q,.int .i64 r,.int .i64 ac,j]).length<=8:=by rw [U,di,nS];omega
   refine au.kp [12,11,10] (λav tm aw=>N=aw/\ ∃ar,M tm 3=v/\M tm 5= .W ar [.str c g,l,.str e h,q,.int .i64 r,.int .i64 ac,j]/\av tm) ?_ ?_
   . simp only [go_sem,hF,B.O,B.a_ (k:=7) I rfl,af.J,aW.J,y.J];exact an.mk ⟨rfl,_,by simp only [go_sem,hF];trivial⟩
   clear hF;rintro tm _ ⟨rfl,ar,hF⟩;simp only [go_sem,hF,y.O,y.len];generalize aK:a1 _ _ _ _ _ _ _ _ _ _=Q;revert Q;generalize aa:(rop.take z).flatMap rj=w at*;refine cv [12,11,10,5,17] (λs=> [(3,s.1)]) (λs=>s.2) (λo s=>P 52 7 H s.2 s.1 (w++(List.range o).map (oM [.str c g,l,.str e h,q,.int .i64 r,.int .i64 ac,j]))) K.length (v,N) (by simpa using a) ?_ ?_
   . clear hF;rintro o ⟨v,D⟩ tm aP a hF;simp only at a hF|-;obtain ⟨bj,T⟩:=bA aP;obtain ⟨L,rfl,bG,bI⟩:=aZ _ (aV T);have aD:iR [.str c g,l,.str e h,q,.int .i64 r,.int .i64 ac,j] o=L.toNat-1:=by show (j7 (((f j)[o]?).getD [])).toNat-1=_;rw [Y,T];rfl
     have aG:L=((L.toNat-1+1:Nat):Int):=ab;have Z:=aF o;rw [aD] at Z;generalize L.toNat-1=C at*;subst aG;have bw:(w++(List.range o).map (oM [.str c g,l,.str e h,q,.int .i64 r,.int .i64 ac,j])).length+2<1048560:=by rw [bD,di,nS];omega
     have aA:w++(List.range (o+1)).map (oM [.str c g,l,.str e h,q,.int .i64 r,.int .i64 ac,j])=w++(List.range o).map (oM [.str c g,l,.str e h,q,.int .i64 r,.int .i64 ac,j])++ [ko c g u e h C]:=by rw [YW,Z,<-fu]
     generalize w++(List.range o).map (oM [.str c g,l,.str e h,q,.int .i64 r,.int .i64 ac,j])=bp at*;have aC:=λtm=>aI ad n ab ab _ c g u e h K C D S ab ab a.tidy tm;have ah:=HP c g u e h C;have aM:=O6 ah D;have aj:Rows 7 [ko c g u e h C]:=λbj aY=>by rw [bs.1 aY];exact ah
     obtain ⟨bn,ax,aB,ae,-⟩:=a.app (E:=G) (t:=24) (b:=120) (i:=t52) aq aq rfl rfl al al (x:= .A [ko c g u e h C] true) (aQ:= [_]) (dR (.inr ⟨_,rfl⟩) aj.len) aj og;simp only [go_sem,hF,y.O,y.a_ (k:=1) T rfl,aC,aM,bH,a.O,aB,ae.O];exact au.next (bn,ax) rfl (by show P _ 7 H _ _ (w++(List.range (o+1)).map _);rw [aA];exact ae) ay
   . clear hF;rintro ⟨v,D⟩ tm a hF;simp only at a hF;simp only [go_sem];rw [<-U] at a;refine au.next (v,D) rfl ⟨by rw [kR _ I,aa];exact a,by rw [kR _ I,aa,bD];omega⟩ ay
 . rintro ⟨v,N⟩ tm ⟨a,-⟩ hF;simp only at a hF;rw [bX] at a;simp only [go_sem,hF,a.O,a.nl,dX,if_true];exact ak.W al ao a.rw a.W (aT _) a.up λb0 aH=>aH
theorem HQ:(oN rop).length<=1600:=by
 have e:=aX.bT.op;have:=nF rj 8 rop λh b=>by obtain ⟨n,q,k,o,r,w,a⟩:=e h b;have c:=(c3.st b a).2.2;obtain ⟨j,t,i,u,ac,rfl,l,g,v,m,-⟩:=a.eq;show ((List.range (f i).length).map _).length<=8;rw [bm g,di,nS];exact c
 have:=c3.len;unfold oN;omega
theorem LC (b c:Bool):(kO p b c rop).length<=3200:=by
 have j:=aX.bT.op;have:=nF (qF p b c) 16 rop λr g=>by
  obtain ⟨k,m,t,l,n,y,e⟩:=j r g;have u:=(c3.st g e).2.2;obtain ⟨i,o,a,q,ac,rfl,v,h,x,w,-⟩:=e.eq;have:=nF (j4 p b c [.str k m,i,.str l n,o,.int .i64 q,.int .i64 ac,a]) 2 (List.range (f a).length) λ_ _=>zK ..
  rw [nS,bm h] at this;show ((List.range (f a).length).flatMap _).length<=16;rw [bm h];omega
 have:=c3.len;unfold kO;omega
end
end Go.aj
