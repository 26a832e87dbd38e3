/- A part of the proof. -/
import Derived.KernelRfl
import Derived.Test.YtiodgpibgiodcaaGreatDoorP00
import Derived.Test.YtiodgpibgiodcaaGreatDoorP01
import Derived.Test.YtiodgpibgiodcaaGreatDoorP07
import Derived.Test.YtiodgpibgiodcaaGreatDoorP11
set_option linter.all false
set_option maxHeartbeats 4000000
namespace Go.aj
open Go Go.Proofs.Tryz
set_option maxRecDepth 100000
def e1.uniq {r n} (ag:e1 r n): ∀ {m},e1 r m->n=m:=by
 induction ag with
 | @mk r v n B F D H K M x z p ag t u l o=>
 intro m d
 cases d with
 | @mk _ w J C G E I L N y A q d j k=>
 obtain ⟨rfl,f,g⟩:=ag.c;obtain ⟨e,-,-,-,-,h,i,-,-⟩:=d;simp only [jn,aa.int.injEq,aa.str.injEq,and_true,true_and] at e;obtain ⟨-,-,-,-,rfl,rfl⟩:=e;obtain rfl:=qe f h;obtain rfl:=qe g i;congr 2;refine vS λb a=> ?_;rcases cr.1 a with a|a
 . exact l b a (j b a)
 . exact o b a (k b a)
open Classical in
noncomputable def mT (r:List aa):Nat:=if ag: ∃n,e1 r n then ag.choose else 0
def Kh {r n} (ag:e1 r n):mT r=n:=by
 unfold mT;rw [dif_pos ⟨n,ag⟩];exact (Exists.choose_spec (⟨n,ag⟩: ∃n,e1 r n)).uniq ag
def bL.g_ {rows N} (ag:bL rows N) {r} (a:r∈rows):e1 r (mT r)/\mT r<=N:=by
 obtain ⟨d,b,c⟩:=ag;have:=b r a;rw [Kh this];exact ⟨this,eT (o3 a) c⟩
def bL.sum {rows N} (ag:bL rows N):(rows.map mT).sum<=N:=by
 obtain ⟨d,a,e⟩:=ag
 rwa [vS λc b=>Kh (a c b)]
def bL.mk {rows N} (ag: ∀r∈rows,e1 r (mT r)) (a:(rows.map mT).sum<=N):bL rows N:=⟨mT,ag,a⟩
def bL.i0 {rows N} (ag:bL rows N): ∀r∈rows,aN r:=λr a=>(ag.g_ a).1.i0
def bL.len {rows N} (ag:bL rows N):rows.length<=N:=by
 obtain ⟨e,a,b⟩:=ag;exact eT (qq λd c=>(a d c).pos) b
def bL.app {a b n m} (ag:bL a n) (g:bL b m):bL (a++b) (n+m):= .mk (λe d=>(cr.1 d).elim (λc=>(ag.g_ c).1) λc=>(g.g_ c).1) (by have:=ag.sum;have:=g.sum;simp;omega)
def bL.mono {a n m} (ag:bL a n) (b:n<=m):bL a m:= .mk (λd c=>(ag.g_ c).1) (eT ag.sum b)
def bL.left {a b n} (ag:bL (a++b) n):bL a n:= .mk (λd c=>(ag.g_ (hP _ c)).1) (by have:=ag.sum;simp at this;omega)
def bL.right {a b n} (ag:bL (a++b) n):bL b n:= .mk (λd c=>(ag.g_ (h7 _ c)).1) (by have:=ag.sum;simp at this;omega)
def bL.one {r rows n} (ag:bL rows n) (a:r∈rows):bL [r] n:= .mk (λc b=>by rw [bs.1 b];exact (ag.g_ a).1) (by have:=(ag.g_ a).2;simpa)
def bL.ok {rows N} (ag:bL rows N) (hN:N<1048560): ∀r∈rows,AH r:=λr a=>⟨_,by have:=(ag.g_ a).2;omega,(ag.g_ a).1⟩
def qI {rows} (ag:b8 rows): ∀r∈rows,eu r r=true:=λr a=>by
 obtain ⟨c,d,rfl,-⟩:=ag r a;exact m5 _ λe b=>by rw [bs.1 b];exact r8 _ _
def LX {rows:Y} (ag: ∀r∈rows,gd r): ∀r∈rows,eu r r=true:=λr b=>by
 obtain ⟨c,d,e,f,rfl,-⟩:=ag r b;exact m5 _ λg a=>by simp only [b2,dG,or_false] at a;rcases a with rfl|rfl<;>exact r8 _ _
def c6.same {r} (ag:c6 r):eu r r=true:=by
 obtain ⟨n,p,l,o,q,v,⟨⟨k,t,s,i,m,rfl,b,h,⟨u,d,-,c⟩⟩,-,-,-,-,f,-,g,-⟩⟩:=ag;refine m5 _ λj a=> ?_;simp only [b2,dG,or_false] at a;rcases a with rfl|rfl|rfl|rfl|rfl|rfl|rfl
 . exact r8 _ _
 . exact b.same (qI f)
 . exact r8 _ _
 . exact d.same (LX c)
 . exact wJ _ _
 . exact wJ _ _
 . exact h.same λr e=>by obtain ⟨i,rfl⟩:=g r e;exact m5 _ λj a=>by rw [bs.1 a];exact wJ _ _
def ES {a} (ag:mg a):eu a a=true:=m5 _ λc b=>by obtain ⟨d,e,rfl⟩:=ag c b;exact r8 _ _
def hH.same {a b rop} (ag:hH a b rop):cN (.ck a b) (.ck a b)=true:=ER (ES ag.k) (m5 _ λe d=>by obtain ⟨f,rfl,c⟩:=ag.s e d;exact LW c.same)
def dO.same {ax:aa} {s:List aa} {kN jv rop j3 aJ:Y} (ag:dO ax s kN jv rop j3 aJ):f_ (some ax) (some ax)=true:=by
 obtain ⟨a,q,y,t,A,r,z,rfl,e,g,hF⟩:=ag;obtain ⟨w,o,u,p,x,rfl,i,j,l,m,n⟩:=a.eq;refine ZR _ (m5 _ λf c=> ?_);simp only [bl,a6,b2,dG,or_false] at c;rcases c with rfl|rfl|rfl|rfl|rfl|rfl|rfl|rfl
 . exact i.same (qI a.so)
 . exact j.same (LX a.be)
 . exact l.same λd b=>(a.op d b).same
 . exact m.same λd b=>(a.cP d b).same
 . exact n.same (qI a.bJ)
 . exact ER (ES e.k) (m5 _ λf c=>by obtain ⟨v,b,h⟩:=e.s f c;exact b.same (qI h))
 . exact g.same
 . exact hF.same
section
variable {ax:aa} {s:List aa} {kN jv rop j3 aJ:Y} (ag:dO ax s kN jv rop j3 aJ)
include ag
omit ag in
theorem dP.te {d:List aa} {ax:aa} (Ir:d.length=13):(d++ [ax])[13]? =some ax:=by rw [vP ab,Ir];rfl
theorem Ve {r} (b:aN r):bo λad n=> ∀c d H tm,Tidy H->dP H c d ax->az G (X G R ad n) 191 [c,.agg r] H tm= .ok (.str (eh kN rop j3 r).1 (eh kN rop j3 r).2) tm H:=by obtain ⟨w,a⟩:=v_ ag b;obtain ⟨x,P,Q,T,V,W⟩:=ag.val;refine ⟨w+1,λad n D E c d H tm g l=> ?_⟩;obtain ⟨n,rfl⟩:=bY n;have a:=λtm=>a ad n ab ab H tm g;obtain ⟨id,j,C,M,rfl,q,p,o⟩:=l;have k:=dP.te (ax:=ax) o;obtain ⟨h,rfl,i⟩:=hg (S:=λh=>h= .str (eh kN rop j3 r).1 (eh kN rop j3 r).2) (aL.at (m:=9) (f:=191) (args:= [.ptr id j 0 14,.agg r]) (ad:=ad) (n:=n) (H:=H) rfl rfl rfl rfl rfl rfl rfl rfl (by generalize eh kN rop j3 r=N at*;obtain ⟨K,L,y,A,z,B,O,Y,F,I,rfl,u,v⟩:=b.t;simp only [go_sem,u.J,v.J,q,p,k,x,a];exact .inl ⟨_,rfl,e.mk rfl g (U.refl _)⟩));exact i tm
theorem tM {r} (o:aN r):bo λad n=> ∀c d (a b:Int) (l m ls ms:Nat) H,Tidy H->dP H c d ax->fK 128 [c,.agg [.int .i64 a,.int .i64 b],.str l m,.agg r,.str ls ms] ad n H:=by
 obtain ⟨y,g⟩:=Ve ag o;obtain ⟨z,h⟩:=gu 16 al;obtain ⟨A,i⟩:=MQ ag;obtain ⟨D,V,W,X,Y,Z⟩:=ag.val;refine ⟨y+z+A+1,λad n L M c d a b l m ls ms H e k=> ?_⟩;obtain ⟨n,rfl⟩:=bY n;have g:=λf=>g ad n ab ab c d H f e k;have h:=λf=>h ad n ab ab l m a b H f e;have i:=λl m B C f=>i ad n ab ab (l,m,B,C) trivial H f e;obtain ⟨id,j,K,R,rfl,v,u,q⟩:=k;have p:=dP.te (ax:=ax) q;refine o6 (aL.at (m:=18) rfl rfl rfl rfl rfl rfl rfl rfl ?_);generalize eh kN rop j3 r=S at*;obtain ⟨P,Q,E,G,F,I,T,aa,N,O,rfl,w,x⟩:=o.t;simp only [go_sem,w.J,x.J,v,u,p,D,g,i,ag.same];refine ak.aE ?_ ?_<;>intro j<;>simp only [go_sem,j,h]
 . exact ak.un e (U.refl _)
 . exact ak.aK (lO 16 al _ _ _ _) rfl e (U.refl _)
end
def Jv (rows:Y) (N:Nat) (hN:N<1048560) (g:bL rows N):bo λad n=> ∀(a b:Int) x H,Tidy H->cG H 6 x rows->fK 126 [.agg [.int .i64 a,.int .i64 b],x] ad n H:=by
 obtain ⟨i,d⟩:=Jh rows (g.ok hN) (by have:=g.len;omega);obtain ⟨j,e⟩:=gu 16 al;refine ⟨i+j+1,λad n p q a b x H c f=> ?_⟩;obtain ⟨n,rfl⟩:=bY n;obtain ⟨v,⟨r,w,t,u,rfl⟩,d⟩:=d ad n ab ab x H c f;have e:=λk l o=>e ad n ab ab k l a b H o c;refine o6 (aL.at (m:=14) rfl rfl rfl rfl rfl (by simp only [aO,f.aD];rfl) rfl rfl ?_);simp only [go_sem,f.O,d];refine ak.aE ?_ ?_<;>intro h<;>simp only [go_sem,h,e]
 . exact ak.un c (U.refl _)
 . exact ak.aK (lO 16 al _ _ _ _) rfl c (U.refl _)
def uO.str {l:List (Nat×Nat)} (b:eC l):b8 (l.map iu):=λe d=>by
 obtain ⟨a,c,rfl⟩:=cd.1 d;exact ⟨a.1,a.2,rfl,b a c⟩
def Jk (q rows:Y) (N M:Nat) (hN:N<1048560) (B:M<1048560) (E:bL q N) (F:bL rows M):bo λad n=> ∀(a b:Int) y x H,Tidy H->cG H 6 y q->cG H 6 x rows->
    fK 127 [.agg [.int .i64 a,.int .i64 b],y,x] ad n H:=by
 obtain ⟨G,e⟩:=U4 q N hN E;obtain ⟨I,f⟩:=JA rows M B F;obtain ⟨J,g⟩:=gu 17 al;obtain ⟨K,h⟩:=oZ 1048560 al;refine ⟨G+I+J+K+1048561,λad n S V a b y x H c j i=> ?_⟩;obtain ⟨n,rfl⟩:=bY n;obtain ⟨Q,⟨L,l,P,W⟩,e⟩:=e ad n ab ab y H c j;obtain ⟨af,⟨p,d,Z,X⟩,f⟩:=f ad n ab ab x H c i;have g:=λo r t=>g ad n ab ab o r a b H t c;have h:=λo r=>h ad n ab ab Q (L.map iu) o r H (uO.str P) da c l.cw;refine o6 (aL.at (m:=31) rfl rfl rfl rfl rfl (by simp only [aO,i.aD,j.aD];rfl) rfl rfl ?_);simp only [go_sem,i.O,j.O,e,f,l.O,d.O,d.len];generalize R:a1 _ _ _ _ _ _ _ _ _ _=z;revert z;have hF:=trivial;refine dA [3,6,12] (λ_=>True) (p.map iu).length trivial (hlf:=da) (hN:=da) ?_ ?_
 . intro v s t D C hF;obtain ⟨w,u⟩: ∃w,(p.map iu)[v]? =some w:=⟨(p.map iu)[v],by simp only [lj D]⟩;obtain ⟨⟨aa,ae⟩,T,rfl⟩:=cd.1 (aV u);simp only [go_sem,hF,d.O,d.a_ (k:=1) u rfl,iu]
   iterate 3 all_goals try (refine au.aE ?_ ?_<;>intro A<;>simp only [go_sem,hF,A,g,h,l.O])
   all_goals first
    |exact au.next () rfl trivial ay
    |exact au.stop rfl (by simp only [go_sem];exact ak.aK (lO 17 al _ _ _ _) rfl c (U.refl _))
 . intro s t C hF;simp only [go_sem];exact ak.un c (U.refl _)
def jc {r} (ag:aN r) (H:af):cT G 33 1 [(0,.agg r)] H=some (.A [r] true,H):=by
 have a:=ag.row;exact mo (E:=G) (t:=33) (el:=35) (k:=6) (H:=H) (z:= .agg [.int .i64 0,.int .i64 0,.str 0 0,.str 0 0,.V,.V]) aq aq aq al rfl al (.agg r) ⟨a.1,ba.2 λc b=>(a.2 c b).1,ba.2 λc b=>(a.2 c b).2⟩
def Jd {r} (b:aN r):dt 158 [.agg r] dI bQ:=by
 obtain ⟨k,t,o,u,p,v,x,y,l,n,e,-,-⟩:=b.ea;refine aL.run (m:=15) rfl rfl rfl rfl rfl rfl rfl rfl 0 λq w i j h d=> ?_;obtain ⟨rfl,f,g⟩:=e.c;simp only [go_sem,f.J,g.J]
 iterate 2 all_goals try (refine ak.aE ?_ ?_<;>intro a<;>simp only [go_sem,a])
 all_goals exact ak.bW d (U.refl _)
abbrev ns (H:af) (b:Bool):af:=H.push (.cells (q 4) (q 4) 0 [.bool b])
theorem Gb {H:af} (a:Tidy H) (b:Bool):Tidy (ns H b):=a.push rfl
def TI (x:List aa) (C:aN x): ∃V,∀ad n,V<=ad->V<=n-> ∀(H:af) (b:Bool) (d:Int),Tidy H->
    ∃a,∀tm,cx G (X G R ad n) (.fn (.func 188) [] [.ptr H.n (q 4) 0 1]) [.agg x,.int .i64 d] (ns H b) tm= .ok (.av []) tm (ns H a):=by
 cases C with
 | @mk x r w u y v z A B e aO C M aC=>
 obtain ⟨an,ai⟩:=aL.j8 (l:=e) (f:=158) (g:=λh=> [.agg h]) (S:=λ_=>dI) λh p=>Jd (M h p);refine ⟨an+e.length+2,λad n aD aF H b d ak=> ?_⟩;obtain ⟨n,rfl⟩:=bY n;obtain ⟨rfl,-,-,-,-,o,al,aG,-⟩:=C;have ao:=df.at (E:=G) (R:=R) (f:=188) (m:=46) (ad:=ad) (n:=n) (args:= [.agg [.int .i64 r,.int .i64 w,.str u y,.str v z,A,B],.int .i64 d,.ptr H.n (q 4) 0 1]) (H:=ns H b)
  (Q:=λD i=>D= .av []/\ ∃a,i=ns H a) rfl rfl rfl rfl rfl rfl rfl rfl ?_
 . obtain ⟨D,i,⟨rfl,a,rfl⟩,ae⟩:=ao;exact ⟨a,λtm=>by simp only [eg,a6,bl];exact ae tm⟩
 refine df.seq (λtm i=>ns H b=i/\aM 49 [(2,.ptr H.n (q 4) 0 1),(3,.W 0 [.int .i64 r,.int .i64 w,.str u y,.str v z,A,B])] tm) ?_ ?_
 . simp only [go_sem,o.J,al.J];exact dD.mk ⟨rfl,dC⟩
 rintro tm _ ⟨rfl,hF⟩;refine df.seq (λtm i=>(∃a,ns H a=i)/\aM 49 [(2,.ptr H.n (q 4) 0 1),(3,.W 0 [.int .i64 r,.int .i64 w,.str u y,.str v z,A,B])] tm) ?_ ?_
 . cases b with
   | false=>
     simp only [go_sem,hF];exact dD.mk ⟨⟨_,rfl⟩,ay⟩
   | true=>
     simp only [go_sem,hF]
     iterate 2 all_goals try (refine dD.aE ?_ ?_<;>intro j<;>simp only [go_sem,j,hF])
     all_goals exact dD.mk ⟨⟨_,rfl⟩,ay⟩
 clear hF;rintro tm _ ⟨⟨F,rfl⟩,hF⟩;simp only [go_sem,hF];refine df.aE ?_ ?_<;>intro j<;>simp only [go_sem,j]
 rotate_left
 . exact df.mk rfl ⟨rfl,F,pV rfl⟩
 generalize aA:a1 _ _ _ _ _ _ _ _ _ _=Z;revert Z;refine rP _ _ _ _ (λc tm Y=>(∃a,Y=ns H a)/\aM 49 [(2,.ptr H.n (q 4) 0 1),(3,.W 0 [.int .i64 r,.int .i64 w,.str u y,.str v z,A,B]),(5,.int .i64 ((2*c:Nat):Int))] tm) e.length ab ⟨⟨F,rfl⟩,by simp only [go_sem,hF];rfl⟩ ?_;clear hF;rintro c tm _ aB ⟨⟨I,rfl⟩,hF⟩;simp only [go_sem,hF,o.O,o.len];refine dy.aE ?_ ?_<;>intro K<;>simp only [go_sem,hF,K,o.O]
 rotate_left
 . exact dy.stop rfl (by simp only [go_sem];exact df.mk rfl ⟨rfl,I,pV rfl⟩)
 have aj:2*c<e.length:=by simp at K;omega
 obtain ⟨h,N⟩: ∃h,e[2*c]? =some h:=⟨e[2*c],by simp [aj]⟩;have p:=aV N;obtain ⟨D,⟨au,rfl⟩,ah⟩:=ai ad n ab ab h p (ns H true) (Gb ak true);obtain ⟨aK,aP,aq,aw,ar,az,aQ,aR,aH,aI,rfl,T,U⟩:=(M h p).t;have P:IntKind.i64.wrap (((2*c:Nat):Int)+2)=((2*(c+1):Nat):Int):=by rw [wrap64 _ ab ab];omega
 have L:=o.a_ (k:=6) N rfl
 cases I with
 | false=>
   simp only [go_sem,hF,L,T.J,U.J,P];exact dy.next (by show c<e.length;omega) ⟨⟨_,rfl⟩,ay⟩
 | true=>
   simp only [go_sem,hF,L,T.J,U.J,ah]
   iterate 3 all_goals try (refine dy.aE ?_ ?_<;>intro j<;>simp only [go_sem,j,hF,P])
   all_goals exact dy.next (by show c<e.length;omega) ⟨⟨_,rfl⟩,ay⟩
section
variable {ax:aa} {s:List aa} {kN jv rop j3 aJ:Y} (ag:dO ax s kN jv rop j3 aJ)
include ag
theorem Je {r:List aa} {n:Nat} (e:e1 r n) (u:n<=1048560):dt 125 [ax,.agg r] dI bQ:=by
 obtain ⟨w,ay,X,az,aA,aB⟩:=ag.val;obtain ⟨M,j⟩:=((Dz e.i0).mono (S':=dI) (λ_ I=>by obtain ⟨d,g,-⟩:=I;exact ⟨d,g⟩) λ_ ag=>ag).bW;obtain ⟨N,k⟩:=(Ja ag e.i0).bW;obtain ⟨O,l⟩:=(Jc ag e ab).bW;obtain ⟨Q,o⟩:=Jh [r] (λx h=>by rw [bs.1 h];exact ⟨n,ab,e⟩) ai;obtain ⟨R,p⟩:=wa (ι:=af) (σ:=Bool) (T:=Tidy) (P:=λ_ _=>True) (W:=λ_=>0) (cS:=λa d=>ns a d) (pE:=10000001)
  (fv:=λa=> .fn (.func 188) [] [.ptr a.n (q 4) 0 1]) (λa d b _=>Gb b d) (λ_=>⟨rfl,λ_=>rfl⟩) (λ_ _ _ _ _=>pV rfl) (λx h=>by obtain ⟨v,E⟩:=TI x h;exact ⟨v,λf n G u a d y b _ _=>by obtain ⟨t,g⟩:=E f n G u a d y b;exact ⟨t,trivial,ab,g⟩⟩) e ab
 obtain ⟨v,ar,ao,au,aq,av,aD,aF,al,an,h,-,-⟩:=e.i0.ea;refine aL.run (m:=32) rfl rfl rfl rfl rfl (by simp only [aO,X];rfl) rfl rfl (M+N+O+Q+R) λf i ae ah a b=> ?_;obtain ⟨Y,j⟩:=j f i ab ab a b;obtain ⟨Z,k⟩:=k f i ab ab a b;obtain ⟨ad,l⟩:=l f i ab ab a b;have H:F (.A [r] true) [r]:= .inr ⟨_,rfl⟩;obtain ⟨aw,⟨aj,aC,S,V,rfl⟩,o⟩:=o f i ab ab (.A [r] true) a b H.cw;have p:=λd=>p f i ab ab a d 1 b trivial ab;have D:=jc (e.i0) a;obtain ⟨rfl,K,L⟩:=h.c;simp only [go_sem,K.J,L.J,j];refine ak.aE ?_ ?_<;>intro z<;>simp only [go_sem,z,w,k]
 all_goals try (refine ak.aE ?_ ?_<;>intro B<;>simp only [go_sem,B,w,l])
 all_goals try (refine ak.aE ?_ ?_<;>intro C<;>simp only [go_sem,C,D,bH,o])
 all_goals try exact ak.bW b (U.refl _)
 obtain ⟨t,-,-,g⟩:=p (S==0&&V==0);simp only [go_sem,g,dL];exact ak.bW b ((U.refl _).push _)
end
def aaZ {n0 c:Nat} {H:af} {rows aQ:Y} {v x:aa} (ag:bd n0 35 6 c H rows v) (g:Tidy H) (e:n0<=H.n) (f: ∀r∈rows,aN r) (h:cG H 6 x aQ) (d: ∀r∈aQ,aN r) (hN:rows.length+aQ.length<10000000) (i:c+aQ.length<1048560):
    ∃a H',cI G 33 33 v x H=some (a,H')/\bd n0 35 6 (c+aQ.length) H' (rows++aQ) a/\iX n0 v a H H'/\cG H' 6 v rows:=
 ag.uS (b:=96) (k:=6) aq yf rfl rfl al al g e (aN.rows f) (h.elems λr ag=>(d r ag).len) (aN.rows d) (by unfold b7;omega) ab
def pq {n0 c:Nat} {H:af} {rows aQ:Y} {v x:aa} (ag:bd n0 35 6 c H rows v) (g:Tidy H) (e:n0<=H.n) (f: ∀r∈rows,aN r) (h:cG H 6 x aQ) (d: ∀r∈aQ,aN r) (hN:rows.length+aQ.length<10000000) (i:c+aQ.length<1048560):
    ∃a H',cI G 33 33 v x H=some (a,H')/\bd n0 35 6 (c+aQ.length) H' (rows++aQ) a/\iX n0 v a H H':=
 ag.app (b:=96) (k:=6) aq yf rfl rfl al al g e (aN.rows f) (h.elems λr ag=>(d r ag).len) (aN.rows d) (by unfold b7;omega) ab
def A4 {r q} (ag:aN r) (g:aN q) (H:af):cT G 33 2 [(0,.agg r),(1,.agg q)] H=some (.A [r,q] true,H):=by
 have c:=ag.row;have d:=g.row;exact uX (E:=G) (t:=33) (el:=35) (k:=6) (H:=H) (z:= .agg [.int .i64 0,.int .i64 0,.str 0 0,.str 0 0,.V,.V]) aq aq aq al rfl al (.agg r) (.agg q) ⟨c.1,ba.2 λb a=>(c.2 b a).1,ba.2 λb a=>(c.2 b a).2⟩ ⟨d.1,ba.2 λb a=>(d.2 b a).1,ba.2 λb a=>(d.2 b a).2⟩
section
variable {ax:aa} {s:List aa} {kN jv rop j3 aJ:Y} (ag:dO ax s kN jv rop j3 aJ)
include ag
theorem Vk {r:List aa} (u:xb r) {N:Nat} (hT: ∀L R i a b j,r=L++R++ [i,a,b]->L.length=6->R.length=6->F i j->bL ([L,R]++j) N) (hN:N<100000):
  bo λad n=> ∀c d H,Tidy H->dP H c d ax->fK 65 [c,.agg r] ad n H:=by
 obtain ⟨L,R,i,a,b,rfl,aH,bj,⟨j,E,bE,-⟩,⟨z,rfl⟩,⟨B,rfl⟩⟩:=u;have aD:=hT L R i _ _ j rfl aH.len bj.len E;clear hT;have cT:=aD.len;simp only [bl,a6,cl] at cT;have cJ:=aD.g_ (r:=L) ai
 cases dq:aH with
 | @mk _ aP aU V X aR aS aZ a7 aF dH b9 cg dt=>
 cases dr:bj with
 | @mk _ ae aj ao ar aq aw aA aB dG dJ cK ds du=>
 have cf: ∀o∈aF,∃n,e1 o n/\n<=1048560:=λo P=>by
  obtain ⟨aN,bZ⟩:=cJ;generalize mT L=dQ at*
  cases aN with
  | @mk _ dB dO dK dM dL dN ec ed dF df bR cz cY dy=>
  obtain ⟨bP,-,-,-,-,bz,-⟩:=b9;obtain ⟨K,-,-,-,-,bB,-⟩:=cz;rw [bP] at K;simp only [jn,aa.int.injEq,aa.str.injEq,and_true,true_and] at K;obtain ⟨-,-,-,-,rfl,rfl⟩:=K;obtain rfl:=qe bz bB;refine ⟨bR o,cY o P,?_⟩;have:bR o<=((aF++df).map bR).sum:=o3 (hP _ P);omega
 obtain ⟨c4,bS⟩:=(MN ag).c (V,X) trivial;obtain ⟨c6,cB⟩:=wb ag ([L,R]++j) aD.i0 da;obtain ⟨c7,cC⟩:=aL.j8 (l:=aF) (f:=124) (g:=λr=> [ax,.agg r]) (S:=λ_=>dI) λo P=>by obtain ⟨n,aN,bZ⟩:=cf o P;exact Jc ag aN ab
 obtain ⟨c8,cD⟩:=aL.j8 (l:=aF) (f:=125) (g:=λr=> [ax,.agg r]) (S:=λ_=>dI) λo P=>by obtain ⟨n,aN,bZ⟩:=cf o P;exact Je ag aN bZ
 have bD:bL ([R]++j++ [L]) N:= .mk (λo P=>(aD.g_ (by simp at P|-;rcases P with ag|ag|ag<;>simp [ag])).1) (by have:=aD.sum;simp at this|-;omega);have bV:bL ([R]++j) N:=bD.left;obtain ⟨c9,cE⟩:=Jv ([R]++j++ [L]) N ab bD;obtain ⟨db,cF⟩:=Jk [L] ([R]++j) N N ab ab bD.right bV;obtain ⟨dc,cH⟩:=dE (l:=j) (Q:=λr ad n=> ∀c d (a b:Int) (af ah bN bO:Nat) H,Tidy H->dP H c d ax->fK 128 [c,.agg [.int .i64 a,.int .i64 b],.str af ah,.agg r,.str bN bO] ad n H) λr I=>tM ag (bE r I);obtain ⟨dd,cI⟩:=tM ag bj;obtain ⟨de,bU⟩:=gu 15 al;obtain ⟨c5,cA⟩:=gu 16 al;obtain ⟨b3,az,dX,dY,dZ,ea⟩:=ag.val;have cU:=qA ag.bT.cP V X;refine ⟨c4+c6+c7+c8+c9+db+dc+dd+de+c5+aF.length+j.length+2,λad n dv aN c d H y bm=> ?_⟩;obtain ⟨n,rfl⟩:=bY n;have bS:=λH y e=>bS ad n ab ab H e y;have bX:=bm;obtain ⟨id,q,dm,dT,rfl,cS,cQ,cO⟩:=bm;have bW:=dP.te (ax:=ax) cO;have cM:=A4 aH bj H;obtain ⟨rfl,eb,-,dV,-,T,c0,dw,-⟩:=b9;obtain ⟨rfl,cZ,c1⟩:=cK.c;generalize iQ j3 V X=dR at*;obtain ⟨dg,dh,dk,bN,bO,dW,⟨⟨cv,di,dj,c2,c3,rfl,cL,cW,⟨dS,cV,-⟩⟩,-⟩⟩:=cU;refine o6 (aL.at (m:=142) rfl rfl rfl rfl rfl rfl rfl rfl ?_);simp only [bl,a6];generalize w: [aa.int .i64 aP,.int .i64 aU,.str V X,.str aR aS,aZ,a7,.int .i64 ae,.int .i64 aj,.str ao ar,.str aq aw,aA,aB,i,.int .i64 z,.int .i64 B]=aY at*;refine ak.seq (λe h=>H=h/\aM 144 [(0,.ptr id q 0 14),(3,.W 0 aY),(4,.av []),(6,.av [])] e) ?_ ?_
 . subst w;simp only [go_sem,T.J,c0.J,cZ.J,c1.J,E.J];exact dD.mk ⟨rfl,dC⟩
 rintro e _ ⟨rfl,hF⟩;refine ak.seq (λe h=>H=h/\aM 144 [(0,.ptr id q 0 14),(3,.W 0 aY),(4,.W 0 [.int .i64 z,.int .i64 B]),(6,.av [])] e) ?_ ?_
 . subst w;simp only [go_sem,hF];exact dD.mk ⟨rfl,ay⟩
 clear hF;rintro e _ ⟨rfl,hF⟩;refine ak.P0 hF (λp e h=>H=h/\aM 144 [(5,.str 0 0)] e/\p e) ?_ ?_
 . simp only [go_sem];exact dD.mk ⟨rfl,ay⟩
 clear hF;rintro e _ ⟨rfl,hF⟩;refine ak.seq (λe h=>H=h/\ ∃aW aX,aM 144 [(0,.ptr id q 0 14),(3,.W 0 aY),(4,.W 0 [.int .i64 z,.int .i64 B]),(6,.av []),(5,.str aW aX)] e) ?_ ?_
 . subst w;simp only [go_sem,hF]
   iterate 2 all_goals try (refine dD.aE ?_ ?_<;>intro q<;>simp only [go_sem,q,hF])
   all_goals exact dD.mk ⟨rfl,_,_,by simp only [go_sem,hF];trivial⟩
 clear hF;rintro e _ ⟨rfl,aW,aX,hF⟩;have b0: ∀(c:Int) (bm:c≠0) af ah bu h,U H h->ak lL fA H (fin G [] (.aK (.iface 78 (.agg [.int .i64 c,.str af ah,.int .i64 z,.int .i64 B])) bu h [])):=λc bm af ah bu h b1=>by simp only [go_sem];exact ak.aK (lO c bm _ _ _ _) rfl y b1
 have bG: ∀bw,fA bw-> ∀bu h,U H h->ak lL fA H (fin G [] (.aK bw bu h [])):=λbw cj bu h b1=>by simp only [go_sem];exact ak.aK cj (cj.aI 17) y b1
 have dx: ∀cr,O cr (.W 0 aY)= .cR cr 0 0:=λ_=>rfl;refine ak.bM (λe h=>H=h/\ ∃b7,aM 144 [(0,.ptr id q 0 14),(3,.W 0 aY),(4,.W 0 [.int .i64 z,.int .i64 B]),(5,.str aW aX),(6,.W 0 [.str dg dh,cv,.str bN bO,di,.int .i64 c2,.int .i64 c3,dj]),(7,.bool b7)] e) ?_ ?_
 . have bP:=bS H y;subst w;simp only [go_sem,hF,cS,cQ,bW,b3,bP,cL.J,cW.J,cV.J];exact an.mk ⟨rfl,_,by simp only [go_sem,hF];trivial⟩
 clear hF;rintro e _ ⟨rfl,b7,hF⟩;refine ak.kp [0,3,4,5,6] (λp e h=>H=h/\p e) ?_ ?_
 . have bU:=λaf ah e=>bU ad n ab ab af ah z B H e y;subst w;simp only [go_sem,hF]
   iterate 2 all_goals try (refine an.aE ?_ ?_<;>intro q<;>simp only [go_sem,q,hF,bU])
   all_goals first
    |exact an.mk ⟨rfl,ay⟩
    |exact an.stop rfl (b0 15 al _ _ _ _ (U.refl _))
 clear hF;rintro e _ ⟨rfl,hF⟩;refine ak.bF hF (λp e h=>Tidy h/\U H h/\p e) ?_ ?_
 . obtain ⟨bx,h,bg,Y,D⟩:=pq (n0:=H.n) (c:=2) (H:=H) (rows:= [[.int .i64 aP,.int .i64 aU,.str V X,.str aR aS,aZ,a7],[.int .i64 ae,.int .i64 aj,.str ao ar,.str aq aw,aA,aB]]) (aQ:=j) (v:= .A [[.int .i64 aP,.int .i64 aU,.str V X,.str aR aS,aZ,a7],[.int .i64 ae,.int .i64 aj,.str ao ar,.str aq aw,aA,aB]] true) (x:=i) (.inr (.inl rfl)) y (aT _) (λr u=>aD.i0 r (by simp at u|-;rcases u with ag|ag<;>simp [ag])) E.cw bE da ab;have aO:=D.up H (aT _) (U.refl _);have bJ:=Y.cw (λr u=>(aD.i0 r u).len);have K:=cB ad n ab ab bx (.ptr id q 0 14) d z B aW aX h D.tidy (bX.up y.1 aO) bJ;subst w;simp only [go_sem,hF,E.O,cM,bH,bg,Y.O];rcases K with K|⟨bC,C,K⟩
   . simp only [go_sem,K];exact an.mk ⟨D.tidy,aO,ay⟩
   . simp only [go_sem,K];exact an.stop rfl (bG _ C _ _ aO)
 clear hF;rintro e aC ⟨bK,bp,hF⟩;have cN:=bX.up y.1 bp;obtain ⟨dz,dp,dn,dU,cy,cd,cc,-⟩:=cN;cases cy;have b8:=λaf ah e=>cA ad n ab ab af ah z B aC e bK;refine ak.bF hF (λp e h=>aC=h/\p e) ?_ ?_
 . subst w;simp only [go_sem,hF,T.O,T.len];generalize ca:a1 _ _ _ _ _ _ _ _ _ _=a8;revert a8;refine dA [0,3,4,5,6,69] (λ_=>True) aF.length trivial ?_ ?_
   . intro ck s e bn bh hF;obtain ⟨o,Z⟩:=bA bn;have I:=aV Z;obtain ⟨bw,⟨cx,rfl⟩,bQ⟩:=cC ad n ab ab o I aC bK;obtain ⟨cp,cq,bz,bB,b5,b6,ct,cu,cm,cn,rfl,br,bt⟩:=(cg o I).t;simp only [go_sem,hF,T.O,T.a_ (k:=6) Z rfl,br.J,bt.J,cd,cc,bW,b3,bQ];refine au.aE ?_ ?_<;>intro q<;>simp only [go_sem,hF,q,b8]
     all_goals first
      |exact au.next () rfl trivial ay
      |exact au.stop rfl (by simp only [go_sem];exact an.stop rfl (b0 16 al _ _ _ _ bp))
   . intro s e bh hF;simp only [go_sem];exact an.mk ⟨rfl,ay⟩
 clear hF;rintro e _ ⟨rfl,hF⟩;refine ak.bF hF (λp e h=>aC=h/\p e) ?_ ?_
 . subst w;simp only [go_sem,hF,T.O,T.len];generalize ca:a1 _ _ _ _ _ _ _ _ _ _=a8;revert a8;refine dA [0,3,4,5,6,87] (λ_=>True) aF.length trivial ?_ ?_
   . intro ck s e bn bh hF;obtain ⟨o,Z⟩:=bA bn;have I:=aV Z;obtain ⟨bw,⟨cx,rfl⟩,bQ⟩:=cD ad n ab ab o I aC bK;obtain ⟨cp,cq,bz,bB,b5,b6,ct,cu,cm,cn,rfl,br,bt⟩:=(cg o I).t;simp only [go_sem,hF,T.O,T.a_ (k:=6) Z rfl,br.J,bt.J,cd,cc,bW,b3,bQ];refine au.aE ?_ ?_<;>intro q<;>simp only [go_sem,hF,q,b8]
     all_goals first
      |exact au.next () rfl trivial ay
      |exact au.stop rfl (by simp only [go_sem];exact an.stop rfl (b0 16 al _ _ _ _ bp))
   . intro s e bh hF;simp only [go_sem];exact an.mk ⟨rfl,ay⟩
 clear hF;rintro e _ ⟨rfl,hF⟩;refine ak.bF hF (λp e h=>Tidy h/\U H h/\ ∃az,bd H.n 35 6 (1+j.length) h ([[.int .i64 ae,.int .i64 aj,.str ao ar,.str aq aw,aA,aB]]++j) az/\aM 144 [(12,az)] e/\p e) ?_ ?_
 . obtain ⟨bx,h,bg,Y,D⟩:=pq (n0:=H.n) (c:=1) (H:=aC) (rows:= [[.int .i64 ae,.int .i64 aj,.str ao ar,.str aq aw,aA,aB]]) (aQ:=j) (v:= .A [[.int .i64 ae,.int .i64 aj,.str ao ar,.str aq aw,aA,aB]] true) (x:=i) (.inr (.inl rfl)) bK bp.n (λr u=>bV.i0 r (by simp at u|-;simp [u])) E.cw bE da ab;have bk:=jc bj aC;subst w;simp only [go_sem,hF,E.O,bk,bH,bg,Y.O];exact an.mk ⟨D.tidy,D.up H (aT _) bp,bx,Y,ay⟩
 clear hF;rintro e b4 ⟨cX,ch,az,bJ,hF⟩;refine ak.kp [0,4,5,6] (λp e h=>Tidy h/\U H h/\cG h 6 az ([[.int .i64 ae,.int .i64 aj,.str ao ar,.str aq aw,aA,aB]]++j)/\M e 3= .W 0 aY/\M e 12=az/\p e) ?_ ?_
 . obtain ⟨bx,h,bg,Y,D,bI⟩:=aaZ (n0:=H.n) (c:=1+j.length) (H:=b4) (rows:= [[.int .i64 ae,.int .i64 aj,.str ao ar,.str aq aw,aA,aB]]++j) (aQ:= [[.int .i64 aP,.int .i64 aU,.str V X,.str aR aS,aZ,a7]]) (v:=az) (x:= .A [[.int .i64 aP,.int .i64 aU,.str V X,.str aR aS,aZ,a7]] true) bJ cX ch.n bV.i0 (.inl (.inr ⟨_,rfl⟩)) (λr u=>by rw [bs.1 u];exact aH) da da;have bk:=jc aH b4;have aO:=D.up H (aT _) ch;have ba:=cE ad n ab ab z B bx h D.tidy (Y.cw λr u=>(bD.i0 r u).len);subst w;simp only [go_sem,hF,bJ.O,bk,bH,bg,Y.O];rcases ba with ba|⟨bC,C,ba⟩
   . simp only [go_sem,ba];exact an.mk ⟨D.tidy,aO,bI,ay⟩
   . simp only [go_sem,ba];exact an.stop rfl (bG _ C _ _ aO)
 clear hF;rintro e aG ⟨b2,bq,bI,hF⟩;refine ak.kp [0,3,4,5,6] (λp e h=>aG=h/\p e) ?_ ?_
 . have bk:=jc aH aG;have bb:=cF ad n ab ab z B (.A [[.int .i64 aP,.int .i64 aU,.str V X,.str aR aS,aZ,a7]] true) az aG b2 (.inl (.inr ⟨_,rfl⟩)) bI;subst w;simp only [go_sem,hF,bI.O,bk,bH];rcases bb with bb|⟨bC,C,bb⟩
   . simp only [go_sem,bb];exact an.mk ⟨rfl,ay⟩
   . simp only [go_sem,bb];exact an.stop rfl (bG _ C _ _ bq)
 clear hF;rintro e _ ⟨rfl,hF⟩;have cb:=bX.up y.1 bq;refine ak.bF hF (λp e h=>aG=h/\p e) ?_ ?_
 . subst w;simp only [go_sem,hF,E.O,E.len];generalize ca:a1 _ _ _ _ _ _ _ _ _ _=a8;revert a8;refine dA [0,3,4,5,6,124] (λ_=>True) j.length trivial ?_ ?_
   . intro ck s e bn bh hF;obtain ⟨o,Z⟩:=bA bn;have I:=aV Z;have bc:=cH ad n ab ab o I (.ptr id q 0 14) d z B aW aX 4 1819242306 aG b2 cb;obtain ⟨cp,cq,bz,bB,b5,b6,ct,cu,cm,cn,rfl,br,bt⟩:=(bE o I).t;simp only [go_sem,hF,E.O,E.a_ (k:=6) Z rfl,br.J,bt.J];rcases bc with bc|⟨bC,C,bc⟩
     . simp only [go_sem,bc];exact au.next () rfl trivial ay
     . simp only [go_sem,bc];exact au.stop rfl (by simp only [go_sem];exact an.stop rfl (bG _ C _ _ bq))
   . intro s e bh hF;simp only [go_sem];exact an.mk ⟨rfl,ay⟩
 clear hF;rintro e _ ⟨rfl,hF⟩;have bf:=cI ad n ab ab (.ptr id q 0 14) d z B aW aX bN bO aG b2 cb;subst w;simp only [go_sem,hF];rcases bf with bf|⟨bC,C,bf⟩
 . simp only [go_sem,bf];exact ak.un y bq
 . simp only [go_sem,bf];exact ak.aK C (C.aI 17) y bq
end
def AI (f:Nat) (args:List aa) (ad n:Nat) (H:af) (P:Prop):Prop:=(P/\ ∀a,az G (X G R ad n) f args H a= .ok (.av []) a H)\/ ∃b,fA b/\ ∀a,az G (X G R ad n) f args H a= .aK b H
def FR (P:Prop) (v:aa):Prop:=v= .av []/\P
def Xz {f:Nat} {args:List aa} {ad n:Nat} {H:af} {P:Prop} (ag:(∃v,FR P v/\ ∀tm,az G (X G R ad n) f args H tm= .ok v tm H)\/(∃v,fA v/\ ∀tm,az G (X G R ad n) f args H tm= .aK v H)):AI f args ad n H P:=by
 rcases ag with ⟨v,⟨rfl,b⟩,a⟩|ag
 . exact .inl ⟨b,a⟩
 . exact .inr ag
@[go_sem] theorem ag0 (E:Env) (tm H t u w):gp E [.tmp t,.tmp u,.tmp w] tm H=(if aD (M tm t)&&(aD (M tm u)&&aD (M tm w)) then .ret (.av [M tm t,M tm u,M tm w]) H else .fail):=by simp only [gp,hU,lx];simp
def NN (v:aa):Prop:= ∃a b c ok,v= .av [.str a b,.bool c,.bool ok]
section
variable {ax:aa} {s:List aa} {kN jv rop j3 aJ:Y} (ag:dO ax s kN jv rop j3 aJ) {d:List aa} {req p aU u:Y} (aX:fz d s kN jv rop j3 aJ req p aU u)
include ag aX
omit ag in
theorem Jl:bo λad n=> ∀c (l m:Nat) H,Tidy H->dP H c d ax-> ∃v,NN v/\ ∀tm,az G (X G R ad n) 131 [c,.str l m] H tm= .ok v tm H:=by
 refine ⟨p.length+aU.length+2,λad n cQ bO c l m H hw bp=> ?_⟩;obtain ⟨n,rfl⟩:=bY n;obtain ⟨id,g,adv,ro,rfl,ku,ks,Ir⟩:=bp;obtain ⟨so,be,op,cP,bJ,rfl,-⟩:=aX.bT.eq;have aeN:=aX.n1;obtain ⟨n3,e,o,rN,afJ,ag5,st,uG,rfl,-,he,b9,-,hm,bh,-,-⟩:=aX.eq;simp only [bl,a6] at ku;refine hg (aL.at (m:=43) rfl rfl rfl rfl rfl rfl rfl rfl ?_);have hF:=trivial;refine ak.kp [0,1] (λF tm H'=>H=H'/\F tm) ?_ ?_
 . simp only [go_sem];exact an.mk ⟨rfl,dC⟩
 rintro tm _ ⟨rfl,hF⟩;refine ak.kp [0,1] (λF tm H'=>H=H'/\F tm) ?_ ?_
 . simp only [go_sem,hF,ku,ks,b9.O,b9.len];generalize SA:a1 _ _ _ _ _ _ _ _ _ _=AG;revert AG;refine dA [0,1,15] (λ_=>True) p.length trivial ?_ ?_
   . intro j s tm gE p0 hF;obtain ⟨x,rB⟩:=bA gE;obtain ⟨Qk,cs,a,A9,Bo,rfl,⟨kY,Oy,rfl,-⟩,⟨a2,Oz,rfl,-⟩,Cb,⟨A9,rfl⟩,⟨Bo,rfl⟩⟩:=aX.b9 x (aV rB);obtain ⟨VV,wk,ahS,ahN,i3,ahT,u,w,VU,kw,rfl,Cv,Cw⟩:=Cb.t;simp only [bl,a6] at rB;simp only [go_sem,hF,b9.O,b9.a_ (k:=10) rB rfl,Cv.J,Cw.J];refine au.aE ?_ ?_<;>intro g<;>simp only [go_sem,hF,g]
     all_goals first
      |exact au.next () rfl trivial ay
      |exact au.stop rfl (by simp only [go_sem];exact an.stop rfl (by simp only [go_sem,hF];exact ak.mk ⟨_,_,_,_,rfl⟩ rfl hw (U.refl _)))
   . intro s tm p0 hF;simp only [go_sem];exact an.mk ⟨rfl,ay⟩
 clear hF;rintro tm _ ⟨rfl,hF⟩;simp only [go_sem,hF,ku,ks,hm.O,hm.len];generalize SA:a1 _ _ _ _ _ _ _ _ _ _=AG;revert AG;refine dA [1,32] (λ_=>True) aU.length trivial ?_ ?_
 . intro j s tm gE p0 hF;obtain ⟨x,rB⟩:=bA gE;obtain ⟨Qk,cs,a,A9,Bo,rfl,⟨kY,Oy,rfl,-⟩,⟨a2,Oz,rfl,-⟩,Cb,⟨A9,rfl⟩,⟨Bo,rfl⟩⟩:=aX.hm x (aV rB);obtain ⟨VV,wk,ahS,ahN,i3,ahT,u,w,VU,kw,rfl,Cv,Cw⟩:=Cb.t;simp only [bl,a6] at rB;simp only [go_sem,hF,hm.O,hm.a_ (k:=10) rB rfl,Cv.J,Cw.J];refine au.aE ?_ ?_<;>intro g<;>simp only [go_sem,hF,g]
   all_goals first
    |exact au.next () rfl trivial ay
    |exact au.stop rfl (by simp only [go_sem,hF];exact ak.mk ⟨_,_,_,_,rfl⟩ rfl hw (U.refl _))
 . intro s tm p0 hF;simp only [go_sem,hF];exact ak.mk ⟨_,_,_,_,rfl⟩ rfl hw (U.refl _)
end
def VQ {ax:aa} {s:List aa} {kN jv rop j3 y:Y} (q:dO ax s kN jv rop j3 y) {d:List aa} {req p bx u:Y} (ah:fz d s kN jv rop j3 y req p bx u):
    bo λad n=> ∀c H,Tidy H->dP H c d ax->AI 67 [c] ad n H (∀r∈rop,∀l m args ls ms st,fB r l m args ls ms st->st≠ []->pt kN jv y ls ms=false):=by
 obtain ⟨bj,B⟩:=sm q;obtain ⟨bk,V⟩:=Jl ah;obtain ⟨bm,C⟩:=gu 13 al;obtain ⟨bn,Z⟩:=gu 15 al;obtain ⟨bp,ae⟩:=gu 16 al;obtain ⟨bq,aZ⟩:=dE (l:=rop) (Q:=λr ad n=> ∀l m args ls ms st,fB r l m args ls ms st-> ∀H a,Tidy H->az G (X G R ad n) 86 [ax,.str ls ms] H a= .ok (.bool (pt kN jv y ls ms)) a H) λr A=>by obtain ⟨l,m,args,ls,ms,st,aN⟩:=q.bT.op r A;obtain ⟨bh,bb⟩:=Jg q ls ms;refine ⟨bh,λad n B V aP aR aB aQ aS aT P H a i=> ?_⟩;obtain ⟨b,aw,s,av,I,N,-⟩:=aN.eq;obtain ⟨aX,bs,bz,bf,bg,v,-⟩:=P.eq;rw [N] at v;simp only [jn,aa.str.injEq] at v;obtain ⟨-,-,⟨rfl,rfl⟩,-⟩:=v;exact bb ad n B V H a i
 obtain ⟨aW,cj,ck,cl,cm,cn⟩:=q.val;refine ⟨bj+bk+bm+bn+bp+bq+rop.length+2,λad n bK bL c H i D=> ?_⟩;obtain ⟨n,rfl⟩:=bY n;have B:=λl m a=>B ad n ab ab (l,m) trivial H a i;have aI:=λl m=>V ad n ab ab c l m H i D;have C:=λl m b f a=>C ad n ab ab l m b f H a i;have Z:=λl m b f a=>Z ad n ab ab l m b f H a i;have ae:=λl m b f a=>ae ad n ab ab l m b f H a i;obtain ⟨id,j,bG,ca,rfl,h,o,ba⟩:=D;have bI:=dP.te (ax:=ax) ba;have bN:=ah.n1;have bP:=q.bT.n;have aq:=q.bT.op;have a8:=q;obtain ⟨bc,bW,cq,b3,ct,b1,cr,ag,-⟩:=q;obtain ⟨ch,bE,b7,bH,cp,rfl,bR,bS,t,bU,bV⟩:=bc.eq;obtain ⟨b5,N,b6,b2,b4,cb,st,cu,rfl,-,bJ,aN,⟨bZ,b0,rfl,-⟩,E,A,⟨cd,cg,rfl,-⟩,⟨bC,bD,rfl,-⟩⟩:=ah.eq;simp only [bl,a6] at h ag;have bO:=a8.same;have K: ∀(aA:Prop) (c:Int) (D:c≠0) l m b f aU,ak (FR aA) fA H (fin G [] (.aK (.iface 78 (.agg [.int .i64 c,.str l m,.int .i64 b,.int .i64 f])) aU H [])):=λaA c D l m b f aU=>by simp only [go_sem];exact ak.aK (lO c D _ _ _ _) rfl i (U.refl _)
 refine Xz (aL.at (m:=140) rfl rfl rfl rfl rfl rfl rfl rfl ?_);refine ak.bM (λa e=>H=e/\aM 141 [(0,.ptr id j 0 14),(2,.W 0 [.int .i64 0,.int .i64 0])] a) ?_ ?_
 . simp only [go_sem];exact an.mk ⟨rfl,dC⟩
 rintro a _ ⟨rfl,hF⟩;refine ak.bF hF (λg a e=>H=e/\g a) ?_ ?_
 . simp only [go_sem,hF,h,o,aW,B];refine an.aE ?_ ?_<;>intro j<;>simp only [go_sem,hF,j,h,o,C]
   . exact an.mk ⟨rfl,ay⟩
   . exact an.stop rfl (K _ 13 al _ _ _ _ _)
 clear hF;rintro a _ ⟨rfl,hF⟩;refine ak.bF hF (λg a e=>H=e/\g a) ?_ ?_
 . obtain ⟨bB,⟨b,f,br,ok,rfl⟩,T⟩:=aI bC bD;refine an.kp [0,2] (λg a e=>H=e/\(∃aC aD,M a 4= .bool aC/\M a 5= .bool aD/\g a)) ?_ ?_
   . simp only [go_sem,hF,h,o,T];exact an.mk ⟨rfl,_,_,by simp only [go_sem,hF];trivial⟩
   clear hF;rintro a _ ⟨rfl,aC,aD,hF⟩;simp only [go_sem,hF]
   iterate 2 all_goals try (refine an.aE ?_ ?_<;>intro j<;>simp only [go_sem,hF,j,h,o,C])
   all_goals first
    |exact an.mk ⟨rfl,ay⟩
    |exact an.stop rfl (K _ 13 al _ _ _ _ _)
 clear hF;rintro a _ ⟨rfl,hF⟩;refine ak.bF hF (λg a e=>H=e/\g a) ?_ ?_
 . simp only [go_sem,hF,h,o,E.O,E.len];refine an.aE ?_ ?_<;>intro j<;>simp only [go_sem,hF,j,h,o,Z]
   all_goals first
    |exact an.mk ⟨rfl,ay⟩
    |exact an.stop rfl (K _ 15 al _ _ _ _ _)
 clear hF;rintro a _ ⟨rfl,hF⟩;refine ak.kp [0,2] (λg a e=>H=e/\(∃b f aF,M a 6= .str b f/\M a 8= .bool aF/\g a)) ?_ ?_
 . obtain ⟨bB,⟨b,f,br,ok,rfl⟩,T⟩:=aI 1 107;simp only [go_sem,hF,T];exact an.mk ⟨rfl,_,_,_,by simp only [go_sem,hF];trivial⟩
 clear hF;rintro a _ ⟨rfl,cc,cf,aF,hF⟩;refine ak.kp [0,2] (λg a e=>H=e/\g a) ?_ ?_
 . simp only [go_sem,hF,h,o,ag,t.O,t.len];generalize a7:a1 _ _ _ _ _ _ _ _ _ _=S;revert S;refine dA [0,2,6,8,89] (λ_=>True) rop.length trivial ?_ ?_
   . intro I s a aj z hF;obtain ⟨L,x⟩:=bA aj;have bQ:=(aq L (aV x)).len;obtain ⟨l,m,args,ls,ms,st,⟨⟨b,aw,s,av,aO,rfl,af,w,⟨bt,ar,-⟩⟩,-⟩⟩:=aq L (aV x);simp only [go_sem,hF,t.O,t.a_ (k:=7) x rfl,af.J,w.J,ar.J,w.O,w.len]
     iterate 3 all_goals try (refine au.aE ?_ ?_<;>intro j<;>simp only [go_sem,hF,j,C])
     all_goals first
      |exact au.next () rfl trivial ay
      |exact au.stop rfl (by simp only [go_sem];exact an.stop rfl (K _ 13 al _ _ _ _ _))
   . intro s a z hF;simp only [go_sem];exact an.mk ⟨rfl,ay⟩
 clear hF;rintro a _ ⟨rfl,hF⟩;simp only [go_sem,hF,h,o,ag,t.O,t.len];generalize a7:a1 _ _ _ _ _ _ _ _ _ _=S;revert S;refine dA [0,2,117] (λI=> ∀r∈rop.take I,∀l m args ls ms st,fB r l m args ls ms st->st≠ []->pt kN jv y ls ms=false) rop.length ai ?_ ?_
 . intro I s a aj z hF;obtain ⟨L,x⟩:=bA aj;have E:=aV x;obtain ⟨l,m,args,ls,ms,st,ao⟩:=aq L E;have aY:=λa=>aZ ad n ab ab L E l m args ls ms st ao H a i;have aJ:(st≠ []->pt kN jv y ls ms=false)-> ∀r∈rop.take (I+1),∀l m args ls ms st,fB r l m args ls ms st->st≠ []->pt kN jv y ls ms=false:=λbd r A aP aR aB aQ aS aT P F=>by
    rcases tT x A with A|rfl
    . exact z r A aP aR aB aQ aS aT P F
    . obtain ⟨b,aw,s,av,aO,N,b8,bu,-⟩:=ao.eq;obtain ⟨aX,bs,bz,bf,bg,v,b9,bw,-⟩:=P.eq;rw [N] at v;simp only [jn,aa.str.injEq] at v;obtain ⟨-,-,⟨rfl,rfl⟩,-,-,-,rfl,-⟩:=v;rw [qe bw bu] at F;exact bd F
   obtain ⟨b,aw,s,av,aO,rfl,af,w,⟨bt,ar,-⟩⟩:=ao.eq;simp only [go_sem,hF,t.O,t.a_ (k:=7) x rfl,af.J,w.J,ar.J,w.O,w.len];refine au.aE ?_ ?_<;>intro aG<;>simp only [go_sem,hF,aG,h,o,aW,aY]
   all_goals try (refine au.aE ?_ ?_<;>intro aH<;>simp only [go_sem,hF,aH,ae])
   all_goals first
    |exact au.stop rfl (by simp only [go_sem];exact K _ 16 al _ _ _ _ _)
    |exact au.next () rfl (aJ λ_=>aH) ay
    |exact au.next () rfl (aJ λF=>absurd aG (by cases st<;>simp at F|-)) ay
 . intro s a z hF;rw [bX] at z;simp only [go_sem];exact ak.mk ⟨rfl,z⟩ rfl i (U.refl _)
def dQ (r:List aa):List aa:=(r.drop 2).take 6
def sQ (r:List aa):List aa:= [M r 0]
def iz.row {r} (d:iz r):r.length=10/\ ∀v∈r,J v=true/\D 20 v=true:=by
 obtain ⟨k,l,f,b,c,rfl,⟨g,i,rfl,-⟩,⟨h,j,rfl,-⟩,e,⟨b,rfl⟩,⟨c,rfl⟩⟩:=d;have:=e.row;refine ⟨by simp [this.1],λv a=> ?_⟩;simp only [bl,a6,b2,cr,dG,or_false] at a;rcases a with rfl|rfl|a|rfl|rfl
 . exact ⟨rfl,rfl⟩
 . exact ⟨rfl,rfl⟩
 . exact this.2 v a
 . exact ⟨rfl,rfl⟩
 . exact ⟨rfl,rfl⟩
theorem qK {rows:Y} (a:b8 rows): ∀r∈rows,r.length=1:=λr b=>by obtain ⟨c,d,rfl,-⟩:=a r b;rfl
def A3 {y z:aa} {ky i:Y} (a:F y ky) (b:F z i) (H:af):cT G 230 2 [(0,y),(1,z)] H=some (.A [[y],[z]] true,H):=by
 have:=uX (E:=G) (t:=230) (el:=28) (k:=1) (H:=H) (z:= .V) aq aq aq al rfl al y z a.rk b.rk;rw [a.cells,b.cells] at this;exact this
def Vb {ax:aa} {s:List aa} {kN jv rop j3 bB:Y} (aq:dO ax s kN jv rop j3 bB) {d:List aa} {req p o u:Y} (aA:fz d s kN jv rop j3 bB req p o u)
    {N:Nat} (hT:bL ((p++o).map dQ) N) (hN:N<100000):
    bo λad n=> ∀c H,Tidy H->dP H c d ax->fK 66 [c] ad n H:=by
 have cX:=aA.n1;have aZ: ∀e∈p++o,iz e:=λe r=>(cr.1 r).elim (aA.b9 e) (aA.hm e);have cU:(p++o).length<1048560:=uF;have aF: ∀e∈p++o,bL [dQ e] N:=λe r=>hT.one (cd.2 ⟨e,r,rfl⟩);obtain ⟨cu,aR⟩:=sm aq;obtain ⟨cy,aS⟩:=gu 13 al;obtain ⟨cz,aU⟩:=gu 14 al;obtain ⟨cA,aW⟩:=gu 17 al;obtain ⟨cB,bW⟩:=dE (l:=p++o) (Q:=λe ad n=> ∀w c d (h i:Int) (f g:Nat) H,Tidy H->dP H c d ax->cG H 6 w [dQ e]->fK 123 [c,.agg [.int .i64 h,.int .i64 i],.str f g,w] ad n H) λe r=>wb aq [dQ e] (aF e r).i0 ai;obtain ⟨cC,bX⟩:=dE (l:=p++o) (Q:=λe ad n=> ∀c d (h i:Int) (f g bg bh:Nat) H,Tidy H->dP H c d ax->fK 128 [c,.agg [.int .i64 h,.int .i64 i],.str f g,.agg (dQ e),.str bg bh] ad n H) λe r=>tM aq ((aF e r).i0 _ (bs.2 rfl));obtain ⟨cD,bZ⟩:=dE (l:=p++o) (Q:=λe ad n=> ∀w H,Tidy H->cG H 6 w [dQ e]-> ∃z,uO N z/\ ∀a,az G (X G R ad n) 130 [w] H a= .ok z a H) λe r=>JA [dQ e] N ab (aF e r);obtain ⟨cE,b0⟩:=oZ 1048560 al;have cQ:=aA;obtain ⟨c4,cN,bz,c0,bx,dc,de,dp,cf,-,cR,ba,-,a8,r,-,-⟩:=aA.eq;have aG: [p,o].flatten=p++o:=ai;obtain ⟨cx,bp⟩:=(Ds (.A [[bz],[bx]] true) [[bz],[bx]] [p,o] (.inr ⟨_,rfl⟩) (wG ba a8) rfl ai (by rw [aG];exact λe r=>(aZ e r).row) (by rw [aG];unfold b7;omega) (by rw [aG];omega)).val;rw [aG] at bp;obtain ⟨cI,df,dg,dh,dj,dk⟩:=aq.val;have cY:=aq.same;refine ⟨cu+cy+cz+cA+cB+cC+cD+cE+cx+(p++o).length+N+2,λad n cT cW c H v aw=> ?_⟩;obtain ⟨n,rfl⟩:=bY n;have aR:=λf g H v a=>aR ad n ab ab (f,g) trivial H a v;have aS:=λf g h i H v a=>aS ad n ab ab f g h i H a v;have aU:=λf g h i H v a=>aU ad n ab ab f g h i H a v;have aW:=λf g h i H v a=>aW ad n ab ab f g h i H a v;have b6:=aw;obtain ⟨id,K,cL,c9,rfl,aH,cb,ca⟩:=aw;have b4:=dP.te (ax:=ax) ca;obtain ⟨bC,aJ,bJ⟩:=bp ad n ab ab H v;have b5:=A3 ba a8 H;have cS:=aH;obtain ⟨dd,cK,c6,cO,dm,rfl,-⟩:=aq.bT.eq;rw [cf] at aH;simp only [bl,a6] at aH;have bj: ∀(c:Int) (aw:c≠0) f g h i aC j,U H j->ak lL fA H (fin G [] (.aK (.iface 78 (.agg [.int .i64 c,.str f g,.int .i64 h,.int .i64 i])) aC j [])):=λc aw f g h i aC j bc=>by simp only [go_sem];exact ak.aK (lO c aw _ _ _ _) rfl v bc
 have bA: ∀z,fA z-> ∀aC j,U H j->ak lL fA H (fin G [] (.aK z aC j [])):=λz D aC j bc=>by simp only [go_sem];exact ak.aK D (D.aI 17) v bc
 refine o6 (aL.at (m:=89) rfl rfl rfl rfl rfl rfl rfl rfl ?_);simp only [go_sem,aH,cb,ba.O,a8.O,b5,bH,bJ,aJ.O,aJ.len];have hF:=trivial;generalize b2:a1 _ _ _ _ _ _ _ _ _ _=aP;revert aP;refine cv [0,19] (λs=> [(2,s.1)]) (λs=>s.2) (λL s=>bd H.n 9 1 L s.2 (((p++o).take L).map sQ) s.1/\Tidy s.2/\U H s.2) (p++o).length (.V,H) ⟨bd.nil,v,U.refl _⟩ ?_ ?_
 . rintro L ⟨z,q⟩ a ch ⟨D,E,y⟩ hF;simp only at D E y hF|-;obtain ⟨w,aN⟩: ∃e,(p++o)[L]? =some e:=⟨(p++o)[L],by simp only [lj ch]⟩;have aB:=aV aN;have bb:b8 (((p++o).take L).map sQ):=λe r=>by obtain ⟨cJ,ct,rfl⟩:=cd.1 r;obtain ⟨bE,bG,bD,F,I,rfl,⟨B,C,rfl,bu⟩,-⟩:=aZ cJ (hQ ct);exact ⟨B,C,rfl,bu⟩
   have cm:=D.cw (qK bb);have aY:=b6.up v.1 y;have M:=λw h i f g=>bW ad n ab ab _ aB w (.ptr id K 0 14) d h i f g q E aY;have P:=λh i f g bg bh=>bX ad n ab ab _ aB (.ptr id K 0 14) d h i f g bg bh q E aY;have aD:=λw=>bZ ad n ab ab _ aB w q E;have bP:=λf g=>b0 ad n ab ab z _ f g q bb da E cm;have bI:=λf g a=>aR f g q E a;have bK:=λf g h i a=>aS f g h i q E a;have bN:=λf g h i a=>aU f g h i q E a;have bO:=λf g h i a=>aW f g h i q E a;have cn:=(aF w aB).i0 _ (bs.2 rfl);have aX:=jc cn q;obtain ⟨cZ,cP,cM,db,bU,cg,cc,-⟩:=aY;cases bU;have bn:((p++o).take (L+1)).map sQ=((p++o).take L).map sQ++ [sQ w]:=by rw [fg,aN];simp
   obtain ⟨bE,bG,bD,F,I,rfl,⟨B,C,rfl,bu⟩,⟨ar,av,rfl,-⟩,b1,⟨F,rfl⟩,⟨I,rfl⟩⟩:=aZ w aB;obtain ⟨ah,aj,Z,ae,af,ag,ao,S,c2,c1,rfl,cq,cp⟩:=b1.t;simp only [bl,a6] at aN;have bQ:dQ ([.str B C,.str ar av]++ [.int .i64 ah,.int .i64 aj,.str Z ae,.str af ag,ao,S]++ [.int .i64 F,.int .i64 I])= [.int .i64 ah,.int .i64 aj,.str Z ae,.str af ag,ao,S]:=rfl;rw [bQ] at M P aD aX;have bR:sQ ([.str B C,.str ar av]++ [.int .i64 ah,.int .i64 aj,.str Z ae,.str af ag,ao,S]++ [.int .i64 F,.int .i64 I])= [.str B C]:=rfl;rw [bR] at bn;refine au.bM (λa j=>q=j/\ ∃bk,aM 90 [(21,.int .i64 (L:Nat)),(20,.int .i64 ((p++o).length:Nat)),(0,.ptr id K 0 14),(2,z),(19,bC),(4,.W bk [.str B C,.str ar av,.int .i64 ah,.int .i64 aj,.str Z ae,.str af ag,ao,S,.int .i64 F,.int .i64 I])] a) ?_ ?_
   . simp only [go_sem,hF,aJ.O,aJ.a_ (k:=10) aN rfl,cq.J,cp.J];exact an.mk ⟨rfl,_,by simp only [go_sem,hF];trivial⟩
   clear hF;rintro a _ ⟨rfl,bk,hF⟩;refine au.bF hF (λT a j=>q=j/\ ∃bm,aM 90 [(5,.W bm [.int .i64 F,.int .i64 I])] a/\T a) ?_ ?_
   . simp only [go_sem,hF];exact an.mk ⟨rfl,_,by simp only [go_sem,hF];trivial⟩
   clear hF;rintro a _ ⟨rfl,bm,hF⟩;refine au.bM (λa j=>q=j/\aM 90 [(21,.int .i64 (L:Nat)),(20,.int .i64 ((p++o).length:Nat)),(0,.ptr id K 0 14),(2,z),(19,bC),(4,.W bk [.str B C,.str ar av,.int .i64 ah,.int .i64 aj,.str Z ae,.str af ag,ao,S,.int .i64 F,.int .i64 I]),(5,.W bm [.int .i64 F,.int .i64 I])] a) ?_ ?_
   . simp only [go_sem,hF,D.O,bP];refine an.aE ?_ ?_<;>intro K<;>simp only [go_sem,hF,K,bN]
     . exact an.stop rfl (bj 14 al _ _ _ _ _ _ y)
     simp only [go_sem,hF,cg,cc,b4,cI,bI];refine an.aE ?_ ?_<;>intro K<;>simp only [go_sem,hF,K,bK]
     . exact an.mk ⟨rfl,ay⟩
     . exact an.stop rfl (bj 13 al _ _ _ _ _ _ y)
   clear hF;rintro a _ ⟨rfl,hF⟩;refine au.bF hF (λT a j=>q=j/\T a) ?_ ?_
   . have M:=M (.A [[.int .i64 ah,.int .i64 aj,.str Z ae,.str af ag,ao,S]] true) F I B C (.inl (.inr ⟨_,rfl⟩));simp only [go_sem,hF,aX,bH];rcases M with M|⟨bV,a7,M⟩
     . simp only [go_sem,M];exact an.mk ⟨rfl,ay⟩
     . simp only [go_sem,M];exact an.stop rfl (bA _ a7 _ _ y)
   clear hF;rintro a _ ⟨rfl,hF⟩;refine au.bF hF (λT a j=>q=j/\T a) ?_ ?_
   . have P:=P F I B C ar av;simp only [go_sem,hF];rcases P with P|⟨bV,a7,P⟩
     . simp only [go_sem,P];exact an.mk ⟨rfl,ay⟩
     . simp only [go_sem,P];exact an.stop rfl (bA _ a7 _ _ y)
   clear hF;rintro a _ ⟨rfl,hF⟩;refine au.bF hF (λT a j=>q=j/\T a) ?_ ?_
   . obtain ⟨dn,⟨bf,aO,c5,c3⟩,aD⟩:=aD (.A [[.int .i64 ah,.int .i64 aj,.str Z ae,.str af ag,ao,S]] true) (.inl (.inr ⟨_,rfl⟩));simp only [go_sem,hF,aX,bH,aD,aO.O,aO.len];generalize b2:a1 _ _ _ _ _ _ _ _ _ _=aP;revert aP;refine dA [21,20,0,2,19,4,5,72] (λ_=>True) (bf.map iu).length trivial (hlf:=da) (hN:=da) ?_ ?_
     . intro bw cF a cj b3 hF;obtain ⟨e,br⟩: ∃e,(bf.map iu)[bw]? =some e:=⟨(bf.map iu)[bw],by simp only [lj cj]⟩;obtain ⟨⟨c7,c8⟩,cV,rfl⟩:=cd.1 (aV br);simp only [go_sem,hF,aO.O,aO.a_ (k:=1) br rfl,iu];refine au.aE ?_ ?_<;>intro K<;>simp only [go_sem,hF,K,bO]
       all_goals first
        |exact au.next () rfl trivial ay
        |exact au.stop rfl (by simp only [go_sem];exact an.stop rfl (bj 17 al _ _ _ _ _ _ y))
     . intro cF a b3 hF;simp only [go_sem];exact an.mk ⟨rfl,ay⟩
   clear hF;rintro a _ ⟨rfl,hF⟩;obtain ⟨cH,j,bS,bt,bq⟩:=D.app (x:= .A [[.str B C]] true) (b:=16) (k:=1) oe nI rfl rfl al al E y.n bb.rows (aQ:= [[.str B C]]) rfl (λS ck=>by rw [bs.1 ck];exact ⟨rfl,λz D=>by rw [bs.1 D];exact ⟨rfl,rfl⟩⟩)
    (by simp only [di,h6,cl,h5];unfold b7;omega) og
   simp only [go_sem,hF,D.O,bt.O,bS];exact au.next (cH,j) rfl ⟨by rw [bn];exact bt,bq.tidy,bq.up H (aT _) y⟩ ay
 . rintro ⟨z,q⟩ a ⟨D,E,y⟩ hF;simp only at y|-;simp only [go_sem];exact ak.un v y
def aN.same {r} (a:aN r):eu r r=true:=by
 induction a with
 | mk a _ _ f g=>
   obtain ⟨rfl,d,e⟩:=a.c;refine m5 _ λh b=> ?_;simp only [b2,dG,or_false] at b;rcases b with rfl|rfl|rfl|rfl|rfl|rfl
   . exact wJ _ _
   . exact wJ _ _
   . exact r8 _ _
   . exact r8 _ _
   . exact d.same f
   . exact e.same g
def lG.row {r} (e:lG r):r.length=11/\ ∀v∈r,J v=true/\D 20 v=true:=by
 obtain ⟨n,o,g,l,c,d,rfl,⟨h,j,rfl,-⟩,⟨i,k,rfl,-⟩,f,⟨m,b,-⟩,⟨c,rfl⟩,⟨d,rfl⟩⟩:=e;have:=f.row;refine ⟨by simp [this.1],λv a=> ?_⟩;simp only [bl,a6,b2,cr,dG,or_false] at a;rcases a with rfl|rfl|a|rfl|rfl|rfl
 . exact ⟨rfl,rfl⟩
 . exact ⟨rfl,rfl⟩
 . exact this.2 v a
 . exact ⟨b.J,b.aI 19⟩
 . exact ⟨rfl,rfl⟩
 . exact ⟨rfl,rfl⟩
def dd (r:List aa):List aa:=(r.drop 2).take 6
def cu (r:List aa):Y:=f (M r 8)
abbrev Ye (H:af):aa:= .fn (.func 196) [] [.ptr H.n (q 85) 0 11]
def Es (x y:List aa):Bool:=match x,y with
 | .str a e:: .str c d::_,.str b f:: .str Gr Qw::_=>(a==b&&e==f)&&(c==Gr&&d==Qw)
 |_,_=>false
def Yf (x y:List aa) (k:lG x) (l:lG y) (ad n:Nat) (H:af) (j:Tidy H) (a:H.get (H.n-1)=some (.cells (q 85) (q 85) 0 x)) (tm:List aa):
    az G (X G R ad (n+1)) 196 [.agg y,.ptr (H.n-1) (q 85) 0 11] H tm= .ok (.bool (Es y x)) tm H:=by
 obtain ⟨aj,au,r,K,c,d,rfl,⟨u,A,rfl,-⟩,⟨v,B,rfl,-⟩,g,⟨P,E,-⟩,⟨c,rfl⟩,⟨d,rfl⟩⟩:=k;obtain ⟨al,av,s,W,e,f,rfl,⟨w,C,rfl,-⟩,⟨z,D,rfl,-⟩,h,⟨ab,i,-⟩,⟨e,rfl⟩,⟨f,rfl⟩⟩:=l;obtain ⟨ah,an,L,M,N,O,aw,aq,ae,Y,rfl,I,F⟩:=g.t;obtain ⟨ai,ao,Q,S,T,V,ax,ar,ag,Z,rfl,p,o⟩:=h.t;refine fa (aL.at (m:=14) (rs:= [.tmp 3]) rfl rfl rfl rfl rfl rfl rfl rfl ?_) tm;simp only [bl,a6] at a|-;simp only [go_sem,a,p.J,o.J,i.J];refine ak.aE ?_ ?_<;>intro b<;>simp only [go_sem,b,a]
 all_goals exact ak.mk (by simp [Es,b]) rfl j (U.refl _)
def VE {ax:aa} {s:List aa} {kN jv rop j3 bB:Y} (ae:dO ax s kN jv rop j3 bB) {d:List aa} {req p cK u:Y} (cd:fz d s kN jv rop j3 bB req p cK u)
    {x:List aa} (aY:lG x) {N:Nat} (hT:bL (dd x::cu x) N) (hN:N<100000):
    bo λad n=> ∀c X S H,Tidy H->dP H c d ax->F X S->(∀y∈S,lG y)->S.length<ad->S.length<1048560->fK 132 [c,.agg x,X] ad n H:=by
 obtain ⟨c8,df,z,ah,K,P,rfl,⟨L,R,rfl,-⟩,⟨aF,aG,rfl,-⟩,af,⟨r,E,bu,-⟩,⟨j,rfl⟩,⟨k,rfl⟩⟩:=id aY;have bK:dd ([.str L R,.str aF aG]++z++ [ah,.int .i64 j,.int .i64 k])=z:=by unfold dd;rw [fu,qh ai];simp [af.len]
 have bN:cu ([.str L R,.str aF aG]++z++ [ah,.int .i64 j,.int .i64 k])=r:=by obtain ⟨bh,bk,bc,bd,bf,bg,bp,bn,bA,cF,az,-,-⟩:=af.ea;obtain ⟨rfl,-⟩:=az;exact bm E
 rw [bK,bN] at hT;have ck:=hT.len;simp only [cl] at ck;obtain ⟨b3,cU⟩:=hT.g_ (dF ..);obtain ⟨cx,bU⟩:=Jl (ax:=ax) cd;obtain ⟨cy,bV⟩:=(Je ae b3 ab).bW;obtain ⟨cz,bX⟩:=wb ae r bu ab;obtain ⟨cA,bY⟩:=dE (l:=z::r) (Q:=λh ad n=> ∀c d (K P:Int) (f g cG cH:Nat) H,Tidy H->dP H c d ax->fK 128 [c,.agg [.int .i64 K,.int .i64 P],.str f g,.agg h,.str cG cH] ad n H) λh ar=>tM ae (hT.i0 h ar);obtain ⟨cB,bZ⟩:=gu 13 al;obtain ⟨cC,b0⟩:=gu 15 al;obtain ⟨cD,b1⟩:=gu 14 al;obtain ⟨cE,b2⟩:=gu 16 al;obtain ⟨cM,dh,di,dj,dk,dm⟩:=ae.val;have c3:=ae.same;have b4:=wI (LW af.same);refine ⟨cx+cy+cz+cA+cB+cC+cD+cE+r.length+5,λad n c1 c2 c X S H I T aR bt b8 cX=> ?_⟩;obtain ⟨n,rfl⟩: ∃cI,n=cI+4:=⟨n-4,ab⟩;have a8:=aY.row;generalize a7: [.str L R,.str aF aG]++z++ [ah,.int .i64 j,.int .i64 k]=x at*;have o:Tidy (H.push (.cells (q 85) (q 85) 0 x)):=I.push (ba.2 λw V=>fR _ 20 20 w al (a8.2 w V).2);have B:U H (H.push (.cells (q 85) (q 85) 0 x)):=(U.refl H).push _;generalize aP:H.push (.cells (q 85) (q 85) 0 x)=e at*;have bw:e.n=H.n+1:=by rw [<-aP];rfl
 have i:e.get H.n=some (.cells (q 85) (q 85) 0 x):=by rw [<-aP];exact dL _ _
 have aS:=T.up I.1 B;have aH:=λf g=>bU ad (n+3) ab ab c f g e o aS;obtain ⟨cP,bq⟩:=bV ad (n+3) ab ab e o;have D:=λf g=>bX ad (n+3) ab ab ah c d j k f g e o aS E.cw;have bE:=λf g a=>bZ ad (n+3) ab ab f g j k e a o;have bG:=λf g a=>b0 ad (n+3) ab ab f g j k e a o;have bI:=λf g a=>b1 ad (n+3) ab ab f g j k e a o;have bJ:=λf g a=>b2 ad (n+3) ab ab f g j k e a o;have cc:=I8 X (Ye H) S (λy=>Es y x) aR (λy bb=>(bt y bb).row.1) ab rfl (λ_=>rfl) ad (n+1) b8 e o (λy bb a=>by simp only [eg,a6,bl];have:=Yf x y aY (bt y bb) ad n e o (by rw [bw,tD];exact i) a;rw [bw,tD] at this;exact this);have b9:=T;obtain ⟨id,aJ,cS,dc,rfl,cZ,cY,cf⟩:=T;have b7:=dP.te (ax:=ax) cf;have ca:=aS;obtain ⟨c5,br,cT,de,bP,ch,cg,-⟩:=ca;cases bP;have bs:=jc af e;obtain ⟨bh,bk,bc,bd,bf,bg,bp,bn,bA,cF,az,-,-⟩:=af.ea;have ao:=az.eq;obtain ⟨-,-,-,-,-,bx,c4,-,-⟩:=az;have aA: ∀(c:Int) (T:c≠0) f g K P aj b,U H b->ak lL fA H (fin G [] (.aK (.iface 78 (.agg [.int .i64 c,.str f g,.int .i64 K,.int .i64 P])) aj b [])):=λc T f g K P aj b aW=>by simp only [go_sem];exact ak.aK (lO c T _ _ _ _) rfl I aW
 have cJ: ∀w,fA w-> ∀aj b,U H b->ak lL fA H (fin G [] (.aK w aj b [])):=λw V aj b aW=>by simp only [go_sem];exact ak.aK V (V.aI 17) I aW
 refine o6 (aL.at (m:=92) rfl rfl rfl rfl rfl (by simp only [aO,aR.aD];rfl) rfl rfl ?_);have hF:=trivial;refine ak.kp [0,2,6] (λC a b=>e=b/\M a 4= .ptr H.n (q 85) 0 11/\C a) ?_ ?_
 . have b6:x.all J=true:=ba.2 λw V=>(a8.2 w V).1;have ct:=a8.1;simp only [go_sem,b6,ct,aP];exact an.mk ⟨rfl,dC⟩
 rintro a _ ⟨rfl,hF⟩;rw [ao] at a7;simp only [bl,a6] at a7;rw [<-a7] at i;rw [ao] at b4 bq bs;refine ak.bM (λa b=>e=b/\aM 95 [(0,.ptr id aJ 0 14),(4,.ptr H.n (q 85) 0 11),(2,X),(6,.W 0 [.int .i64 j,.int .i64 k])] a) ?_ ?_
 . simp only [go_sem,hF,i];exact an.mk ⟨rfl,ay⟩
 clear hF;rintro a _ ⟨rfl,hF⟩;refine ak.bF hF (λC a b=>e=b/\ ∃aB aC bj ok,aM 95 [(7,.str aB aC),(8,.bool bj),(9,.bool ok)] a/\C a) ?_ ?_
 . obtain ⟨w,⟨K,P,bj,ok,rfl⟩,aH⟩:=aH L R;simp only [go_sem,hF,i,aH];exact an.mk ⟨rfl,_,_,_,_,by simp only [go_sem,hF];trivial⟩
 clear hF;rintro a _ ⟨rfl,aB,aC,bj,ok,hF⟩;refine ak.bM (λa b=>e=b/\aM 95 [(0,.ptr id aJ 0 14),(4,.ptr H.n (q 85) 0 11),(6,.W 0 [.int .i64 j,.int .i64 k]),(7,.str aB aC)] a) ?_ ?_
 . simp only [go_sem,hF];refine an.aE ?_ ?_<;>intro br<;>simp only [go_sem,hF,br,i,bE]
   all_goals try exact an.stop rfl (aA 13 al _ _ _ _ _ _ B)
   refine an.aE ?_ ?_<;>intro bR<;>simp only [go_sem,hF,bR,i,bG]
   all_goals try exact an.stop rfl (aA 15 al _ _ _ _ _ _ B)
   simp only [go_sem,hF,aR.O,cc];refine an.aE ?_ ?_<;>intro bS<;>simp only [go_sem,hF,bS,i,bI]
   all_goals try exact an.stop rfl (aA 14 al _ _ _ _ _ _ B)
   simp only [go_sem,hF,ch,cg,b7,cM,i,bq]
   iterate 3 all_goals try (refine an.aE ?_ ?_<;>intro bT<;>simp only [go_sem,hF,bT,i,E.O,E.len,bJ])
   all_goals first
    |exact an.stop rfl (aA 16 al _ _ _ _ _ _ B)
    |exact an.mk ⟨rfl,ay⟩
 clear hF;rintro a _ ⟨rfl,hF⟩;refine ak.bF hF (λC a b=>e=b/\C a) ?_ ?_
 . have D:=D L R;simp only [go_sem,hF,i,E.O];rcases D with D|⟨bQ,aq,D⟩
   . simp only [go_sem,D];exact an.mk ⟨rfl,ay⟩
   . simp only [go_sem,D];exact an.stop rfl (cJ _ aq _ _ B)
 clear hF;rintro a _ ⟨rfl,hF⟩;have aw: ∀h∈ [z]++r,aN h:=hT.i0;rw [ao] at aw;obtain ⟨cL,b,bO,cq,aU⟩:=pq (n0:=H.n) (c:=1) (H:=e) (rows:= [[.int .i64 bh,.int .i64 bk,.str bc bd,.str bf bg,bp,bn]]) (aQ:=r) (v:= .A [[.int .i64 bh,.int .i64 bk,.str bc bd,.str bf bg,bp,bn]] true) (x:=ah) (.inr (.inl rfl)) o B.n (λh ag=>aw h (hP _ ag)) E.cw bu da ab;have aX:=aU.up H (aT _) B;have av:=cq.cw (λh ag=>(aw h ag).len);have cb:=b9.up I.1 aX;have cj:=aU.other _ _ i (by simp [cW]);refine ak.bF hF (λC a bC=>b=bC/\aM 95 [(81,cL),(82,.int .i64 ((r.length+1:Nat):Int)),(83,.int .i64 0)] a/\C a) ?_ ?_
 . simp only [go_sem,hF,i,bs,bH,E.O,bO,av.O,av.len];exact an.mk ⟨rfl,ay⟩
 clear hF;rintro a _ ⟨rfl,hF⟩;simp only [go_sem];generalize cV:a1 _ _ _ _ _ _ _ _ _ _=bD;revert bD;refine dA [0,4,6,7,81] (λ_=>True) (r.length+1) trivial ?_ ?_
 . intro bz s a c0 b5 hF;obtain ⟨x,aZ⟩: ∃h,([z]++r)[bz]? =some h:=⟨([z]++r)[bz]'da,ai⟩;have ar:=aV aZ;have Z:=bY ad (n+3) ab ab x ar (.ptr id aJ 0 14) d j k L R aB aC b aU.tidy cb;have cr:=hT.i0 x ar;rw [ao] at aZ;obtain ⟨db,cm,cn,cp,-⟩:=av.at (λh ag=>(aw h ag).len) aZ;obtain ⟨c7,c9,cN,cQ,cO,cR,dg,dn,bA,c6,rfl,bx,cv⟩:=cr.t;simp only [go_sem,hF,av.O,cm,cn,cp,bx.J,cv.J,cj];rcases Z with Z|⟨bQ,aq,Z⟩
   . simp only [go_sem,Z];exact au.next () rfl trivial ay
   . simp only [go_sem,Z];exact au.stop rfl (by simp only [go_sem];exact ak.aK aq (aq.aI 17) I aX)
 . intro s a b5 hF;simp only [go_sem];exact ak.un I aX
def KL (l m:Nat) (y:List aa):Bool:=match y with
 |_:: .str a b::_=>a==l&&b==m
 |_=>false
def Wr (y:List aa) (g:lG y) (l m ad n:Nat) (H:af) (f:Tidy H) (id:Nat) (d:H.get id=some (.cells (q 9) (q 9) 0 [.str l m])) (tm:List aa):
    az G (X G R ad (n+1)) 198 [.agg y,.ptr id (q 9) 0 1] H tm= .ok (.bool (KL l m y)) tm H:=by
 obtain ⟨D,I,j,x,a,b,rfl,⟨k,p,rfl,-⟩,⟨o,r,rfl,-⟩,c,⟨A,e,-⟩,⟨a,rfl⟩,⟨b,rfl⟩⟩:=g;obtain ⟨C,E,s,u,v,w,K,F,B,z,rfl,i,h⟩:=c.t;refine fa (aL.at (m:=6) (rs:= [.tmp 3]) rfl rfl rfl rfl rfl rfl rfl rfl ?_) tm;simp only [bl,a6];simp only [go_sem,d,i.J,h.J,e.J];exact ak.mk rfl rfl f (U.refl _)
def cC (r:List aa):Y:=f (M r 0)
def VC {ax:aa} {s:List aa} {kN jv rop j3 bt:Y} (aO:dO ax s kN jv rop j3 bt) {d:List aa} {req p ah u:Y} (aR:fz d s kN jv rop j3 bt req p ah u)
    {r:List aa} (x:lI r):bo λad n=> ∀c (F I:Int) H,Tidy H->dP H c d ax->fK 135 [c,.agg [.int .i64 F,.int .i64 I],.agg r] ad n H:=by
 obtain ⟨c3,bq,b1,cn,bu,M,N,rfl,⟨aF,aG,rfl,-⟩,⟨ck,aW,bd,cE⟩,⟨cM,bQ,-,-⟩,⟨E,D,aZ,cH⟩,⟨aH,y,az,cx⟩,⟨b9,rfl⟩,⟨cb,rfl⟩⟩:=x;have cB:=aR.n1;have bg: ∀b∈(E.map cC).flatten,aN b:=λb z=>by obtain ⟨g,bS,z⟩:=kD.1 z;obtain ⟨r,x,rfl⟩:=cd.1 bS;obtain ⟨c,rfl,⟨cl,aP,aQ,-⟩⟩:=aZ r x;rw [show cC [c]=cl from bm aP] at z;exact aQ b z
 obtain ⟨b2,aP⟩:=dE (l:=(E.map cC).flatten) (Q:=λb ad n=> ∀v c d (M N:Int) (g o:Nat) H,Tidy H->dP H c d ax->cG H 6 v [b]->fK 123 [c,.agg [.int .i64 M,.int .i64 N],.str g o,v] ad n H) λb z=>wb aO [b] (λv bY=>by rw [bs.1 bY];exact bg b z) ai;obtain ⟨b3,aQ⟩:=dE (l:=(E.map cC).flatten) (Q:=λr ad n=> ∀c d (M N:Int) (g o b8 bp:Nat) H,Tidy H->dP H c d ax->fK 128 [c,.agg [.int .i64 M,.int .i64 N],.str g o,.agg r,.str b8 bp] ad n H) λb z=>tM aO (bg b z);obtain ⟨b4,bE⟩:=gu 15 al;obtain ⟨b5,bG⟩:=gu 13 al;obtain ⟨b6,bI⟩:=gu 14 al;obtain ⟨b7,bJ⟩:=oZ 1048560 al;refine ⟨b2+b3+b4+b5+b6+b7+1048570,λad n cz cA c F I H R ae=> ?_⟩;obtain ⟨n,rfl⟩: ∃cj,n=cj+4:=⟨n-4,ab⟩;have ba:=ae;obtain ⟨id,aJ,cq,c9,rfl,af,aS,cu⟩:=ae;obtain ⟨dc,cp,c7,ct,df,rfl,-⟩:=aO.bT.eq;obtain ⟨c4,cr,c6,cN,cY,db,dd,dg,bP,-,cy,cD,⟨cO,cP,rfl,-⟩,aA,cF,-,-⟩:=aR.eq;rw [bP] at af;simp only [bl,a6] at af;have a7: ∀(c:Int) (ae:c≠0) g o M N aj e,U H e->ak lL fA H (fin G [] (.aK (.iface 78 (.agg [.int .i64 c,.str g o,.int .i64 M,.int .i64 N])) aj e [])):=λc ae g o M N aj e aY=>by simp only [go_sem];exact ak.aK (lO c ae _ _ _ _) rfl R aY
 have br: ∀a8,fA a8-> ∀aj e,U H e->ak lL fA H (fin G [] (.aK a8 aj e [])):=λa8 bk aj e aY=>by simp only [go_sem];exact ak.aK bk (bk.aI 17) R aY
 refine o6 (aL.at (m:=116) rfl rfl rfl rfl rfl rfl rfl rfl ?_);refine ak.bM (λa e=>H=e/\aM 119 [(0,.ptr id aJ 0 14),(4,.W 0 [.int .i64 F,.int .i64 I]),(5,.W 0 [.str aF aG,bq,b1,cn,bu,.int .i64 b9,.int .i64 cb])] a) ?_ ?_
 . simp only [go_sem,aW.J,bQ.J,D.J,y.J];exact an.mk ⟨rfl,dC⟩
 rintro a _ ⟨rfl,hF⟩;refine ak.bF hF (λX a e=>(H=e/\ ∀r∈E,(cC r).length=ah.length)/\X a) ?_ ?_
 . simp only [go_sem,hF,D.O,D.len];generalize aw:a1 _ _ _ _ _ _ _ _ _ _=B;revert B;refine dA [0,4,5,17] (λi=> ∀r∈E.take i,(cC r).length=ah.length) E.length ai ?_ ?_
   . intro i s a P C hF;obtain ⟨v,h⟩:=bA P;have bW:=λr (x:r∈E.take (i+1))=>tT h x;obtain ⟨ao,rfl,⟨S,w,bb,bO⟩⟩:=aZ v (aV h);have av:cC [ao]=S:=bm w;have bw:=λg o a=>bE ad (n+3) ab ab g o F I H a R;simp only [go_sem,hF,D.O,D.a_ (k:=1) h rfl,w.J,af,aS]
     iterate 3 all_goals try (refine au.aE ?_ ?_<;>intro Z<;>simp only [go_sem,hF,Z,bw,w.O,w.len,af,aS,aA.O,aA.len])
     all_goals first
      |exact au.stop rfl (by simp only [go_sem];exact an.stop rfl (a7 15 al _ _ _ _ _ _ (U.refl _)))
      |exact au.next () rfl (λr x=>by
       rcases bW r x with x|rfl
       . exact C r x
       . rw [av];simp at*;omega) ay
   . intro s a C hF;rw [bX] at C;simp only [go_sem];exact an.mk ⟨⟨rfl,C⟩,ay⟩
 clear hF;rintro a _ ⟨⟨rfl,bK⟩,hF⟩;refine ak.bF hF (λX a e=>H=e/\X a) ?_ ?_
 . simp only [go_sem,hF,D.O,D.len];generalize aw:a1 _ _ _ _ _ _ _ _ _ _=B;revert B;refine dA [0,4,5,47] (λi=>True) E.length trivial ?_ ?_
   . intro i s a P C hF;obtain ⟨v,h⟩:=bA P;have ag:=aV h;have bU:=bK v ag;obtain ⟨ao,rfl,⟨S,w,bb,bO⟩⟩:=aZ v ag;have av:cC [ao]=S:=bm w;rw [av] at bU;have bc: ∀b∈S,b∈(E.map cC).flatten:=λb z=>kD.2 ⟨S,cd.2 ⟨[ao],ag,av⟩,z⟩;simp only [go_sem,hF,D.O,D.a_ (k:=1) h rfl,w.J,w.O,w.len];generalize aw:a1 _ _ _ _ _ _ _ _ _ _=B;revert B;refine dA [0,4,5,47,48,49,54] (λi=>True) S.length trivial ?_ ?_
     . intro bn cm a bR _ hF;obtain ⟨b,bf⟩:=bA bR;obtain ⟨cf,aU⟩: ∃r,ah[bn]? =some r:=⟨ah[bn]'ab,ai⟩;have aX:=aV bf;have bh:=bb b aX;have bL:=jc bh H;have aq:=aP ad (n+3) ab ab b (bc b aX) (.A [b] true) (.ptr id aJ 0 14) d F I aF aG H R ba (.inl (.inr ⟨_,rfl⟩));obtain ⟨cZ,bp,cT,cg,ch,rfl,⟨cU,cV,rfl,-⟩,⟨ca,cc,rfl,-⟩,bV,⟨cg,rfl⟩,⟨ch,rfl⟩⟩:=aR.hm cf (aV aU);have ar:=aQ ad (n+3) ab ab b (bc b aX) (.ptr id aJ 0 14) d F I aF aG ca cc H R ba;obtain ⟨mk,c0,dh,di,dj,dk,c2,c1,cX,cW,ag,-,-⟩:=bV.ea;obtain ⟨rfl,-⟩:=ag;simp only [bl,a6] at aU;obtain ⟨cS,c5,cI,cJ,cK,cL,de,c8,cR,cQ,rfl,b0,bZ⟩:=bh.t;simp only [go_sem,hF,w.O,w.a_ (k:=6) bf rfl,b0.J,bZ.J,bL,bH];rcases aq with aq|⟨bD,aT,aq⟩<;>simp only [go_sem,hF,aq]
       rotate_left
       . exact au.stop rfl (by simp only [go_sem];exact au.stop rfl (by simp only [go_sem];exact an.stop rfl (br _ aT _ _ (U.refl _))))
       simp only [go_sem,hF,af,aS,aA.O,aA.a_ (k:=10) aU rfl];rcases ar with ar|⟨bD,aT,ar⟩<;>simp only [go_sem,ar]
       rotate_left
       . exact au.stop rfl (by simp only [go_sem];exact au.stop rfl (by simp only [go_sem];exact an.stop rfl (br _ aT _ _ (U.refl _))))
       exact au.next () rfl trivial ay
     . intro cm a _ hF;simp only [go_sem];exact au.next () rfl trivial ay
   . intro s a C hF;simp only [go_sem];exact an.mk ⟨rfl,ay⟩
 clear hF;rintro a _ ⟨rfl,hF⟩;refine ak.bF hF.2 (λX a e=>(Tidy e/\U H e)/\X a) ?_ ?_
 . simp only [go_sem,hF,y.O,y.len];generalize aw:a1 _ _ _ _ _ _ _ _ _ _=B;revert B;refine cv [4,5,86] (λ_=> []) (λf=>f) (λi f=>Tidy f/\U H f) aH.length H ⟨R,U.refl _⟩ ?_ ?_
   . rintro i f a P ⟨aC,aB⟩ hF;obtain ⟨v,h⟩:=bA P;obtain ⟨K,L,rfl,-⟩:=az v (aV h);have aD:Tidy (f.push (.cells (q 9) (q 9) 0 [.str K L])):=aC.push rfl;have bj:U H (f.push (.cells (q 9) (q 9) 0 [.str K L])):=aB.push _;have bx:=λg o a=>bG ad (n+3) ab ab g o F I (f.push (.cells (q 9) (q 9) 0 [.str K L])) a aD;have bN:=I8 bq (.fn (.func 198) [] [.ptr f.n (q 9) 0 1]) ck (KL K L) aW (λV T=>(bd V T).row.1) ab rfl (λ_=>rfl) ad (n+1) ab (f.push (.cells (q 9) (q 9) 0 [.str K L])) aD (λV T a=>by simp only [eg,a6,bl];exact Wr V (bd V T) K L ad n _ aD f.n (dL _ _) a);simp only [go_sem,hF,y.O,y.a_ (k:=1) h rfl,aW.O,bN];refine au.aE ?_ ?_<;>intro Z<;>simp only [go_sem,hF,Z,bx]
     all_goals first
      |exact au.stop rfl (by simp only [go_sem];exact an.stop rfl (a7 13 al _ _ _ _ _ _ bj))
      |exact au.next _ rfl ⟨aD,bj⟩ ay
   . rintro f a C hF;simp only [go_sem];exact an.mk ⟨C,ay⟩
 clear hF;rintro a f ⟨⟨aC,aB⟩,hF⟩;have bz:=λg o a=>bI ad (n+3) ab ab g o F I f a aC;simp only [go_sem,hF,y.O,y.len];generalize aw:a1 _ _ _ _ _ _ _ _ _ _=B;revert B;refine dA [4,5,102] (λi=>True) aH.length trivial ?_ ?_
 . rintro i _ a P _ hF;obtain ⟨v,h⟩:=bA P;obtain ⟨K,L,rfl,-⟩:=az v (aV h);obtain ⟨V,bC,T⟩:=y.fG (k:=1) (qK az) (j:=i) ab;have bB:=bJ ad (n+3) ab ab V (aH.take i) K L f (λr x=>az r (hQ x)) da aC T.cw;simp only [go_sem,hF,y.O,y.a_ (k:=1) h rfl,bC,T.O,bB];refine au.aE ?_ ?_<;>intro Z<;>simp only [go_sem,hF,Z,bz]
   all_goals first
    |exact au.stop rfl (by simp only [go_sem];exact a7 14 al _ _ _ _ _ _ aB)
    |exact au.next () rfl trivial ay
 . intro s a C hF;simp only [go_sem];exact ak.un R aB
@[go_sem] theorem ac0 (H):cT G 33 0 [] H=some (.A [] true,H):=aq
def OS (r rows c):b4 G .eql 33 (.A (r::rows) c) .V=some (.bool false):=aq
def OR (a b c d e f):b4 G .eql 33 (.ref a b c d e f) .V=some (.bool false):=aq
def OQ {H:af} {x:aa} {rows:Y} (b:cG H 6 x rows) (a:rows≠ []):b4 G .eql 33 x .V=some (.bool false):=by
 rcases b with (⟨rfl,rfl⟩|⟨c,rfl⟩)|⟨id,g,f,l,e,j,d,h,rfl,-⟩
 . exact absurd rfl a
 . cases rows with
   |nil=>exact absurd rfl a
   |cons k i=>exact OS _ _ _
 . exact OR _ _ _ _ _ _
def Uj {ad n:Nat} {x:aa} {rows:Y} {H:af} (g:Tidy H) (b:cG H 6 x rows) (a: ∀r∈rows,aN r) (o:rows.length<1048560) (k:rows≠ []):
    ∃v H',(bd H.n 35 6 rows.length H' rows v/\Tidy H'/\U H H')/\ ∀tm,az G (X G R ad (n+1)) 134 [x] H tm= .ok v tm H':=by
 obtain ⟨p,H',h,d,e⟩:=pq (n0:=H.n) (c:=0) (H:=H) (rows:= []) (aQ:=rows) (v:= .A [] true) (x:=x) (.inr (.inl rfl)) g (aT _) (λr a=>by cases a) b a da ab;rw [gH,a6] at d;have l:=e.up H (aT _) (U.refl _);refine bn.at (m:=7) rfl rfl rfl rfl rfl (by simp only [aO,b.aD];rfl) rfl rfl ?_;have i:=OQ b k;have f:=d.cw (λr j=>(a r j).len);simp only [go_sem,b.O,h,i,f.O,f.aD,dX,if_true];exact bn.mk (d.gc g e.tidy l)
def Ly (r:List aa):Y:=(f (M r 1)).map dd
def Lz (r:List aa):Y:=((f (M r 1)).map cu).flatten
def Lx (r:List aa):Y:=((f (M r 3)).map cC).flatten
def pf (r:List aa):Y:=Ly r++(Lz r++f (M r 2)++Lx r)
def bL.flat {ls:List Y} {l:Y} {N:Nat} (a:bL ls.flatten N) (b:l∈ls):bL l N:=by
 obtain ⟨c,d,rfl⟩:=List.append_of_mem b;rw [List.flatten_append,iJ] at a;exact a.right.left
def HH {α β:Type} (f:α->List β) {l:List α} {j:Nat} {x:α} (a:l[j]? =some x):((l.take (j+1)).map f).flatten=((l.take j).map f).flatten++f x:=by rw [fg,a];simp
def Wo {α β:Type} (f:α->β) {l:List α} {j:Nat} {x:α} (a:l[j]? =some x):(l.take (j+1)).map f=(l.take j).map f++ [f x]:=by rw [fg,a];simp
def u5 (rows:Y):List aa:= [.V,.A rows true,.A rows false]
def GB {v:aa} {rows:Y} (b:F v rows):v∈u5 rows:=by
 rcases b with ⟨rfl,-⟩|⟨a,rfl⟩
 . simp [u5]
 . cases a<;>simp [u5]
def Zn {x y z:aa} {b ky i:Y} (c:F x b) (d:F y ky) (e:F z i): ∀(j:Nat) r,([[x],[y],[z]]:Y)[j]? =some r-> ∃v rows,r= [v]/\F v rows/\ [b,ky,i][j]? =some rows
 |0,r,a=>by cases a;exact ⟨x,b,rfl,c,rfl⟩
 |1,r,a=>by cases a;exact ⟨y,ky,rfl,d,rfl⟩
 |2,r,a=>by cases a;exact ⟨z,i,rfl,e,rfl⟩
 |j+3,r,a=>by simp at a
def O_ {n0 r l:Nat} {H:af} {x y z:aa} {h ky i:Y} (P:Tidy H) (e:bd n0 35 6 r H h x) (f:F y ky) (g:bd n0 35 6 l H i z) (I:cc x z) (L:Rows 6 h) (M:Rows 6 i):
    ∃b c H',cT G 235 3 [(0,x),(1,y),(2,z)] H=some (.A [[b],[y],[c]] true,H')/\F b h/\F c i/\Tidy H'/\(∀a,a.n<=n0->U a H->U a H')/\(∀id o,H.get id=some o->cW x≠some id->cW z≠some id->H'.get id=some o):=by
 obtain ⟨b,d,v,R,ab,X,m⟩:=e.KX al L P;have Q:bd n0 35 6 l d i z:=g.at λid o s C=>m id o C λu=>I id u s;obtain ⟨c,j,B,S,ad,Z,D⟩:=Q.KX al M ab;have w:aZ bR y d=some (y,d):=fi d bR y (fr 20 bR y al (f.aI 19));refine ⟨b,c,j,?_,R,S,ad,λa p O=>Z a p (X a p O),λid o K T W=>D id o (m id o K T) W⟩;have N:cD (aZ bR) ([x,y,z].flatMap aa.cells) H=some ([b,y,c],j):=by
  have: [x,y,z].flatMap aa.cells= [x,y,z]:=by simp [e.cells.1,f.cells,g.cells.1]
  rw [this];exact lk v (lk w (lk B rfl))
 have:=A5 (E:=G) (t:=235) (el:=33) (k:=1) (H:=H) (z:= .V) aq aq aq al rfl [x,y,z] (λae q=>by
  simp only [b2,dG,or_false] at q;rcases q with rfl|rfl|rfl
  . rw [e.cells.1];exact ⟨rfl,by simp [e.cells.2]⟩
  . rw [f.cells];exact ⟨rfl,by simp [f.J]⟩
  . rw [g.cells.1];exact ⟨rfl,by simp [g.cells.2]⟩) ai N
 exact this
def VI {ax:aa} {s:List aa} {kN jv rop j3 dm:Y} (b6:dO ax s kN jv rop j3 dm) {d:List aa} {req p eF u:Y} (c1:fz d s kN jv rop j3 dm req p eF u)
    {r:List aa} (i:lI r) {N:Nat} (hT:bL (pf r) N) (hN:N<50000):bo λad n=> ∀c aY ag H,Tidy H->dP H c d ax->cG H 1 aY ag->b8 ag->ag.length<=1048560->fK 68 [c,.agg r,aY] ad n H:=by
 obtain ⟨ew,dM⟩:=VC b6 c1 i;obtain ⟨eD,av,ar,aU,bb,aW,aX,rfl,⟨aJ,aP,rfl,-⟩,⟨b,aj,ch,eY⟩,⟨P,aB,cA,eV⟩,⟨h,bj,eg,eZ⟩,⟨eN,dU,eT,eS⟩,⟨y,rfl⟩,⟨z,rfl⟩⟩:=i;have dw:pf [.str aJ aP,av,ar,aU,bb,.int .i64 y,.int .i64 z]=b.map dd++((b.map cu).flatten++P++(h.map cC).flatten):=by show (f av).map dd++(((f av).map cu).flatten++f ar++((f aU).map cC).flatten)=_;rw [bm aj,bm aB,bm bj]
 rw [dw] at hT;have dY:=hT.len;simp only [bD,di] at dY;have b9:=hT.left;have aR:=hT.right;have cx:=aR.left.left;have eO:=aR.left.right;have cW:=aR.right;have cb: [(b.map cu).flatten,P,(h.map cC).flatten].flatten=(b.map cu).flatten++P++(h.map cC).flatten:=ai;obtain ⟨ek,cr⟩:=dE (l:=b) (Q:=λB ad n=> ∀c aY ag H,Tidy H->dP H c d ax->F aY ag->(∀b1∈ag,lG b1)->ag.length<ad->ag.length<1048560->fK 132 [c,.agg B,aY] ad n H) λB bP=>VE b6 c1 (ch B bP) (N:=N+N) ((b9.one (cd.2 ⟨B,bP,rfl⟩)).app (cx.flat (cd.2 ⟨B,bP,rfl⟩))) ab;obtain ⟨en,ct⟩:=dE (l:=(u5 (b.map cu).flatten).flatMap λB=>(u5 (h.map cC).flatten).map λeL=>(B,eL)) (Q:=λC ad n=>F C.1 (b.map cu).flatten->F C.2 (h.map cC).flatten-> ∀H,Tidy H->
   ∃bk,F bk ((b.map cu).flatten++P++(h.map cC).flatten)/\ ∀a,az G (X G R ad n) 133 [.A [[C.1],[ar],[C.2]] true] H a= .ok bk a H) λC _=>by
  by_cases cB:F C.1 (b.map cu).flatten/\F C.2 (h.map cC).flatten
  . have c4:=aR.len;have cZ:=(I7 (.A [[C.1],[ar],[C.2]] true) [[C.1],[ar],[C.2]] [(b.map cu).flatten,P,(h.map cC).flatten] (.inr ⟨_,rfl⟩) (Zn cB.1 aB cB.2) rfl ai (by rw [cb];exact aN.rows aR.i0) (by rw [cb];unfold b7;omega) (by rw [cb];omega)).val;rw [cb] at cZ;obtain ⟨ej,dW⟩:=cZ;exact ⟨ej,λad n cr ct _ _ H L=>dW ad n cr ct H L⟩
  . exact ⟨0,λad n _ _ cq bx=>absurd ⟨cq,bx⟩ cB⟩
 obtain ⟨eo,dG⟩:=Jv (b.map dd++((b.map cu).flatten++P++(h.map cC).flatten)) N ab hT;obtain ⟨ep,dH⟩:=Jk (b.map dd) ((b.map cu).flatten++P++(h.map cC).flatten) N N ab ab b9 aR;obtain ⟨er,dI⟩:=dE (l:=P) (Q:=λZ ad n=> ∀B c d (aW aX:Int) (D S:Nat) H,Tidy H->dP H c d ax->cG H 6 B [Z]->fK 123 [c,.agg [.int .i64 aW,.int .i64 aX],.str D S,B] ad n H) λZ cD=>wb b6 [Z] (λB bP=>by rw [bs.1 bP];exact cA Z cD) ai;obtain ⟨et,dJ⟩:=dE (l:=P) (Q:=λr ad n=> ∀c d (aW aX:Int) (D S eA eB:Nat) H,Tidy H->dP H c d ax->fK 128 [c,.agg [.int .i64 aW,.int .i64 aX],.str D S,.agg r,.str eA eB] ad n H) λZ cD=>tM b6 (cA Z cD);obtain ⟨eu,dK⟩:=gu 14 al;obtain ⟨ev,dL⟩:=gu 15 al;obtain ⟨el,dF⟩:=oZ 1048560 al;refine ⟨ek+en+eo+ep+er+et+eu+ev+ew+el+1048570,λad n eW eX c aY ag H L bB cy dR dQ=> ?_⟩;obtain ⟨n,rfl⟩: ∃eC,n=eC+4:=⟨n-4,ab⟩;have cY:=bB;obtain ⟨id,ah,eM,e0,rfl,eU,eR,eQ⟩:=bB;have dk: ∀(c:Int) (bB:c≠0) D S aW aX bZ e,U H e->ak lL fA H (fin G [] (.aK (.iface 78 (.agg [.int .i64 c,.str D S,.int .i64 aW,.int .i64 aX])) bZ e [])):=λc bB D S aW aX bZ e cF=>by simp only [go_sem];exact ak.aK (lO c bB _ _ _ _) rfl L cF
 have bY: ∀bk,fA bk-> ∀bZ e,U H e->ak lL fA H (fin G [] (.aK bk bZ e [])):=λbk c8 bZ e cF=>by simp only [go_sem];exact ak.aK c8 (c8.aI 17) L cF
 have dt:=λD S a=>dK ad (n+3) ab ab D S y z H a L;have du:=λD S a=>dL ad (n+3) ab ab D S y z H a L;have ds:=λD S=>dF ad (n+3) ab ab aY ag D S H dR dQ L cy;refine o6 (aL.at (m:=114) rfl rfl rfl rfl rfl (by simp only [aO,cy.aD];rfl) rfl rfl ?_);have hF:=trivial;refine ak.kp [0,2,6] (λq a e=>H=e/\M a 4= .W 0 [.str aJ aP,av,ar,aU,bb,.int .i64 y,.int .i64 z]/\q a) ?_ ?_
 . simp only [go_sem,aj.J,aB.J,bj.J,dU.J];exact an.mk ⟨rfl,dC⟩
 rintro a _ ⟨rfl,hF⟩;refine ak.kp [0,4,2] (λq a e=>H=e/\M a 6= .W 0 [.int .i64 y,.int .i64 z]/\q a) ?_ ?_
 . simp only [go_sem,hF];exact an.mk ⟨rfl,ay⟩
 clear hF;rintro a _ ⟨rfl,hF⟩;refine ak.kp [0,4,6] (λq a e=>(H=e/\b≠ [])/\q a) ?_ ?_
 . simp only [go_sem,hF,cy.O,ds];refine an.aE ?_ ?_<;>intro cq<;>simp only [go_sem,hF,cq,dt]
   all_goals try exact an.stop rfl (dk 14 al _ _ _ _ _ _ (U.refl _))
   simp only [go_sem,hF,aj.O,aj.len];refine an.aE ?_ ?_<;>intro bx<;>simp only [go_sem,hF,bx,du]
   all_goals first
    |exact an.stop rfl (dk 15 al _ _ _ _ _ _ (U.refl _))
    |exact an.mk ⟨⟨rfl,λb3=>by rw [b3] at bx;simp at bx⟩,ay⟩
 clear hF;rintro a _ ⟨⟨rfl,dZ⟩,hF⟩;refine ak.bF hF (λq a e=>H=e/\aM 117 [(7,.V),(8,.V),(9,.V)] a/\q a) ?_ ?_
 . simp only [go_sem];exact an.mk ⟨rfl,ay⟩
 clear hF;rintro a _ ⟨rfl,hF⟩;refine ak.kp [0,4,6] (λq a e=> ∃w I,(bd H.n 35 6 b.length e (b.map dd) w/\bd H.n 35 6 (b.map cu).flatten.length e (b.map cu).flatten I/\cc w I/\Tidy e/\U H e)/\M a 7=w/\M a 8=I/\M a 9= .V/\q a) ?_ ?_
 . simp only [go_sem,hF,aj.O,aj.len];generalize cV:a1 _ _ _ _ _ _ _ _ _ _=bp;revert bp;refine hz _ _ _ _ (σ:=aa×aa×af) (λs=> [(0,.ptr id ah 0 14),(4,.W 0 [.str aJ aP,av,ar,aU,bb,.int .i64 y,.int .i64 z]),(6,.W 0 [.int .i64 y,.int .i64 z]),(7,s.1),(8,s.2.1),(9,.V),(40,av)]) (λs=>s.2.2) (λg s=>bd H.n 35 6 g s.2.2 ((b.take g).map dd) s.1/\bd H.n 35 6 ((b.take g).map cu).flatten.length s.2.2 ((b.take g).map cu).flatten s.2.1/\cc s.1 s.2.1/\Tidy s.2.2/\U H s.2.2) 117 b.length (.V,.V,H) rfl rfl (λ_=>rfl) rfl
    ⟨bd.nil,bd.nil,cc.nil,L,U.refl _⟩ ay ab ab ?_ ?_
   . rintro g ⟨w,I,aH⟩ a bI ⟨o,E,bG,bc,aS⟩ hF;simp only at o E bG bc aS hF|-;obtain ⟨B,aq⟩:=bA bI;have bK:=aV aq;have ei:=ch B bK;have cL:=Wo dd aq;have ck:=HH cu aq;have bh: ∀r∈(b.take g).map dd,aN r:=λr i=>b9.i0 r (by rw [yR] at i;exact hQ i);have cH: ∀r∈((b.take g).map cu).flatten,aN r:=λr i=>cx.i0 r (by obtain ⟨D,bJ,i⟩:=kD.1 i;rw [yR] at bJ;exact kD.2 ⟨D,hQ bJ,i⟩);have c3:((b.take g).map cu).flatten.length+(cu B).length<=(b.map cu).flatten.length:=by rw [<-bD,<-ck];simp only [List.length_flatten,tB];exact si _ _ _
     obtain ⟨eK,dD,df⟩:=aj.fG (k:=11) (λb1 cK=>(ch b1 cK).row.1) (j:=g) ab;have aZ:=cr ad (n+3) ab ab B bK (.ptr id ah 0 14) eK (b.take g) aH bc (cY.up L.1 aS) df (λb1 cK=>ch b1 (hQ cK)) da da;obtain ⟨eD,e1,cR,cn,cl,cm,rfl,⟨cN,cP,rfl,-⟩,⟨cO,cQ,rfl,-⟩,bz,⟨dj,cj,eh,-⟩,⟨cl,rfl⟩,⟨cm,rfl⟩⟩:=ei;have cT:dd ([.str cN cP,.str cO cQ]++cR++ [cn,.int .i64 cl,.int .i64 cm])=cR:=by unfold dd;rw [fu,qh ai];simp [bz.len]
     have cX:=jc bz aH;obtain ⟨bV,bW,bQ,bR,bT,bU,b0,C,ez,ey,de,-,-⟩:=bz.ea;have cU:=de.eq;obtain ⟨-,-,-,-,-,cJ,cI,-,-⟩:=de;rw [cU] at aq bK cL ck c3 aZ cT cX bz;clear cU;have dv:cu ([.str cN cP,.str cO cQ]++ [.int .i64 bV,.int .i64 bW,.str bQ bR,.str bT bU,b0,C]++ [cn,.int .i64 cl,.int .i64 cm])=dj:=bm cj;rw [cT] at cL;rw [dv] at ck c3;simp only [bl,a6] at aq aZ;obtain ⟨eH,bn,dx,bN,cf⟩:=pq (n0:=H.n) (c:=g) (H:=aH) (rows:=(b.take g).map dd) (aQ:= [[.int .i64 bV,.int .i64 bW,.str bQ bR,.str bT bU,b0,C]]) (v:=w) (x:= .A [[.int .i64 bV,.int .i64 bW,.str bQ bR,.str bT bU,b0,C]] true) o bc aS.n bh (.inl (.inr ⟨_,rfl⟩)) (λr i=>by rw [bs.1 i];exact bz) da da;have ee:=E.bS cf bG;have c2:=bG.grow E cf;have aC:=cf.up H (aT _) aS;obtain ⟨eI,aw,dy,db,cg⟩:=pq (n0:=H.n) (c:=((b.take g).map cu).flatten.length) (H:=bn) (rows:=((b.take g).map cu).flatten) (aQ:=dj) (v:=I) (x:=cn) ee cf.tidy aC.n cH cj.cw eh ab ab;have ed:=bN.bS cg c2.symm;have dT:=(c2.symm.grow bN cg).symm;have aF:=cg.up H (aT _) aC;refine au.bM (λa e=>aH=e/\ ∃dn,aM 117 [(42,.int .i64 (g:Nat)),(41,.int .i64 (b.length:Nat)),(0,.ptr id ah 0 14),(4,.W 0 [.str aJ aP,av,ar,aU,bb,.int .i64 y,.int .i64 z]),(6,.W 0 [.int .i64 y,.int .i64 z]),(7,w),(8,I),(9,.V),(40,av),(10,.int .i64 (g:Nat)),(11,.W dn [.str cN cP,.str cO cQ,.int .i64 bV,.int .i64 bW,.str bQ bR,.str bT bU,b0,C,cn,.int .i64 cl,.int .i64 cm])] a) ?_ ?_
     . simp only [go_sem,hF,aj.O,aj.a_ (k:=11) aq rfl,cJ.J,cI.J,cj.J];exact an.mk ⟨rfl,_,by simp only [go_sem,hF];trivial⟩
     clear hF;rintro a _ ⟨rfl,dn,hF⟩;refine au.bF hF (λq a e=>aH=e/\q a) ?_ ?_
     . simp only [go_sem,hF,aj.O,dD,df.O];rcases aZ with aZ|⟨bw,K,aZ⟩
       . simp only [go_sem,aZ];exact an.mk ⟨rfl,ay⟩
       . simp only [go_sem,aZ];exact an.stop rfl (an.stop rfl (bY _ K _ _ aS))
     clear hF;rintro a _ ⟨rfl,hF⟩;simp only [go_sem,hF,o.O,E.O,cj.O,cX,bH,dx,dy,bN.O,db.O];refine au.next (eH,eI,aw) rfl ⟨?_,?_,dT,cg.tidy,aF⟩ ay
     . rw [cL];exact ed
     . rw [ck,bD];exact db
   . rintro ⟨w,I,aH⟩ a aA hF;simp only at aA hF;rw [bX] at aA;simp only [go_sem];exact an.mk ⟨w,I,aA,ay⟩
 clear hF;rintro a aH ⟨w,I,⟨o,E,bG,bc,aS⟩,hF⟩;have bh:=b9.i0;have cH:=cx.i0;refine ak.kp [0,4,6,7,8] (λq a e=> ∃aG,(bd H.n 35 6 b.length e (b.map dd) w/\bd H.n 35 6 (b.map cu).flatten.length e (b.map cu).flatten I/\bd H.n 35 6 (h.map cC).flatten.length e (h.map cC).flatten aG/\cc aG w/\cc aG I/\Tidy e/\U H e)/\M a 9=aG/\q a) ?_ ?_
 . simp only [go_sem,hF,bj.O,bj.len];generalize cV:a1 _ _ _ _ _ _ _ _ _ _=bp;revert bp;refine hz _ _ _ _ (σ:=aa×af) (λs=> [(0,.ptr id ah 0 14),(4,.W 0 [.str aJ aP,av,ar,aU,bb,.int .i64 y,.int .i64 z]),(6,.W 0 [.int .i64 y,.int .i64 z]),(7,w),(8,I),(9,s.1),(65,aU)]) (λs=>s.2) (λg s=>bd H.n 35 6 b.length s.2 (b.map dd) w/\bd H.n 35 6 (b.map cu).flatten.length s.2 (b.map cu).flatten I/\bd H.n 35 6 ((h.take g).map cC).flatten.length s.2 ((h.take g).map cC).flatten s.1/\cc s.1 w/\cc s.1 I/\Tidy s.2/\U H s.2) 117 h.length (.V,aH) rfl rfl (λ_=>rfl) rfl
    ⟨o,E,bd.nil,cc.nil.symm,cc.nil.symm,bc,aS⟩ ay ab ab ?_ ?_
   . rintro g ⟨aG,bn⟩ a bI ⟨o,E,a7,bC,bE,bO,aC⟩ hF;simp only at o E a7 bC bE bO aC hF|-;obtain ⟨B,aq⟩:=bA bI;have bK:=aV aq;have cM:=HH cC aq;have ef: ∀r∈((h.take g).map cC).flatten,aN r:=λr i=>cW.i0 r (by obtain ⟨D,bJ,i⟩:=kD.1 i;rw [yR] at bJ;exact kD.2 ⟨D,hQ bJ,i⟩);have dX:((h.take g).map cC).flatten.length+(cC B).length<=(h.map cC).flatten.length:=by rw [<-bD,<-cM];simp only [List.length_flatten,tB];exact si _ _ _
     obtain ⟨b2,rfl,⟨cS,ca,dS,eP⟩⟩:=eg B bK;have dB:cC [b2]=cS:=bm ca;rw [dB] at cM dX;obtain ⟨eJ,aw,cp,dc,T⟩:=pq (n0:=H.n) (c:=((h.take g).map cC).flatten.length) (H:=bn) (rows:=((h.take g).map cC).flatten) (aQ:=cS) (v:=aG) (x:=b2) a7 bO aC.n ef ca.cw dS ab ab;simp only [go_sem,hF,bj.O,bj.a_ (k:=1) aq rfl,ca.J,ca.O,a7.O,cp,dc.O];exact au.next (eJ,aw) rfl ⟨o.bS T bC,E.bS T bE,by rw [cM,bD];exact dc,bC.grow o T,bE.grow E T,T.tidy,T.up H (aT _) aC⟩ ay
   . rintro ⟨aG,bn⟩ a aA hF;simp only at aA hF;rw [bX] at aA;simp only [go_sem];exact an.mk ⟨aG,aA,ay⟩
 clear hF o E bc aS;rintro a bn ⟨aG,⟨o,E,a7,bC,bE,bO,aC⟩,hF⟩;have c4:=aR.len;simp only [bD] at c4;refine ak.bM (λa e=> ∃ba,(F ba ((b.map cu).flatten++P++(h.map cC).flatten)/\bd H.n 35 6 b.length e (b.map dd) w/\Tidy e/\U H e)/\aM 117 [(0,.ptr id ah 0 14),(4,.W 0 [.str aJ aP,av,ar,aU,bb,.int .i64 y,.int .i64 z]),(6,.W 0 [.int .i64 y,.int .i64 z]),(7,w),(8,ba)] a) ?_ ?_
 . obtain ⟨dp,dq,aw,dz,dg,dh,bf,aF,dV⟩:=O_ bO E aB a7 bE.symm (aN.rows cH) (aN.rows cW.i0);have aF:=aF H (aT _) aC;obtain ⟨ba,a8,bq⟩:=ct ad (n+3) ab ab (dp,dq) (fC.2 ⟨dp,GB dg,cd.2 ⟨dq,GB dh,rfl⟩⟩) dg dh aw bf;have bN:bd H.n 35 6 b.length aw (b.map dd) w:=o.at λid eE b3 ah=>dV id eE ah (λbq=>bG id b3 bq) (λbq=>bC id bq b3);simp only [go_sem,hF,E.O,a7.O,aB.O,dz,bH,bq,a8.O];exact an.mk ⟨ba,⟨a8,bN,bf,aF⟩,ay⟩
 clear hF o E a7 bO aC;rintro a aw ⟨ba,⟨a8,o,bf,aF⟩,hF⟩;refine ak.bF hF (λq a e=>(cG e 6 w (b.map dd)/\Tidy e/\U H e)/\q a) ?_ ?_
 . obtain ⟨b2,ae,⟨c0,bg,ao⟩,dA⟩:=Uj (ad:=ad) (n:=n+2) bf (o.cw λr i=>(bh r i).len) bh da (by simpa using dZ);obtain ⟨eG,dr,cp,c9,T⟩:=pq (n0:=aw.n) (c:=(b.map dd).length) (H:=ae) (rows:=b.map dd) (aQ:=(b.map cu).flatten++P++(h.map cC).flatten) (v:=b2) (x:=ba) c0 bg ao.n bh a8.cw aR.i0 (by simp only [bD,di];omega) (by simp only [bD,di];omega);have ec:=T.up aw (aT _) ao;have c7:=T.up H aF.n (aF.trans ao);have eb:=(o.cw λr i=>(bh r i).len).up bf.1 ec;have br:=dG ad (n+3) ab ab y z eG dr T.tidy (c9.cw λr i=>(hT.i0 r i).len);simp only [go_sem,hF,o.O,dA,c0.O,a8.O,cp,c9.O];rcases br with br|⟨bw,K,br⟩
   . simp only [go_sem,br];exact an.mk ⟨⟨eb,T.tidy,c7⟩,ay⟩
   . simp only [go_sem,br];exact an.stop rfl (bY _ K _ _ c7)
 clear hF o bf aF;rintro a ae ⟨⟨o,bg,ao⟩,hF⟩;have cz:=cY.up L.1 ao;refine ak.kp [0,4,6] (λq a e=>ae=e/\q a) ?_ ?_
 . have bt:=dH ad (n+3) ab ab y z w ba ae bg o a8.cw;simp only [go_sem,hF,o.O,a8.O];rcases bt with bt|⟨bw,K,bt⟩
   . simp only [go_sem,bt];exact an.mk ⟨rfl,ay⟩
   . simp only [go_sem,bt];exact an.stop rfl (bY _ K _ _ ao)
 clear hF;rintro a _ ⟨rfl,hF⟩;refine ak.bF hF (λq a e=>ae=e/\q a) ?_ ?_
 . simp only [go_sem,hF,aB.O,aB.len];generalize cV:a1 _ _ _ _ _ _ _ _ _ _=bp;revert bp;refine cv [0,4,6,93] (λ_=> []) (λs=>ae) (λg s=>True) P.length () trivial ?_ ?_
   . intro g s a bI aA hF;obtain ⟨Z,c5⟩:=bA bI;have cE:=aV c5;have c6:=cA Z cE;have dN:=jc c6 ae;have b4:=dI ad (n+3) ab ab Z cE (.A [Z] true) (.ptr id ah 0 14) d y z aJ aP ae bg cz (.inl (.inr ⟨_,rfl⟩));have b5:=dJ ad (n+3) ab ab Z cE (.ptr id ah 0 14) d y z aJ aP 4 1819242306 ae bg cz;obtain ⟨bV,bW,bQ,bR,bT,bU,b0,C,ez,ey,rfl,cJ,cI⟩:=c6.t;simp only [go_sem,hF,aB.O,aB.a_ (k:=6) c5 rfl,cJ.J,cI.J,dN,bH];rcases b4 with b4|⟨bw,K,b4⟩<;>simp only [go_sem,hF,b4]
     rotate_left
     . exact au.stop rfl (by simp only [go_sem];exact an.stop rfl (bY _ K _ _ ao))
     rcases b5 with b5|⟨bw,K,b5⟩<;>simp only [go_sem,b5]
     rotate_left
     . exact au.stop rfl (by simp only [go_sem];exact an.stop rfl (bY _ K _ _ ao))
     exact au.next () rfl trivial ay
   . intro s a aA hF;simp only [go_sem];exact an.mk ⟨rfl,ay⟩
 clear hF;rintro a _ ⟨rfl,hF⟩;have bu:=dM ad (n+3) ab ab (.ptr id ah 0 14) y z ae bg cz;simp only [go_sem,hF];rcases bu with bu|⟨bw,K,bu⟩
 . simp only [go_sem,bu];exact ak.un L ao
 . simp only [go_sem,bu];exact ak.aK K (K.aI 17) L ao
def eN (A:List aa->Prop) (b H:af) (v:aa) (B:Nat):Prop:= ∃a,bd b.n 35 6 a.length H a v/\(∀c∈a,aN c/\A c)/\a.length<=B/\Tidy H/\U b H
def eN.O {A:List aa->Prop} {b H v B} (a:eN A b H v B) (t):O t v=v:=by obtain ⟨c,a,-⟩:=a;exact a.O t
def eN.app {A:List aa->Prop} {b H v B} (g:eN A b H v B) {x:aa} {aQ:Y} (j:cG H 6 x aQ) (o: ∀r∈aQ,aN r/\A r) (l:B+aQ.length<1048560):
    ∃a H',cI G 33 33 v x H=some (a,H')/\eN A b H' a (B+aQ.length):=by
 obtain ⟨k,i,t,m,h,e⟩:=g;obtain ⟨a,H',f,q,c⟩:=pq i h e.n ah j ah ab ab;exact ⟨a,H',f,k++aQ,ah,ah,ah,c.tidy,c.up b ab e⟩
def eN.mono {A:List aa->Prop} {a H v B C} (b:eN A a H v B) (i:B<=C):eN A a H v C:=by
 obtain ⟨h,f,g,j,c,e⟩:=b;exact ⟨h,f,g,ab,c,e⟩
def gw (b H:af) (v:aa) (B:Nat):Prop:= ∃a,bd b.n 9 1 a.length H a v/\b8 a/\a.length<=B/\Tidy H/\U b H
def gw.O {b H v B} (a:gw b H v B) (t):O t v=v:=by obtain ⟨c,a,-⟩:=a;exact a.O t
def gw.app {c H v B} (e:gw c H v B) {x:aa} {aQ:Y} (q:cG H 1 x aQ) (f:b8 aQ) (t:B+aQ.length<1048560):
    ∃a H',cI G 22 22 v x H=some (a,H')/\gw c H' a (B+aQ.length):=by
 obtain ⟨r,o,i,w,m,h⟩:=e;obtain ⟨a,H',l,y,g⟩:=o.app (x:=x) (b:=16) (k:=1) oe nI rfl rfl al al m h.n i.rows (q.elems (qK f)) f.rows (by unfold b7;omega) ab;exact ⟨a,H',l,r++aQ,ah,λj e=>(cr.1 e).elim (i j) (f j),ah,g.tidy,g.up c ab h⟩
def gw.mono {a H v B C} (b:gw a H v B) (i:B<=C):gw a H v C:=by
 obtain ⟨h,f,g,j,c,e⟩:=b;exact ⟨h,f,g,ab,c,e⟩
def eN.new (A:List aa->Prop) (H:af) (a:Tidy H):eN A H H .V 0:=⟨[],bd.nil,ai,ai,a,U.refl _⟩
def oB (A:List aa->Prop) (v:aa):Prop:= ∃a,F v a/\(∀b∈a,aN b/\A b)/\a.length<1048560
def ak.B_ {A:List aa->Prop} {a H v B} (g:Tidy a) (b:eN A a H v B) (i:B<1048560):ak (oB A) bQ a (.ret v H):=by
 obtain ⟨h,f,c,j,k,e⟩:=b;exact ak.W al g (aN.rows ah) f ab e λl b=>⟨h,b,c,ab⟩
def ak.Sv {a H v B} (g:Tidy a) (b:gw a H v B) (i:B<1048560):ak AO bQ a (.ret v H):=by
 obtain ⟨h,f,c,j,k,e⟩:=b;exact ak.W al g c.rows f ab e λl b=>⟨h,b,c,ab⟩
def eN.nl {A:List aa->Prop} {b H v B} (a:eN A b H v B):aD v=true:=by obtain ⟨c,a,-⟩:=a;exact a.aD
def gw.nl {b H v B} (a:gw b H v B):aD v=true:=by obtain ⟨c,a,-⟩:=a;exact a.aD
def wR {α:Type} (f:α->Nat) (l:List α) (j:Nat):((l.take j).map f).sum<=(l.map f).sum:=si f l j
theorem BF {L R:List aa} {i a b:aa} (k:L.length=6) (l:R.length=6):M (L++R++ [i,a,b]) 12=i:=by
 obtain ⟨c,e,f,g,h,j,rfl⟩: ∃c e f g h j,L= [c,e,f,g,h,j]:=by
  match L,k with
  | [c,e,f,g,h,j],_=>simp
 match R,l with
 | [m,n,o,q,r,t],_=>rfl
def nV (l:Y):l.length<=(l.map ju).sum:=qq λa _=>by unfold ju;omega
def eo (r:List aa):Y:= [r.take 6,(r.drop 6).take 6]++f (M r 12)
def eE (req p aU u:Y):Y:=(req.map eo).flatten++(p++aU).map dQ++(u.map pf).flatten
def Wv {req p aU u:Y} {x t} (b:x∈req) (a:t∈eo x):t∈eE req p aU u:=hP _ (hP _ (kD.2 ⟨_,cd.2 ⟨x,b,rfl⟩,a⟩))
def Wu {req p aU u:Y} {x} (a:x∈p++aU):dQ x∈eE req p aU u:=hP _ (h7 _ (cd.2 ⟨x,a,rfl⟩))
def Ww {req p aU u:Y} {x t} (b:x∈u) (a:t∈pf x):t∈eE req p aU u:=h7 _ (kD.2 ⟨_,cd.2 ⟨x,b,rfl⟩,a⟩)
def xO {L R:List aa} {i a b:aa} (c:L.length=6) (e:R.length=6):eo (L++R++ [i,a,b])= [L,R]++f i:=by
 unfold eo;rw [BF c e,fu,C7 c,List.drop_left' c,C7 e]
def LA {n p i w h a b:aa} {c e g:Y} (k:F p c) (j:F i e) (l:F w g):pf [n,p,i,w,h,a,b]=c.map dd++((c.map cu).flatten++e++(g.map cC).flatten):=by
 show (f p).map dd++(((f p).map cu).flatten++f i++((f w).map cC).flatten)=_;rw [bm k,bm j,bm l]
def zy {n s i a b:aa} {L:List aa} (c:L.length=6):dd ([n,s]++L++ [i,a,b])=L:=by
 unfold dd
 grind
theorem zz {n s i a b:aa} {L:List aa} (c:L.length=6):cu ([n,s]++L++ [i,a,b])=f i:=by
 match L,c with
 | [e,g,h,j,k,l],_=>rfl
section
variable {d:List aa} {s:List aa} {kN jv rop j3 aJ req p aU u:Y} (aX:fz d s kN jv rop j3 aJ req p aU u)
include aX
theorem U7:dt 107 [.agg d] (oB (· ∈eE req p aU u)) bQ:=by
 have c1:=aX.n1;have bx: ∀j∈p++aU,iz j:=λj E=>(cr.1 E).elim (aX.b9 j) (aX.hm j);obtain ⟨dk,bL,bp,c7,bk,ct,ds,du,bZ,⟨cn,cp,rfl,-⟩,al,aC,⟨cg,ch,rfl,-⟩,aB,E,⟨cu,cx,rfl,-⟩,⟨cA,cB,rfl,-⟩⟩:=aX.eq;obtain ⟨cy,bK,cq,bR,cz,rfl,cG,cH,cI,cJ,cK⟩:=aX.bT.eq;have a7: [p,aU].flatten=p++aU:=ai;obtain ⟨cf,bw⟩:=(Ds (.A [[bp],[bk]] true) [[bp],[bk]] [p,aU] (.inr ⟨_,rfl⟩) (wG aC aB) rfl ai (by rw [a7];exact λj E=>(bx j E).row) (by rw [a7];unfold b7;grind) ah).val;rw [a7] at bw;refine aL.run (m:=89) rfl rfl rfl rfl rfl rfl rfl rfl (cf+1048570) λcl cm cZ c0 i bz=> ?_;rw [bZ];simp only [bl,a6];refine ak.bM (λb l=>i=l/\aM 90 [(1,.W 0 [.str cn cp,cy,bK,cq,bR,cz,bL,bp,.str cg ch,bk,ct,.str cu cx,.str cA cB])] b) ?_ ?_
 . simp only [go_sem,cG.J,cH.J,cI.J,cJ.J,cK.J,al.J,aC.J,aB.J,E.J];exact an.mk ⟨rfl,dC⟩
 rintro b _ ⟨rfl,hF⟩;refine ak.bF hF (λv b l=>i=l/\aM 90 [(3,.V)] b/\v b) ?_ ?_
 . simp only [go_sem];exact an.mk ⟨rfl,ay⟩
 clear hF;rintro b _ ⟨rfl,hF⟩;refine ak.kp [1] (λv b l=> ∃e,eN (· ∈eE req p aU u) i l e (req.map e7).sum/\M b 3=e/\v b) ?_ ?_
 . simp only [go_sem,hF,al.O,al.len];generalize ax:a1 _ _ _ _ _ _ _ _ _ _=B;revert B;refine cv (σ:=aa×af) [1,15] (λs=> [(3,s.1)]) (λs=>s.2) (λh s=>eN (· ∈eE req p aU u) i s.2 s.1 ((req.take h).map e7).sum) req.length (.V,i) (eN.new _ i bz) (hlf:=(by have:=aX.iN;omega)) (hN:=(by have:=aX.iN;omega)) ?_ ?_
   . rintro h ⟨e,g⟩ b a8 a hF;simp only at a hF|-;obtain ⟨G,r⟩: ∃j,req[h]? =some j:=de;have ba:=uu e7 r;have b3:=wR e7 req (h+1);have I:=aV r;obtain ⟨H,Z,y,br,bs,rfl,D,aA,⟨bB,w,b1,-⟩,⟨bn,rfl⟩,⟨bo,rfl⟩⟩:=aX.kx G I;have N: ∀o∈eo (H++Z++ [y,.int .i64 bn,.int .i64 bo]),o∈eE req p aU u:=λo Q=>Wv I Q;rw [xO D.len aA.len,bm w] at N;have ag:=A4 D aA g;have bO:e7 (H++Z++ [y,.int .i64 bn,.int .i64 bo])=2+bB.length:=by show 2+(f (M (H++Z++ [y,.int .i64 bn,.int .i64 bo]) 12)).length=_;rw [BF D.len aA.len,bm w]
     rw [bO] at ba;obtain ⟨F,z,C,n⟩:=a.app (x:= .A [H,Z] true) (aQ:= [H,Z]) (.inl (.inr ⟨_,rfl⟩)) ah ah;obtain ⟨aq,X,aW,az⟩:=n.app (x:=y) (aQ:=bB) w.cw ah ah;have aZ:eN (· ∈eE req p aU u) i X aq ((req.take (h+1)).map e7).sum:=ah;obtain ⟨c5,di,dc,df,dd,dg,dv,dx,c8,da,bS,-,-⟩:=D.ea;obtain ⟨c6,dj,dm,dp,dn,dq,dw,dy,c9,db,bV,-,-⟩:=aA.ea;obtain ⟨rfl,b8,cb⟩:=bS.c;obtain ⟨rfl,ca,cc⟩:=bV.c;simp only [bl,a6] at r;simp only [go_sem,hF,al.O,al.a_ (k:=15) r rfl,b8.J,cb.J,ca.J,cc.J,w.J,w.O,ag,bH,a.O,C,n.O,aW,az.O];exact au.next (aq,X) rfl aZ ay
   . rintro ⟨e,g⟩ b a hF;simp only at a hF;rw [bX] at a;simp only [go_sem];exact an.mk ah
 clear hF;rintro b g ⟨e,a,hF⟩;refine ak.kp [1] (λv b l=> ∃e,eN (· ∈eE req p aU u) i l e ((req.map e7).sum+(p.length+aU.length))/\M b 3=e/\v b) ?_ ?_
 . have bW:Tidy g/\U i g:=by obtain ⟨dr,-,-,-,br,bs⟩:=a;grind
   obtain ⟨ar,q,bN⟩:=bw cl cm ab ab g bW.1;have bY:=A3 aC aB g;simp only [go_sem,hF,aC.O,aB.O,bY,bH,bN,q.O,q.len];generalize ax:a1 _ _ _ _ _ _ _ _ _ _=B;revert B;refine cv (σ:=aa×af) [1,37] (λs=> [(3,s.1)]) (λs=>s.2) (λh s=>eN (· ∈eE req p aU u) i s.2 s.1 ((req.map e7).sum+h)) (p++aU).length (e,g) a (hlf:=ah) (hN:=ah) ?_ ?_
   . rintro h ⟨e,g⟩ b a8 a hF;simp only at a hF|-;obtain ⟨G,r⟩: ∃j,(p++aU)[h]? =some j:=de;rw [bD] at a8;have I:=aV r;obtain ⟨cN,cO,Y,bt,bu,rfl,⟨ad,ae,rfl,-⟩,⟨bI,bJ,rfl,-⟩,aY,⟨bt,rfl⟩,⟨bu,rfl⟩⟩:=bx G I;have N:Y∈eE req p aU u:=by
      have:=Wu (req:=req) (u:=u) I
      rwa [show dQ ([.str ad ae,.str bI bJ]++Y++ [.int .i64 bt,.int .i64 bu])=Y by unfold dQ;rw [fu,qh ai];simp [aY.len]] at this
     have ag:=jc aY g;obtain ⟨F,z,C,n⟩:=a.app (x:= .A [Y] true) (aQ:= [Y]) (.inl (.inr ⟨_,rfl⟩)) ah ah;obtain ⟨aI,aK,aD,aE,aF,aG,aP,aO,ck,cj,rfl,bd,bc⟩:=aY.t;simp only [bl,a6] at r;simp only [go_sem,hF,q.O,q.a_ (k:=10) r rfl,bd.J,bc.J,ag,bH,a.O,C,n.O];exact au.next (F,z) rfl n ay
   . rintro ⟨e,g⟩ b a hF;simp only at a hF;rw [bD] at a;simp only [go_sem];exact an.mk ah
 clear hF a;rintro b g ⟨e,a,hF⟩;refine ak.bM (λb l=> ∃e,eN (· ∈eE req p aU u) i l e ((req.map e7).sum+(p.length+aU.length)+(u.map kJ).sum)/\aM 90 [(3,e)] b) ?_ ?_
 . simp only [go_sem,hF,E.O,E.len];generalize ax:a1 _ _ _ _ _ _ _ _ _ _=B;revert B;refine cv (σ:=aa×af) [50] (λs=> [(3,s.1)]) (λs=>s.2) (λh s=>eN (· ∈eE req p aU u) i s.2 s.1 ((req.map e7).sum+(p.length+aU.length)+((u.take h).map kJ).sum)) u.length (e,g) a (hlf:=(by have:=nV u;have:=aX.iN;omega)) (hN:=(by have:=nV u;have:=aX.iN;omega)) ?_ ?_
   . rintro h ⟨e,g⟩ b a8 a hF;simp only at a hF|-;obtain ⟨G,r⟩: ∃j,u[h]? =some j:=de;have ba:=uu kJ r;have b3:=wR kJ u (h+1);have I:=aV r;obtain ⟨dh,aN,y,ar,aS,br,bs,rfl,⟨ad,ae,rfl,-⟩,⟨L,P,b5,c2⟩,⟨bf,w,b1,cY⟩,⟨T,q,b6,c3⟩,⟨cP,b0,cX,cW⟩,⟨bg,rfl⟩,⟨bj,rfl⟩⟩:=aX.bh G I;have N: ∀o∈pf [.str ad ae,aN,y,ar,aS,.int .i64 bg,.int .i64 bj],o∈eE req p aU u:=λo Q=>Ww I Q;rw [LA P w q] at N;have bP:kJ [.str ad ae,aN,y,ar,aS,.int .i64 bg,.int .i64 bj]=(L.map iO).sum+bf.length+(T.map lp).sum:=by show ((f aN).map iO).sum+(f y).length+((f ar).map lp).sum=_;rw [bm P,bm w,bm q]
     rw [bP] at ba;generalize cT:(req.map e7).sum+(p.length+aU.length)+((u.take h).map kJ).sum=av at*;refine au.kp [52,51,50] (λv b l=>g=l/\ ∃bC,M b 3=e/\M b 9= .W bC [.str ad ae,aN,y,ar,aS,.int .i64 bg,.int .i64 bj]/\v b) ?_ ?_
     . simp only [go_sem,hF,E.O,E.a_ (k:=7) r rfl,P.J,w.J,q.J,b0.J];exact an.mk ⟨rfl,_,by simp only [go_sem,hF];trivial⟩
     clear hF;rintro b _ ⟨rfl,bC,hF⟩;refine au.kp [52,51,50,9] (λv b l=> ∃e,eN (· ∈eE req p aU u) i l e (av+(L.map iO).sum)/\M b 3=e/\v b) ?_ ?_
     . simp only [go_sem,hF,P.O,P.len];generalize ax:a1 _ _ _ _ _ _ _ _ _ _=B;revert B;refine cv [52,51,50,9,57] (λs=> [(3,s.1)]) (λs=>s.2) (λh s=>eN (· ∈eE req p aU u) i s.2 s.1 (av+((L.take h).map iO).sum)) L.length (e,g) a ?_ ?_
       . rintro R ⟨e,g⟩ b b2 a hF;simp only at a hF|-;obtain ⟨G,K⟩: ∃j,L[R]? =some j:=ah;have bb:=uu iO K;have b4:=wR iO L (R+1);have S:=aV K;obtain ⟨cL,cM,H,bq,bE,bG,rfl,⟨cC,cE,rfl,-⟩,⟨cD,cF,rfl,-⟩,D,⟨aH,ao,c4,-⟩,⟨bE,rfl⟩,⟨bG,rfl⟩⟩:=b5 G S;have cR:H∈eE req p aU u:=N H (hP _ (cd.2 ⟨_,S,zy D.len⟩));have cS: ∀o∈aH,o∈eE req p aU u:=λo Q=>N o (h7 _ (hP _ (hP _ (kD.2 ⟨aH,cd.2 ⟨_,S,by rw [zz D.len];exact bm ao⟩,Q⟩))));have ag:=jc D g;obtain ⟨aI,aK,aD,aE,aF,aG,aP,aO,ck,cj,bA,-,-⟩:=D.ea;have bU:=bA.eq;obtain ⟨-,-,-,-,-,bd,bc,-,-⟩:=bA;subst bU;have aT:iO ([.str cC cE,.str cD cF]++ [.int .i64 aI,.int .i64 aK,.str aD aE,.str aF aG,aP,aO]++ [bq,.int .i64 bE,.int .i64 bG])=1+aH.length:=by show 1+(f bq).length=_;rw [bm ao]
         rw [aT] at bb;obtain ⟨F,z,C,n⟩:=a.app (x:= .A [[.int .i64 aI,.int .i64 aK,.str aD aE,.str aF aG,aP,aO]] true) (aQ:= [[.int .i64 aI,.int .i64 aK,.str aD aE,.str aF aG,aP,aO]]) (.inl (.inr ⟨_,rfl⟩)) ah ah;obtain ⟨aq,X,aW,az⟩:=n.app (x:=bq) (aQ:=aH) ao.cw ah ah;have aZ:eN (· ∈eE req p aU u) i X aq (av+((L.take (R+1)).map iO).sum):=az.mono ah;simp only [bl,a6] at K;simp only [go_sem,hF,P.O,P.a_ (k:=11) K rfl,bd.J,bc.J,ao.J,ao.O,ag,bH,a.O,C,n.O,aW,az.O];exact au.next (aq,X) rfl aZ ay
       . rintro ⟨e,g⟩ b a hF;simp only at a hF;rw [bX] at a;simp only [go_sem];exact an.mk ah
     clear hF a;rintro b g ⟨e,a,hF⟩;obtain ⟨F,z,C,n⟩:=a.app (x:=y) (aQ:=bf) w.cw ah ab;refine au.kp [52,51,50,9] (λv b l=>z=l/\M b 3=F/\v b) ?_ ?_
     . simp only [go_sem,hF,w.O,a.O,C,n.O];exact an.mk ⟨rfl,ay⟩
     clear hF a;rintro b _ ⟨rfl,hF⟩;simp only [go_sem,hF,q.O,q.len];generalize ax:a1 _ _ _ _ _ _ _ _ _ _=B;revert B;refine cv [52,51,50,77] (λs=> [(3,s.1)]) (λs=>s.2) (λh s=>eN (· ∈eE req p aU u) i s.2 s.1 (av+(L.map iO).sum+bf.length+((T.take h).map lp).sum)) T.length (F,z) n ?_ ?_
     . rintro R ⟨e,g⟩ b b2 a hF;simp only at a hF|-;obtain ⟨G,K⟩: ∃j,T[R]? =some j:=ah;have bb:=uu lp K;have b4:=wR lp T (R+1);have S:=aV K;obtain ⟨aR,rfl,⟨aw,aj,cV,cU⟩⟩:=b6 G S;have cQ: ∀o∈aw,o∈eE req p aU u:=λo Q=>N o (h7 _ (h7 _ (kD.2 ⟨aw,cd.2 ⟨_,S,bm aj⟩,Q⟩)));have aT:lp [aR]=aw.length:=by show (f aR).length=_;rw [bm aj]
       rw [aT] at bb;obtain ⟨F,z,C,n⟩:=a.app (x:=aR) (aQ:=aw) aj.cw ah ab;simp only [go_sem,hF,q.O,q.a_ (k:=1) K rfl,aj.J,aj.O,a.O,C,n.O];exact au.next (F,z) rfl (by show eN (· ∈eE req p aU u) i z F (_+_+_+((T.take (R+1)).map lp).sum);grind) ay
     . rintro ⟨e,g⟩ b a hF;simp only at a hF;rw [bX] at a;simp only [go_sem];exact au.next (e,g) rfl ah ay
   . rintro ⟨e,g⟩ b a hF;simp only at a hF;rw [bX] at a;simp only [go_sem];exact an.mk ah
 clear hF a;rintro b g ⟨e,a,hF⟩;simp only [go_sem,hF,a.O,a.nl,dX,if_true];exact ak.B_ bz a ab
theorem VD:dt 105 [.agg d] AO bQ:=by
 have cC:=aX.n1;have cB:=aX.iN;have ax: ∀h∈p++aU,iz h:=λh g=>(cr.1 g).elim (aX.b9 h) (aX.hm h);obtain ⟨cK,ba,ae,cI,ad,bZ,cM,cN,bp,⟨aH,aI,rfl,aB⟩,br,L,⟨Y,Z,rfl,bA⟩,K,g,⟨aN,aO,rfl,bB⟩,⟨aR,aS,rfl,bC⟩⟩:=aX.eq;obtain ⟨b0,aZ,bW,bf,b3,rfl,b6,ca,cb,cc,cd⟩:=aX.bT.eq;have R: [p,aU].flatten=p++aU:=ai;obtain ⟨bN,ar⟩:=(Ds (.A [[ae],[ad]] true) [[ae],[ad]] [p,aU] (.inr ⟨_,rfl⟩) (wG L K) rfl ai (by rw [R];exact λh g=>(ax h g).row) (by rw [R];unfold b7;grind) ah).val;rw [R] at ar;refine aL.run (m:=74) rfl rfl rfl rfl rfl rfl rfl rfl (bN+1048570) λbS bU cy cA n aA=> ?_;rw [bp];simp only [bl,a6];have N: ∀ {E G},T E G/\E<4611686018427387904->b8 [[.str E G]]:=λbg h g=>by rw [bs.1 g];exact ⟨_,_,rfl,bg⟩
 refine ak.bM (λb i=>n=i/\aM 75 [(1,.W 0 [.str aH aI,b0,aZ,bW,bf,b3,ba,ae,.str Y Z,ad,bZ,.str aN aO,.str aR aS])] b) ?_ ?_
 . simp only [go_sem,b6.J,ca.J,cb.J,cc.J,cd.J,br.J,L.J,K.J,g.J];exact an.mk ⟨rfl,dC⟩
 rintro b _ ⟨rfl,hF⟩;refine ak.bF hF (λo b i=> ∃c,gw n i c 3/\aM 75 [(3,c)] b/\o b) ?_ ?_
 . simp only [go_sem,hF];exact an.mk ⟨_,⟨[[.str aH aI],[.str aN aO],[.str aR aS]],.inr (.inl rfl),λh g=>by
    simp only [b2,dG,or_false] at g;rcases g with rfl|rfl|rfl
    . exact ⟨_,_,rfl,aB⟩
    . exact ⟨_,_,rfl,bB⟩
    . exact ⟨_,_,rfl,bC⟩,ai,aA,U.refl _⟩,ay⟩
 clear hF;rintro b e ⟨c,a,hF⟩;refine ak.kp [1] (λo b i=> ∃c,gw n i c 4/\M b 3=c/\o b) ?_ ?_
 . obtain ⟨B,C,v,j⟩:=a.app (x:= .A [[.str Y Z]] true) (aQ:= [[.str Y Z]]) (.inl (.inr ⟨_,rfl⟩)) (N bA) ai;simp only [go_sem,hF];refine an.aE ?_ ?_<;>intro Q<;>simp only [go_sem,hF,Q,a.O,v,j.O]
   all_goals first
    |exact an.mk ⟨B,j,ay⟩
    |exact an.mk ⟨c,a.mono al,ay⟩
 clear hF a;rintro b e ⟨c,a,hF⟩;refine ak.kp [1] (λo b i=> ∃c,gw n i c (4+(p.length+aU.length))/\M b 3=c/\o b) ?_ ?_
 . have bn:Tidy e/\U n e:=by obtain ⟨cL,-,-,-,E,G⟩:=a;grind
   obtain ⟨ao,y,bb⟩:=ar bS bU ab ab e bn.1;have bo:=A3 L K e;simp only [go_sem,hF,L.O,K.O,bo,bH,bb,y.O,y.len];generalize av:a1 _ _ _ _ _ _ _ _ _ _=D;revert D;refine cv (σ:=aa×af) [1,30] (λs=> [(3,s.1)]) (λs=>s.2) (λl s=>gw n s.2 s.1 (4+l)) (p++aU).length (c,e) a (hlf:=ah) (hN:=ah) ?_ ?_
   . rintro l ⟨c,e⟩ b az a hF;simp only at a hF|-;obtain ⟨F,z⟩: ∃h,(p++aU)[l]? =some h:=de;rw [bD] at az;obtain ⟨cm,cn,cf,a7,a8,rfl,⟨q,r,rfl,bz⟩,⟨ch,cj,rfl,-⟩,bj,⟨a7,rfl⟩,⟨a8,rfl⟩⟩:=ax F (aV z);obtain ⟨B,C,v,j⟩:=a.app (x:= .A [[.str q r]] true) (aQ:= [[.str q r]]) (.inl (.inr ⟨_,rfl⟩)) (N bz) ah;obtain ⟨bR,bV,bI,bJ,bK,bL,b1,bY,bP,bO,rfl,X,V⟩:=bj.t;simp only [bl,a6] at z;simp only [go_sem,hF,y.O,y.a_ (k:=10) z rfl,X.J,V.J,a.O,v,j.O];exact au.next (B,C) rfl j ay
   . rintro ⟨c,e⟩ b a hF;simp only at a hF;rw [bD] at a;simp only [go_sem];exact an.mk ah
 clear hF a;rintro b e ⟨c,a,hF⟩;refine ak.bM (λb i=> ∃c,gw n i c (4+(p.length+aU.length)+(u.map ju).sum)/\aM 75 [(3,c)] b) ?_ ?_
 . simp only [go_sem,hF,g.O,g.len];generalize av:a1 _ _ _ _ _ _ _ _ _ _=D;revert D;refine cv (σ:=aa×af) [43] (λs=> [(3,s.1)]) (λs=>s.2) (λl s=>gw n s.2 s.1 (4+(p.length+aU.length)+((u.take l).map ju).sum)) u.length (c,e) a (hlf:=(by have:=nV u;omega)) (hN:=(by have:=nV u;omega)) ?_ ?_
   . rintro l ⟨c,e⟩ b az a hF;simp only at a hF|-;obtain ⟨F,z⟩: ∃h,u[l]? =some h:=de;have bw:=uu ju z;have cz:=wR ju u (l+1);obtain ⟨cJ,ag,aC,ao,H,E,G,rfl,⟨q,r,rfl,bx⟩,⟨aj,w,bu,cD⟩,⟨cH,bt,cu,ct⟩,⟨cO,y,cE,aB⟩,⟨P,I,bq,cq⟩,⟨aF,rfl⟩,⟨aG,rfl⟩⟩:=aX.bh F ah;have bc:ju [.str q r,ag,aC,ao,H,.int .i64 aF,.int .i64 aG]=1+P.length+aj.length:=by show 1+(f H).length+(f ag).length=_;rw [bm w,bm I]
     rw [bc] at bw;generalize cp:4+(p.length+aU.length)+((u.take l).map ju).sum=aY at*;refine au.kp [45,44,43] (λo b i=>e=i/\ ∃aK,M b 3=c/\M b 7= .W aK [.str q r,ag,aC,ao,H,.int .i64 aF,.int .i64 aG]/\o b) ?_ ?_
     . simp only [go_sem,hF,g.O,g.a_ (k:=7) z rfl,w.J,bt.J,y.J,I.J];exact an.mk ⟨rfl,_,by simp only [go_sem,hF];trivial⟩
     clear hF;rintro b _ ⟨rfl,aK,hF⟩;obtain ⟨B,C,v,j⟩:=a.app (x:= .A [[.str q r]] true) (aQ:= [[.str q r]]) (.inl (.inr ⟨_,rfl⟩)) (N bx) ah;obtain ⟨aP,aq,bd,aw⟩:=j.app (x:=H) (aQ:=P) I.cw bq ah;refine au.kp [45,44,43,7] (λo b i=>aq=i/\M b 3=aP/\o b) ?_ ?_
     . simp only [go_sem,hF,I.O,a.O,v,j.O,bd,aw.O];exact an.mk ⟨rfl,ay⟩
     clear hF;rintro b _ ⟨rfl,hF⟩;simp only [go_sem,hF,w.O,w.len];generalize av:a1 _ _ _ _ _ _ _ _ _ _=D;revert D;refine cv [45,44,43,58] (λs=> [(3,s.1)]) (λs=>s.2) (λl s=>gw n s.2 s.1 (aY+1+P.length+l)) aj.length (aP,aq) aw ?_ ?_
     . rintro aD ⟨c,e⟩ b cx a hF;simp only at a hF|-;obtain ⟨F,S⟩: ∃h,aj[aD]? =some h:=ah;obtain ⟨ck,cl,cg,cQ,b4,b5,rfl,⟨cP,cR,rfl,-⟩,⟨aT,aW,rfl,bE⟩,bk,⟨cG,bG,cF,-⟩,⟨b4,rfl⟩,⟨b5,rfl⟩⟩:=bu F (aV S);obtain ⟨bR,bV,bI,bJ,bK,bL,b1,bY,bP,bO,rfl,X,V⟩:=bk.t;obtain ⟨B,C,v,j⟩:=a.app (x:= .A [[.str aT aW]] true) (aQ:= [[.str aT aW]]) (.inl (.inr ⟨_,rfl⟩)) (N bE) ah;simp only [bl,a6] at S;simp only [go_sem,hF,w.O,w.a_ (k:=11) S rfl,X.J,V.J,bG.J];refine au.aE ?_ ?_<;>intro Q<;>simp only [go_sem,hF,Q,a.O,v,j.O]
       all_goals first
        |exact au.next (B,C) rfl j ay
        |exact au.next (c,e) rfl (by show gw n e c (_+(aD+1));exact a.mono ab) ay
     . rintro ⟨c,e⟩ b a hF;simp only at a hF;simp only [go_sem];exact au.next (c,e) rfl ah ay
   . rintro ⟨c,e⟩ b a hF;simp only at a hF;rw [bX] at a;simp only [go_sem];exact an.mk ah
 clear hF a;rintro b e ⟨c,a,hF⟩;simp only [go_sem,hF,a.O,a.nl,dX,if_true];exact ak.Sv aA a ab
end
abbrev gz (t:TypeId) (vs:List aa):Prop:= ∀a,ew prog a t vs
def lz (P:Program) (t:TypeId):Option (List TypeId):=match P.underlying t with
 |some (.struct a)=>if sk P t then some (a.toList.map (·.type)) else none
 |_=>none
def Lb: ∀(a:List TypeId) (vs:List aa),(∀n,lH prog (ew prog n) a vs)->lH prog gz a vs
 | [],vs,b=>b 0
 | h::a,vs,b=>by
   obtain ⟨d,c,e,g,-,-⟩:=b 0;have o: ∀n,ew prog n h d/\lH prog (ew prog n) a c:=λn=>by
    obtain ⟨i,j,f,m,k,l⟩:=b n;rw [e] at f;obtain ⟨rfl,rfl⟩:=List.append_inj f ab
    grind
   exact ⟨d,c,e,g,ah,Lb a c ah⟩
def mi {t:TypeId} {b vs} (a:lz prog t=some b) (c:gz t vs):lH prog gz b vs:=by
 unfold lz at a;split at a
 . next e g=>
   split at a
   . next f=>
     cases a;refine Lb _ _ λd=> ?_;have:=c (d+1);unfold ew at this
     grind
   grind
 grind
def kZ {t:TypeId} {vs} (c:prog.underlying t=some (.int .i64)) (b:gz t vs): ∃a,vs= [.int .i64 a]:=by
 have:=b 1;unfold ew at this
 grind
def abB:prog.underlying 9=some .string:=ai
def i_ {vs} (a:gz 9 vs): ∃l m,vs= [.str l m]/\T l m/\l<4611686018427387904:=by
 have:=a 1;unfold ew at this;rw [abB] at this;obtain ⟨l,m,rfl,b,c⟩:=this;exact ⟨l,m,rfl,c,by unfold reachBytes at b;omega⟩
def jH {t e:TypeId} {k:Nat} {vs} (i:prog.underlying t=some (.slice e)) (g:prog.cellsOf e=k) (h:0<k) (f:gz t vs): ∃x rows,vs= [x]/\F x rows/\iS x=1+hY rows/\ ∀r∈rows,r.length=k/\gz e r:=by
 have a:=f 1;unfold ew at a;rw [i] at a;obtain ⟨x,rows,rfl,c,-,n⟩:=a (by rw [g];exact h);refine ⟨x,rows,rfl,c,?_,λr o=>⟨ah,λl=> ?_⟩⟩
 . rcases c with ⟨rfl,rfl⟩|⟨m,rfl⟩<;>simp [iS,hY]
 . have b:=f (l+1);unfold ew at b;rw [i] at b;obtain ⟨s,q,d,j,-,p⟩:=b (by rw [g];exact h);simp only [jn,and_true] at d;subst d;obtain rfl:=qe c j
   grind
def qM (c:Nat) (f:List aa->Nat): ∀(rows:Y),(∀r∈rows,c*f r<=E r)->c*(rows.map f).sum<=hY rows
 | [],_=>by simp
 |r::rows,a=>by have b:=a r (dF ..);have d:=qM c f rows ah;simp only [fS,kE,hY,Nat.mul_add];omega
def Mr: ∀(rows:Y),(rows.map λ_=>1).sum=rows.length
 | []=>rfl
 |_::l=>by rw [fS,kE,Mr l,cl];omega
def kP (c:Nat) (rows:Y) (a: ∀r∈rows,c<=E r):c*rows.length<=hY rows:=by
 have:=qM c (λ_=>1) rows ah;rw [Mr] at this;omega
def l5 {r:List aa}: ∀ {rows:Y},r∈rows->E r<=hY rows
 | b::rows,a=>by
   rcases b2.1 a with rfl|a
   . simp only [hY];omega
   . have:=l5 a;simp only [hY];omega
def Fa:prog.underlying 33=some (.slice 35):=ai
def A8:prog.cellsOf 35=6:=aq
def ZL:lz prog 35=some [32,3,9,9,33,33]:=aq
def abf:prog.underlying 32=some (.int .i64):=ai
def na:prog.underlying 3=some (.int .i64):=ai
def nu (t:TypeId) (b:prog.cellsOf t=1) {a:List aa} (c:a.length=prog.cellsOf t): ∃x,a= [x]:=CZ.1 (c.trans b)
def oD {r:List aa} (c:gz 35 r): ∃k n l1 m1 a b y z ky i,r= [.int .i64 k,.int .i64 n,.str l1 m1,.str a b,y,z]/\T l1 m1/\T a b/\l1<4611686018427387904/\a<4611686018427387904/\
    F y ky/\F z i/\E r=6+hY ky+hY i/\(∀x∈ky,gz 35 x)/\ ∀x∈i,gz 35 x:=by
 obtain ⟨v,G,rfl,-,d,w,H,rfl,-,e,A,I,rfl,-,f,B,J,rfl,-,g,C,K,rfl,-,h,D,L,rfl,-,j,rfl⟩:=mi ZL c;obtain ⟨k,rfl⟩:=kZ abf d;obtain ⟨n,rfl⟩:=kZ na e;obtain ⟨l1,m1,rfl,q,o⟩:=i_ f;obtain ⟨a,b,rfl,s,p⟩:=i_ g;obtain ⟨y,ky,rfl,l,t,M⟩:=jH Fa A8 al h;obtain ⟨z,i,rfl,m,u,N⟩:=jH Fa A8 al j;refine ⟨k,n,l1,m1,a,b,y,z,ky,i,rfl,q,s,o,p,l,m,?_,ah,ah⟩;simp only [bl,a6,E,t,u,iS];omega
def qS: ∀(N:Nat) (r:List aa),E r<=N->N<4611686018427387904->gz 35 r->aN r
 |0,r,o,_,c=>by obtain ⟨p,v,q,t,s,u,w,x,g,h,rfl,m,n,k,l,e,f,d,i,j⟩:=oD c;omega
 | N+1,r,o,z,c=>by
   obtain ⟨p,v,q,t,s,u,w,x,g,h,rfl,m,n,k,l,e,f,d,i,j⟩:=oD c;have y: ∀a,gz 35 a->1<=E a:=λa b=>by obtain ⟨_,_,_,_,_,_,_,_,_,_,-,-,-,-,-,-,-,d,-⟩:=oD b;omega
   have A:=kP 1 g ah;have B:=kP 1 h ah;exact .mk ⟨rfl,m,n,k,l,e,f,ab,ab⟩ (λa b=>qS N a (by have:=l5 b;omega) ab (i a b)) (λa b=>qS N a (by have:=l5 b;omega) ab (j a b))
theorem XM {E:Env} {b:List Nat} {k:IntKind} {a:Int} {l:List aa} {tm:List aa} {H:af}:hy E .max b (.int k a::l) tm H=bb (mR k a l) tm H:=by unfold hy;rfl
@[go_sem] theorem afI (E:Env) (g:List Nat) (a b c d:Int) (tm H):hy E .max g [.int .i64 a,.int .i64 b,.int .i64 c,.int .i64 d] tm H= .ok (.int .i64 (max (max (max a b) c) d)) tm H:=by
 have e: ∀(a b:Int) (f:List aa),mR .i64 a (.int .i64 b::f)=mR .i64 (max a b) f:=λa b f=>by
  rw [mR,if_pos rfl];split
  . rw [Int.max_eq_right ab]
  . rw [Int.max_eq_left ab]
 rw [XM,e,e,e,mR,zq]
open Classical in
theorem Br {f:Nat} {g:List aa->List aa} {rows:Y} {ad n:Nat} {H:af} (h: ∀r∈rows,∃b,∀tm,az G (X G R ad n) f (g r) H tm= .ok (.bool b) tm H): ∃p:List aa->Bool,∀r∈rows,∀tm,az G (X G R ad n) f (g r) H tm= .ok (.bool (p r)) tm H:=by refine ⟨λr=>if bh: ∃b,∀tm,az G (X G R ad n) f (g r) H tm= .ok (.bool b) tm H then bh.choose else false,λr bh=> ?_⟩;have:=h r bh;simp only [dif_pos this];exact this.choose_spec
def Gn (m i:Nat):en m i∈List.range 256:=h9.2 (by unfold en;exact tF _ al)
def MP:d G R 103 (λp:Nat×Nat=>T p.1 p.2) (λp=> [.str p.1 p.2]) (λp=> .bool (isName p.1 p.2)):=by
 obtain ⟨J,t⟩:=C.all (l:=List.range 256) (f:=170) (g:=λa=> [.int .u8 (a:Nat)]) (v:=λa=> .bool (isLet a)) λa _=>DC _;obtain ⟨K,u⟩:=C.all (l:=List.range 256) (f:=171) (g:=λa=> [.int .u8 (a:Nat)]) (v:=λa=> .bool (qd a)) λa _=>Dv _;refine d.run (m:=27) rfl rfl rfl rfl (λ_=>rfl) (λ_ _=>rfl) rfl rfl (J+K+42) λz A N O D I x c=> ?_;obtain ⟨h,o⟩:=D;have t:=λi=>t z A ab ab (en o 0) (Gn _ _) x i c;have u:=λa i=>u z A ab ab (en o a) (Gn _ _) x i c;have E:(h==0&&o==0)=decide (h=0):=by rw [jU];simp;exact I.zero
 simp only [go_sem,E];refine e.aE ?_ ?_<;>intro j<;>simp only [go_sem,j]
 . exact e.b c (U.refl _) (by simp at j;simp [isName,j])
 have F:0<h:=by simp at j;omega
 refine e.aE ?_ ?_<;>intro s<;>simp only [go_sem,s,F,t]
 . exact e.b c (U.refl _) (by simp at s;simp [isName];omega)
 have H:h<=40:=by simp at s;omega
 refine e.aE ?_ ?_<;>intro q<;>simp only [go_sem,q]
 rotate_left
 . exact e.b c (U.refl _) (by simp [isName,q])
 generalize M:a1 _ _ _ _ _ _ _ _ _ _=B;revert B;have hF:=trivial;refine dA [0] (λn=> ∀a,a<n->qd (en o a)=true) h (λa k=>by omega) ?_ ?_
 . intro n L i y w hF;simp only [go_sem,hF,y,u n];refine au.aE ?_ ?_<;>intro r<;>simp only [go_sem,r]
   . refine au.next () rfl (λa k=> ?_) ay;rcases Nat.lt_succ_iff_lt_or_eq.1 k with k|rfl
     . exact w a k
     . exact r
   . refine au.stop rfl ?_;simp only [go_sem,hF];exact e.b c (U.refl _) (by simp [isName];exact λ_ _ _=>⟨n,y,r⟩)
 . intro L i w hF;simp only [go_sem,hF];exact e.b c (U.refl _) (by simp [isName,q];exact ⟨⟨ab,H⟩,w⟩)
def abw:d G R 102 (λp:Nat×Nat=>T p.1 p.2) (λp=> [.str p.1 p.2]) (λp=> .bool (!isName p.1 p.2)):=by
 obtain ⟨h,a⟩:=MP;refine d.run (m:=5) rfl rfl rfl rfl (λ_=>rfl) (λ_ _=>rfl) rfl rfl h λj l o q f g c b=> ?_;obtain ⟨i,k⟩:=f;have a:=λn=>a j l ab ab (i,k) g c n b;simp only at a;simp only [go_sem,a];exact e.mk rfl b (U.refl _)
def Vv {r} (c:aN r):dt 108 [.agg r] dI bQ:=by
 obtain ⟨k,a⟩:=((Dz c).mono (S':=dI) (λ_ h=>by obtain ⟨b,f,-⟩:=h;exact ⟨b,f⟩) λ_ g=>g).bW;refine aL.run (m:=5) rfl rfl rfl rfl rfl rfl rfl rfl k λl n o p e d=> ?_;obtain ⟨b,a⟩:=a l n ab ab e d;obtain ⟨y,z,q,s,u,v,B,A,x,w,rfl,j,i⟩:=c.t;simp only [go_sem,j.J,i.J,a];exact ak.bW d (U.refl _)
def Vu {d:List aa} {s:List aa} {kN jv rop j3 bk req p Z u:Y} (q:fz d s kN jv rop j3 bk req p Z u):dt 62 [.agg d] dI bQ:=by
 have bU:=q.n1;have bS:=q.iN;have bJ: ∀a∈p++Z,iz a:=λa b=>(cr.1 b).elim (q.b9 a) (q.hm a);obtain ⟨aU,F⟩:=abw;obtain ⟨aW,I⟩:=dE (l:=eE req p Z u) (Q:=λa o i=>aN a-> ∀h,Tidy h-> ∃r,∀e,az G (X G R o i) 108 [.agg a] h e= .ok (.bool r) e h) λa _=>by
  by_cases b:aN a
  . obtain ⟨aT,aJ⟩:=(Vv b).bW;exact ⟨aT,λo i F I _ h j=>aJ o i F I h j⟩
  . exact ⟨0,λ_ _ _ _ av=>absurd av b⟩
 obtain ⟨aX,aw⟩:=(VD q).val;obtain ⟨aY,ax⟩:=(U7 q).val;obtain ⟨cp,aq,bf,b5,a8,bj,cy,cB,aH,⟨bb,bc,rfl,-⟩,w,P,⟨aZ,a7,rfl,-⟩,M,b,⟨bm,bn,rfl,-⟩,⟨bs,bt,rfl,-⟩⟩:=q.eq;obtain ⟨bo,aj,bg,ar,br,rfl,bu,bw,bx,bz,bB⟩:=q.bT.eq;refine aL.run (m:=74) rfl rfl rfl rfl rfl rfl rfl rfl (aU+aW+aX+aY+1048570) λo i bO bP h j=> ?_;obtain ⟨i,rfl⟩: ∃ba,i=ba+2:=⟨i-2,ab⟩;obtain ⟨bp,⟨bd,af,N,bR⟩,D⟩:=aw o (i+2) ab ab h j;obtain ⟨bq,⟨ai,ag,S,bY⟩,E⟩:=ax o (i+2) ab ab h j;have al:=Du bp (.fn (.func 102) [] []) bd (λa=>match a with| [.str y r]=> !isName y r|_=>false) af (qK N) ab rfl (λ_=>rfl) (λa b cz=>by obtain ⟨y,r,rfl,-⟩:=N a b;rfl) o i ab h j (λa b e=>by obtain ⟨y,r,rfl,aK,-⟩:=N a b;simp only [eg,a6,fw,jj];exact F o i ab ab (y,r) aK h e j);obtain ⟨ah,B⟩:=Br (f:=108) (g:=λa=> [.agg a]) (rows:=ai) (ad:=o) (n:=i) (H:=h) λa b=>I o i ab ab a (S a b).2 (S a b).1 h j;have ao:=Ut bq (.fn (.func 108) [] []) ai ah ag (λa b=>(S a b).1.len) ab rfl (λ_=>rfl) o i ab h j (λa b e=>by simp only [eg,a6,fw];exact B a b e);rw [aH] at D E|-;simp only [bl,a6] at D E|-;refine ak.bM (λe t=>h=t/\aM 75 [(1,.W 0 [.str bb bc,bo,aj,bg,ar,br,aq,bf,.str aZ a7,a8,bj,.str bm bn,.str bs bt])] e) ?_ ?_
 . simp only [go_sem,bu.J,bw.J,bx.J,bz.J,bB.J,w.J,P.J,M.J,b.J];exact an.mk ⟨rfl,dC⟩
 rintro e _ ⟨rfl,hF⟩;refine ak.bF hF (λA e t=>h=t/\A e) ?_ ?_
 . simp only [go_sem,hF,P.O,P.len]
   iterate 5 all_goals try (refine an.aE ?_ ?_<;>intro v<;>simp only [go_sem,hF,v,M.O,M.len,w.O,w.len,b.O,b.len])
   all_goals first
    |exact an.mk ⟨rfl,ay⟩
    |exact an.stop rfl (by simp only [go_sem,hF];exact ak.bW j (U.refl _))
 clear hF;rintro e _ ⟨rfl,hF⟩;refine ak.bF hF (λA e t=>h=t/\A e) ?_ ?_
 . simp only [go_sem,hF,w.O,w.len];generalize aC:a1 _ _ _ _ _ _ _ _ _ _=C;revert C;refine cv [1,31] (λ_=> []) (λ_=>h) (λV s=>True) req.length () trivial ?_ ?_
   . rintro V _ e L _ hF;obtain ⟨ae,z⟩:=bA L;obtain ⟨bC,bD,aS,y,r,rfl,aA,aF,⟨b1,x,aI,-⟩,⟨cm,rfl⟩,⟨cn,rfl⟩⟩:=q.kx ae (aV z);obtain ⟨b3,ck,cb,cd,cc,cf,cD,cF,b6,b8,aB,-,-⟩:=aA.ea;obtain ⟨b4,cl,cq,cw,ct,cx,cE,cG,b7,ca,aG,-,-⟩:=aF.ea;obtain ⟨rfl,aO,aQ⟩:=aB.c;obtain ⟨rfl,aP,aR⟩:=aG.c;simp only [bl,a6] at z;simp only [go_sem,hF,w.O,w.a_ (k:=15) z rfl,aO.J,aQ.J,aP.J,aR.J,x.J,x.O,x.len];refine au.aE ?_ ?_<;>intro v<;>simp only [go_sem,v]
     all_goals first
      |exact au.next () rfl trivial ay
      |exact au.stop rfl (by simp only [go_sem];exact an.stop rfl (by simp only [go_sem,hF];exact ak.bW j (U.refl _)))
   . intro s e aD hF;simp only [go_sem];exact an.mk ⟨rfl,ay⟩
 clear hF;rintro e _ ⟨rfl,hF⟩;refine ak.bF hF (λA e t=>h=t/\A e) ?_ ?_
 . simp only [go_sem,hF,b.O,b.len];generalize aC:a1 _ _ _ _ _ _ _ _ _ _=C;revert C;refine cv (σ:=Unit) [1,43] (λ_=> []) (λ_=>h) (λV s=>True) u.length () trivial (hlf:=(by have:=nV u;omega)) (hN:=(by have:=nV u;omega)) ?_ ?_
   . rintro V _ e L _ hF;obtain ⟨ae,z⟩:=bA L;obtain ⟨cj,ah,aS,cA,bH,y,r,rfl,⟨bE,bG,rfl,-⟩,⟨cu,B,bX,bV⟩,⟨b2,x,aI,bN⟩,⟨cC,T,b0,bZ⟩,⟨bI,K,bL,bK⟩,⟨cg,rfl⟩,⟨ch,rfl⟩⟩:=q.bh ae (aV z);simp only [go_sem,hF,b.O,b.a_ (k:=7) z rfl,B.J,x.J,T.J,K.J,B.O,B.len,x.O,x.len,T.O,T.len,K.O,K.len];refine au.aE ?_ ?_<;>intro v<;>simp only [go_sem,v]
     all_goals first
      |exact au.next () rfl trivial ay
      |exact au.stop rfl (by simp only [go_sem];exact an.stop rfl (by simp only [go_sem,hF];exact ak.bW j (U.refl _)))
   . intro s e aD hF;simp only [go_sem];exact an.mk ⟨rfl,ay⟩
 clear hF;rintro e _ ⟨rfl,hF⟩;simp only [go_sem,hF,D,af.O,al];refine ak.aE ?_ ?_<;>intro v<;>simp only [go_sem,hF,v,E,ag.O,ao]
 all_goals exact ak.bW j (U.refl _)
end Go.aj
