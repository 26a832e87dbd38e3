/- A part of the proof. -/
import Derived.KernelRfl
import Derived.Test.YtiodgpibgiodcaaGreatDoorP00
import Derived.Test.YtiodgpibgiodcaaGreatDoorP01
import Derived.Test.YtiodgpibgiodcaaGreatDoorP07
import Derived.Test.YtiodgpibgiodcaaGreatDoorP11
set_option linter.all false
set_option maxHeartbeats 4000000
namespace Go.aj
open Go Go.Proofs.Tryz
set_option maxRecDepth 100000
def e1.uniq {r n} (ag:e1 r n): ∀ {m},e1 r m->n=m:=by
 induction ag with
 | @mk r v n B F D H K M x z p ag t u l o=>
 intro m d
 cases d with
 | @mk _ w J C G E I L N y A q d j k=>
 obtain ⟨rfl,f,g⟩:=ag.c;obtain ⟨e,-,-,-,-,h,i,-,-⟩:=d;simp only [jn,aa.int.injEq,aa.str.injEq,and_true,true_and] at e;obtain ⟨-,-,-,-,rfl,rfl⟩:=e;obtain rfl:=qe f h;obtain rfl:=qe g i;congr 2;refine vS λb a=> ?_;rcases cr.1 a with a|a
 . exact l b a (j b a)
 . exact o b a (k b a)
open Classical in
noncomputable def mT (r:List aa):Nat:=if ag: ∃n,e1 r n then ag.choose else 0
def Kh {r n} (ag:e1 r n):mT r=n:=by
 unfold mT;rw [dif_pos ⟨n,ag⟩];exact (Exists.choose_spec (⟨n,ag⟩: ∃n,e1 r n)).uniq ag
def bL.g_ {rows N} (ag:bL rows N) {r} (a:r∈rows):e1 r (mT r)/\mT r<=N:=by
 obtain ⟨d,b,c⟩:=ag;have:=b r a;rw [Kh this];exact ⟨this,eT (o3 a) c⟩
def bL.sum {rows N} (ag:bL rows N):(rows.map mT).sum<=N:=by
 obtain ⟨d,a,e⟩:=ag
 rwa [vS λc b=>Kh (a c b)]
def bL.mk {rows N} (ag: ∀r∈rows,e1 r (mT r)) (a:(rows.map mT).sum<=N):bL rows N:=⟨mT,ag,a⟩
def bL.wt {rows N} (ag:bL rows N): ∀r∈rows,aN r:=λr a=>(ag.g_ a).1.wt
def bL.len {rows N} (ag:bL rows N):rows.length<=N:=by
 obtain ⟨e,a,b⟩:=ag;exact eT (qq λd c=>(a d c).pos) b
def bL.app {a b n m} (ag:bL a n) (g:bL b m):bL (a++b) (n+m):= .mk (λe d=>(cr.1 d).elim (λc=>(ag.g_ c).1) λc=>(g.g_ c).1) (by have:=ag.sum;have:=g.sum;simp;omega)
def bL.mono {a n m} (ag:bL a n) (b:n<=m):bL a m:= .mk (λd c=>(ag.g_ c).1) (eT ag.sum b)
def bL.left {a b n} (ag:bL (a++b) n):bL a n:= .mk (λd c=>(ag.g_ (hP _ c)).1) (by have:=ag.sum;simp at this;omega)
def bL.right {a b n} (ag:bL (a++b) n):bL b n:= .mk (λd c=>(ag.g_ (h7 _ c)).1) (by have:=ag.sum;simp at this;omega)
def bL.one {r rows n} (ag:bL rows n) (a:r∈rows):bL [r] n:= .mk (λc b=>by rw [bs.1 b];exact (ag.g_ a).1) (by have:=(ag.g_ a).2;simpa)
def bL.ok {rows N} (ag:bL rows N) (hN:N<1048560): ∀r∈rows,AH r:=λr a=>⟨_,by have:=(ag.g_ a).2;omega,(ag.g_ a).1⟩
def qI {rows} (ag:b8 rows): ∀r∈rows,eu r r=true:=λr a=>by
 obtain ⟨c,d,rfl,-⟩:=ag r a;exact m5 _ λe b=>by rw [bs.1 b];exact r8 _ _
def LX {rows:Y} (ag: ∀r∈rows,gd r): ∀r∈rows,eu r r=true:=λr b=>by
 obtain ⟨c,d,e,f,rfl,-⟩:=ag r b;exact m5 _ λg a=>by simp only [b2,dG,or_false] at a;rcases a with rfl|rfl<;>exact r8 _ _
def c6.same {r} (ag:c6 r):eu r r=true:=by
 obtain ⟨n,p,l,o,q,v,⟨⟨k,t,s,i,m,rfl,b,h,⟨u,d,-,c⟩⟩,-,-,-,-,f,-,g,-⟩⟩:=ag;refine m5 _ λj a=> ?_;simp only [b2,dG,or_false] at a;rcases a with rfl|rfl|rfl|rfl|rfl|rfl|rfl
 . exact r8 _ _
 . exact b.same (qI f)
 . exact r8 _ _
 . exact d.same (LX c)
 . exact wJ _ _
 . exact wJ _ _
 . exact h.same λr e=>by obtain ⟨i,rfl⟩:=g r e;exact m5 _ λj a=>by rw [bs.1 a];exact wJ _ _
def ES {a} (ag:mg a):eu a a=true:=m5 _ λc b=>by obtain ⟨d,e,rfl⟩:=ag c b;exact r8 _ _
def hH.same {a b rop} (ag:hH a b rop):cN (.ck a b) (.ck a b)=true:=ER (ES ag.k) (m5 _ λe d=>by obtain ⟨f,rfl,c⟩:=ag.s e d;exact LW c.same)
def dO.same {ax:aa} {s:List aa} {ar aw rop ao aJ:Y} (ag:dO ax s ar aw rop ao aJ):f_ (some ax) (some ax)=true:=by
 obtain ⟨a,q,y,t,A,r,z,rfl,e,g,hF⟩:=ag;obtain ⟨w,o,u,p,x,rfl,i,j,l,m,n⟩:=a.eq;refine ZR _ (m5 _ λf c=> ?_);simp only [bl,a6,b2,dG,or_false] at c;rcases c with rfl|rfl|rfl|rfl|rfl|rfl|rfl|rfl
 . exact i.same (qI a.so)
 . exact j.same (LX a.be)
 . exact l.same λd b=>(a.op d b).same
 . exact m.same λd b=>(a.cP d b).same
 . exact n.same (qI a.bJ)
 . exact ER (ES e.k) (m5 _ λf c=>by obtain ⟨v,b,h⟩:=e.s f c;exact b.same (qI h))
 . exact g.same
 . exact hF.same
section
variable {ax:aa} {s:List aa} {ar aw rop ao aJ:Y} (ag:dO ax s ar aw rop ao aJ)
include ag
omit ag in
theorem dP.te {d:List aa} {ax:aa} (Ir:d.length=13):(d++ [ax])[13]? =some ax:=by rw [vP ab,Ir];rfl
theorem Ve {r} (b:aN r):bo λad n=> ∀c d H tm,Z H->dP H c d ax->az G (X G R ad n) 191 [c,.agg r] H tm= .ok (.str (eh ar rop ao r).1 (eh ar rop ao r).2) tm H:=by obtain ⟨w,a⟩:=v_ ag b;obtain ⟨x,P,Q,T,V,W⟩:=ag.val;refine ⟨w+1,λad n D E c d H tm g l=> ?_⟩;obtain ⟨n,rfl⟩:=bY n;have a:=λtm=>a ad n ab ab H tm g;obtain ⟨id,j,C,M,rfl,q,p,o⟩:=l;have k:=dP.te (ax:=ax) o;obtain ⟨h,rfl,i⟩:=hg (S:=λh=>h= .str (eh ar rop ao r).1 (eh ar rop ao r).2) (aL.at (m:=9) (f:=191) (args:= [.ptr id j 0 14,.agg r]) (ad:=ad) (n:=n) (H:=H) rfl rfl rfl rfl rfl rfl rfl rfl (by generalize eh ar rop ao r=N at*;obtain ⟨K,L,y,A,z,B,O,Y,F,I,rfl,u,v⟩:=b.t;simp only [go_sem,u.J,v.J,q,p,k,x,a];exact .inl ⟨_,rfl,e.mk rfl g (U.refl _)⟩));exact i tm
theorem tM {r} (o:aN r):bo λad n=> ∀c d (a b:Int) (l m ls ms:Nat) H,Z H->dP H c d ax->fK 128 [c,.agg [.int .i64 a,.int .i64 b],.str l m,.agg r,.str ls ms] ad n H:=by
 obtain ⟨y,g⟩:=Ve ag o;obtain ⟨z,h⟩:=gu 16 al;obtain ⟨A,i⟩:=MQ ag;obtain ⟨D,V,W,X,Y,aa⟩:=ag.val;refine ⟨y+z+A+1,λad n L M c d a b l m ls ms H e k=> ?_⟩;obtain ⟨n,rfl⟩:=bY n;have g:=λf=>g ad n ab ab c d H f e k;have h:=λf=>h ad n ab ab l m a b H f e;have i:=λl m B C f=>i ad n ab ab (l,m,B,C) trivial H f e;obtain ⟨id,j,K,R,rfl,v,u,q⟩:=k;have p:=dP.te (ax:=ax) q;refine o6 (aL.at (m:=18) rfl rfl rfl rfl rfl rfl rfl rfl ?_);generalize eh ar rop ao r=S at*;obtain ⟨P,Q,E,G,F,I,T,ae,N,O,rfl,w,x⟩:=o.t;simp only [go_sem,w.J,x.J,v,u,p,D,g,i,ag.same];refine ak.aE ?_ ?_<;>intro j<;>simp only [go_sem,j,h]
 . exact ak.un e (U.refl _)
 . exact ak.aK (lO 16 al _ _ _ _) rfl e (U.refl _)
end
def Jv (rows:Y) (N:Nat) (hN:N<1048560) (g:bL rows N):bo λad n=> ∀(a b:Int) x H,Z H->cG H 6 x rows->fK 126 [.agg [.int .i64 a,.int .i64 b],x] ad n H:=by
 obtain ⟨i,d⟩:=Jh rows (g.ok hN) (by have:=g.len;omega);obtain ⟨j,e⟩:=gu 16 al;refine ⟨i+j+1,λad n p q a b x H c f=> ?_⟩;obtain ⟨n,rfl⟩:=bY n;obtain ⟨v,⟨r,w,t,u,rfl⟩,d⟩:=d ad n ab ab x H c f;have e:=λk l o=>e ad n ab ab k l a b H o c;refine o6 (aL.at (m:=14) rfl rfl rfl rfl rfl (by simp only [aO,f.aD];rfl) rfl rfl ?_);simp only [go_sem,f.O,d];refine ak.aE ?_ ?_<;>intro h<;>simp only [go_sem,h,e]
 . exact ak.un c (U.refl _)
 . exact ak.aK (lO 16 al _ _ _ _) rfl c (U.refl _)
def uO.str {l:List (Nat×Nat)} (b:eC l):b8 (l.map iu):=λe d=>by
 obtain ⟨a,c,rfl⟩:=cd.1 d;exact ⟨a.1,a.2,rfl,b a c⟩
def Jk (q rows:Y) (N M:Nat) (hN:N<1048560) (B:M<1048560) (E:bL q N) (F:bL rows M):bo λad n=> ∀(a b:Int) y x H,Z H->cG H 6 y q->cG H 6 x rows->
    fK 127 [.agg [.int .i64 a,.int .i64 b],y,x] ad n H:=by
 obtain ⟨G,e⟩:=U4 q N hN E;obtain ⟨I,f⟩:=JA rows M B F;obtain ⟨J,g⟩:=gu 17 al;obtain ⟨K,h⟩:=oZ 1048560 al;refine ⟨G+I+J+K+1048561,λad n S V a b y x H c j i=> ?_⟩;obtain ⟨n,rfl⟩:=bY n;obtain ⟨Q,⟨L,l,P,W⟩,e⟩:=e ad n ab ab y H c j;obtain ⟨ah,⟨p,d,aa,X⟩,f⟩:=f ad n ab ab x H c i;have g:=λo r t=>g ad n ab ab o r a b H t c;have h:=λo r=>h ad n ab ab Q (L.map iu) o r H (uO.str P) da c l.cw;refine o6 (aL.at (m:=31) rfl rfl rfl rfl rfl (by simp only [aO,i.aD,j.aD];rfl) rfl rfl ?_);simp only [go_sem,i.O,j.O,e,f,l.O,d.O,d.len];generalize R:a1 _ _ _ _ _ _ _ _ _ _=z;revert z;have hF:=trivial;refine dA [3,6,12] (λ_=>True) (p.map iu).length trivial (hlf:=da) (hN:=da) ?_ ?_
 . intro v s t D C hF;obtain ⟨w,u⟩: ∃w,(p.map iu)[v]? =some w:=⟨(p.map iu)[v],by simp only [lj D]⟩;obtain ⟨⟨ae,af⟩,T,rfl⟩:=cd.1 (aV u);simp only [go_sem,hF,d.O,d.a_ (k:=1) u rfl,iu]
   iterate 3 all_goals try (refine au.aE ?_ ?_<;>intro A<;>simp only [go_sem,hF,A,g,h,l.O])
   all_goals first
    |exact au.next () rfl trivial ay
    |exact au.stop rfl (by simp only [go_sem];exact ak.aK (lO 17 al _ _ _ _) rfl c (U.refl _))
 . intro s t C hF;simp only [go_sem];exact ak.un c (U.refl _)
def jc {r} (ag:aN r) (H:af):cT G 33 1 [(0,.agg r)] H=some (.A [r] true,H):=by
 have a:=ag.row;exact mo (E:=G) (t:=33) (el:=35) (k:=6) (H:=H) (z:= .agg [.int .i64 0,.int .i64 0,.str 0 0,.str 0 0,.V,.V]) aq aq aq al rfl al (.agg r) ⟨a.1,ba.2 λc b=>(a.2 c b).1,ba.2 λc b=>(a.2 c b).2⟩
def Jd {r} (b:aN r):dt 158 [.agg r] dI bQ:=by
 obtain ⟨k,t,o,u,p,v,x,y,l,n,e,-,-⟩:=b.ea;refine aL.run (m:=15) rfl rfl rfl rfl rfl rfl rfl rfl 0 λq w i j h d=> ?_;obtain ⟨rfl,f,g⟩:=e.c;simp only [go_sem,f.J,g.J]
 iterate 2 all_goals try (refine ak.aE ?_ ?_<;>intro a<;>simp only [go_sem,a])
 all_goals exact ak.bW d (U.refl _)
abbrev ns (H:af) (b:Bool):af:=H.push (.cells (q 4) (q 4) 0 [.bool b])
theorem Gb {H:af} (a:Z H) (b:Bool):Z (ns H b):=a.push rfl
def TI (x:List aa) (C:aN x): ∃V,∀ad n,V<=ad->V<=n-> ∀(H:af) (b:Bool) (d:Int),Z H->
    ∃a,∀tm,cx G (X G R ad n) (.fn (.func 188) [] [.ptr H.n (q 4) 0 1]) [.agg x,.int .i64 d] (ns H b) tm= .ok (.av []) tm (ns H a):=by
 cases C with
 | @mk x r w u y v z A B e aS C M aH=>
 obtain ⟨aq,aj⟩:=aL.j8 (l:=e) (f:=158) (g:=λh=> [.agg h]) (S:=λ_=>dI) λh p=>Jd (M h p);refine ⟨aq+e.length+2,λad n aI aK H b d al=> ?_⟩;obtain ⟨n,rfl⟩:=bY n;obtain ⟨rfl,-,-,-,-,o,an,aO,-⟩:=C;have au:=df.at (E:=G) (R:=R) (f:=188) (m:=46) (ad:=ad) (n:=n) (args:= [.agg [.int .i64 r,.int .i64 w,.str u y,.str v z,A,B],.int .i64 d,.ptr H.n (q 4) 0 1]) (H:=ns H b)
  (Q:=λD i=>D= .av []/\ ∃a,i=ns H a) rfl rfl rfl rfl rfl rfl rfl rfl ?_
 . obtain ⟨D,i,⟨rfl,a,rfl⟩,ah⟩:=au;exact ⟨a,λtm=>by simp only [eg,a6,bl];exact ah tm⟩
 refine df.seq (λtm i=>ns H b=i/\aM 49 [(2,.ptr H.n (q 4) 0 1),(3,.W 0 [.int .i64 r,.int .i64 w,.str u y,.str v z,A,B])] tm) ?_ ?_
 . simp only [go_sem,o.J,an.J];exact dD.mk ⟨rfl,dC⟩
 rintro tm _ ⟨rfl,hF⟩;refine df.seq (λtm i=>(∃a,ns H a=i)/\aM 49 [(2,.ptr H.n (q 4) 0 1),(3,.W 0 [.int .i64 r,.int .i64 w,.str u y,.str v z,A,B])] tm) ?_ ?_
 . cases b with
   | false=>
     simp only [go_sem,hF];exact dD.mk ⟨⟨_,rfl⟩,ay⟩
   | true=>
     simp only [go_sem,hF]
     iterate 2 all_goals try (refine dD.aE ?_ ?_<;>intro j<;>simp only [go_sem,j,hF])
     all_goals exact dD.mk ⟨⟨_,rfl⟩,ay⟩
 clear hF;rintro tm _ ⟨⟨F,rfl⟩,hF⟩;simp only [go_sem,hF];refine df.aE ?_ ?_<;>intro j<;>simp only [go_sem,j]
 rotate_left
 . exact df.mk rfl ⟨rfl,F,pV rfl⟩
 generalize aF:a1 _ _ _ _ _ _ _ _ _ _=ae;revert ae;refine rP _ _ _ _ (λc tm Y=>(∃a,Y=ns H a)/\aM 49 [(2,.ptr H.n (q 4) 0 1),(3,.W 0 [.int .i64 r,.int .i64 w,.str u y,.str v z,A,B]),(5,.int .i64 ((2*c:Nat):Int))] tm) e.length ab ⟨⟨F,rfl⟩,by simp only [go_sem,hF];rfl⟩ ?_;clear hF;rintro c tm _ aG ⟨⟨I,rfl⟩,hF⟩;simp only [go_sem,hF,o.O,o.len];refine dy.aE ?_ ?_<;>intro K<;>simp only [go_sem,hF,K,o.O]
 rotate_left
 . exact dy.stop rfl (by simp only [go_sem];exact df.mk rfl ⟨rfl,I,pV rfl⟩)
 have ak:2*c<e.length:=by simp at K;omega
 obtain ⟨h,N⟩: ∃h,e[2*c]? =some h:=⟨e[2*c],by simp [ak]⟩;have p:=aV N;obtain ⟨D,⟨aB,rfl⟩,ai⟩:=aj ad n ab ab h p (ns H true) (Gb al true);obtain ⟨aR,aT,az,aC,aA,aD,aU,aW,aP,aQ,rfl,T,U⟩:=(M h p).t;have P:IntKind.i64.wrap (((2*c:Nat):Int)+2)=((2*(c+1):Nat):Int):=by rw [wrap64 _ ab ab];omega
 have L:=o.a_ (k:=6) N rfl
 cases I with
 | false=>
   simp only [go_sem,hF,L,T.J,U.J,P];exact dy.next (by show c<e.length;omega) ⟨⟨_,rfl⟩,ay⟩
 | true=>
   simp only [go_sem,hF,L,T.J,U.J,ai]
   iterate 3 all_goals try (refine dy.aE ?_ ?_<;>intro j<;>simp only [go_sem,j,hF,P])
   all_goals exact dy.next (by show c<e.length;omega) ⟨⟨_,rfl⟩,ay⟩
section
variable {ax:aa} {s:List aa} {ar aw rop ao aJ:Y} (ag:dO ax s ar aw rop ao aJ)
include ag
theorem Je {r:List aa} {n:Nat} (e:e1 r n) (u:n<=1048560):dt 125 [ax,.agg r] dI bQ:=by
 obtain ⟨w,aC,X,aD,aF,aG⟩:=ag.val;obtain ⟨M,j⟩:=((Dz e.wt).mono (S':=dI) (λ_ I=>by obtain ⟨d,g,-⟩:=I;exact ⟨d,g⟩) λ_ ag=>ag).bW;obtain ⟨N,k⟩:=(Ja ag e.wt).bW;obtain ⟨O,l⟩:=(Jc ag e ab).bW;obtain ⟨Q,o⟩:=Jh [r] (λx h=>by rw [bs.1 h];exact ⟨n,ab,e⟩) ai;obtain ⟨R,p⟩:=wa (ι:=af) (σ:=Bool) (T:=Z) (P:=λ_ _=>True) (W:=λ_=>0) (cS:=λa d=>ns a d) (pE:=10000001)
  (fv:=λa=> .fn (.func 188) [] [.ptr a.n (q 4) 0 1]) (λa d b _=>Gb b d) (λ_=>⟨rfl,λ_=>rfl⟩) (λ_ _ _ _ _=>pV rfl) (λx h=>by obtain ⟨v,E⟩:=TI x h;exact ⟨v,λf n G u a d y b _ _=>by obtain ⟨t,g⟩:=E f n G u a d y b;exact ⟨t,trivial,ab,g⟩⟩) e ab
 obtain ⟨v,ay,au,az,av,aA,aI,aK,an,aq,h,-,-⟩:=e.wt.ea;refine aL.run (m:=32) rfl rfl rfl rfl rfl (by simp only [aO,X];rfl) rfl rfl (M+N+O+Q+R) λf i ah aj a b=> ?_;obtain ⟨Y,j⟩:=j f i ab ab a b;obtain ⟨ad,k⟩:=k f i ab ab a b;obtain ⟨ae,l⟩:=l f i ab ab a b;have H:F (.A [r] true) [r]:= .inr ⟨_,rfl⟩;obtain ⟨aB,⟨al,aH,S,V,rfl⟩,o⟩:=o f i ab ab (.A [r] true) a b H.cw;have p:=λd=>p f i ab ab a d 1 b trivial ab;have D:=jc (e.wt) a;obtain ⟨rfl,K,L⟩:=h.c;simp only [go_sem,K.J,L.J,j];refine ak.aE ?_ ?_<;>intro z<;>simp only [go_sem,z,w,k]
 all_goals try (refine ak.aE ?_ ?_<;>intro B<;>simp only [go_sem,B,w,l])
 all_goals try (refine ak.aE ?_ ?_<;>intro C<;>simp only [go_sem,C,D,bH,o])
 all_goals try exact ak.bW b (U.refl _)
 obtain ⟨t,-,-,g⟩:=p (S==0&&V==0);simp only [go_sem,g,dL];exact ak.bW b ((U.refl _).push _)
end
def aaZ {n0 c:Nat} {H:af} {rows aQ:Y} {v x:aa} (ag:bd n0 35 6 c H rows v) (g:Z H) (e:n0<=H.n) (f: ∀r∈rows,aN r) (h:cG H 6 x aQ) (d: ∀r∈aQ,aN r) (hN:rows.length+aQ.length<10000000) (i:c+aQ.length<1048560):
    ∃a H',cI G 33 33 v x H=some (a,H')/\bd n0 35 6 (c+aQ.length) H' (rows++aQ) a/\iX n0 v a H H'/\cG H' 6 v rows:=
 ag.uS (b:=96) (k:=6) aq yf rfl rfl al al g e (aN.rows f) (h.elems λr ag=>(d r ag).len) (aN.rows d) (by unfold b7;omega) ab
def pq {n0 c:Nat} {H:af} {rows aQ:Y} {v x:aa} (ag:bd n0 35 6 c H rows v) (g:Z H) (e:n0<=H.n) (f: ∀r∈rows,aN r) (h:cG H 6 x aQ) (d: ∀r∈aQ,aN r) (hN:rows.length+aQ.length<10000000) (i:c+aQ.length<1048560):
    ∃a H',cI G 33 33 v x H=some (a,H')/\bd n0 35 6 (c+aQ.length) H' (rows++aQ) a/\iX n0 v a H H':=
 ag.app (b:=96) (k:=6) aq yf rfl rfl al al g e (aN.rows f) (h.elems λr ag=>(d r ag).len) (aN.rows d) (by unfold b7;omega) ab
def A4 {r q} (ag:aN r) (g:aN q) (H:af):cT G 33 2 [(0,.agg r),(1,.agg q)] H=some (.A [r,q] true,H):=by
 have c:=ag.row;have d:=g.row;exact uX (E:=G) (t:=33) (el:=35) (k:=6) (H:=H) (z:= .agg [.int .i64 0,.int .i64 0,.str 0 0,.str 0 0,.V,.V]) aq aq aq al rfl al (.agg r) (.agg q) ⟨c.1,ba.2 λb a=>(c.2 b a).1,ba.2 λb a=>(c.2 b a).2⟩ ⟨d.1,ba.2 λb a=>(d.2 b a).1,ba.2 λb a=>(d.2 b a).2⟩
section
variable {ax:aa} {s:List aa} {ar aw rop ao aJ:Y} (ag:dO ax s ar aw rop ao aJ)
include ag
theorem Vk {r:List aa} (u:xb r) {N:Nat} (hT: ∀L R i a b j,r=L++R++ [i,a,b]->L.length=6->R.length=6->F i j->bL ([L,R]++j) N) (hN:N<100000):
  bo λad n=> ∀c d H,Z H->dP H c d ax->fK 65 [c,.agg r] ad n H:=by
 obtain ⟨L,R,i,a,b,rfl,aR,bp,⟨j,E,bK,-⟩,⟨z,rfl⟩,⟨B,rfl⟩⟩:=u;have aN:=hT L R i _ _ j rfl aR.len bp.len E;clear hT;have cX:=aN.len;simp only [bl,a6,cl] at cX;have cN:=aN.g_ (r:=L) ai
 cases du:aR with
 | @mk _ aW aZ V X aX aY bb bc aO dM cd cm dx=>
 cases dv:bp with
 | @mk _ af aq az aB aA aC aF aG dL dN cO dw dy=>
 have ck: ∀o∈aO,∃n,e1 o n/\n<=1048560:=λo P=>by
  obtain ⟨aS,b3⟩:=cN;generalize mT L=dU at*
  cases aS with
  | @mk _ dJ dT dO dR dQ dS eg eh dK dj bW cD c2 dG=>
  obtain ⟨bU,-,-,-,-,bE,-⟩:=cd;obtain ⟨K,-,-,-,-,bG,-⟩:=cD;rw [bU] at K;simp only [jn,aa.int.injEq,aa.str.injEq,and_true,true_and] at K;obtain ⟨-,-,-,-,rfl,rfl⟩:=K;obtain rfl:=qe bE bG;refine ⟨bW o,c2 o P,?_⟩;have:bW o<=((aO++dj).map bW).sum:=o3 (hP _ P);omega
 obtain ⟨c8,bX⟩:=(MN ag).c (V,X) trivial;obtain ⟨db,cF⟩:=wb ag ([L,R]++j) aN.wt da;obtain ⟨dc,cH⟩:=aL.j8 (l:=aO) (f:=124) (g:=λr=> [ax,.agg r]) (S:=λ_=>dI) λo P=>by obtain ⟨n,aS,b3⟩:=ck o P;exact Jc ag aS ab
 obtain ⟨dd,cI⟩:=aL.j8 (l:=aO) (f:=125) (g:=λr=> [ax,.agg r]) (S:=λ_=>dI) λo P=>by obtain ⟨n,aS,b3⟩:=ck o P;exact Je ag aS b3
 have bJ:bL ([R]++j++ [L]) N:= .mk (λo P=>(aN.g_ (by simp at P|-;rcases P with ag|ag|ag<;>simp [ag])).1) (by have:=aN.sum;simp at this|-;omega);have b0:bL ([R]++j) N:=bJ.left;obtain ⟨de,cJ⟩:=Jv ([R]++j++ [L]) N ab bJ;obtain ⟨df,cK⟩:=Jk [L] ([R]++j) N N ab ab bJ.right b0;obtain ⟨dg,cL⟩:=dE (l:=j) (Q:=λr ad n=> ∀c d (a b:Int) (ah aj bR bS:Nat) H,Z H->dP H c d ax->fK 128 [c,.agg [.int .i64 a,.int .i64 b],.str ah aj,.agg r,.str bR bS] ad n H) λr I=>tM ag (bK r I);obtain ⟨dh,cM⟩:=tM ag bp;obtain ⟨di,bZ⟩:=gu 15 al;obtain ⟨c9,cE⟩:=gu 16 al;obtain ⟨b7,aD,eb,ec,ed,ee⟩:=ag.val;have cY:=qA ag.bT.cP V X;refine ⟨c8+db+dc+dd+de+df+dg+dh+di+c9+aO.length+j.length+2,λad n dz aS c d H y br=> ?_⟩;obtain ⟨n,rfl⟩:=bY n;have bX:=λH y e=>bX ad n ab ab H e y;have b2:=br;obtain ⟨id,q,dr,dX,rfl,cW,cV,cU⟩:=br;have b1:=dP.te (ax:=ax) cU;have cS:=A4 aR bp H;obtain ⟨rfl,ef,-,dZ,-,T,c4,dB,-⟩:=cd;obtain ⟨rfl,c3,c5⟩:=cO.c;generalize iQ ao V X=dV at*;obtain ⟨dk,dm,dq,bR,bS,ea,⟨⟨cA,dn,dp,c6,c7,rfl,cQ,c0,⟨dW,cZ,-⟩⟩,-⟩⟩:=cY;refine o6 (aL.at (m:=142) rfl rfl rfl rfl rfl rfl rfl rfl ?_);simp only [bl,a6];generalize w: [aa.int .i64 aW,.int .i64 aZ,.str V X,.str aX aY,bb,bc,.int .i64 af,.int .i64 aq,.str az aB,.str aA aC,aF,aG,i,.int .i64 z,.int .i64 B]=ba at*;refine ak.seq (λe h=>H=h/\aM 144 [(0,.ptr id q 0 14),(3,.W 0 ba),(4,.av []),(6,.av [])] e) ?_ ?_
 . subst w;simp only [go_sem,T.J,c4.J,c3.J,c5.J,E.J];exact dD.mk ⟨rfl,dC⟩
 rintro e _ ⟨rfl,hF⟩;refine ak.seq (λe h=>H=h/\aM 144 [(0,.ptr id q 0 14),(3,.W 0 ba),(4,.W 0 [.int .i64 z,.int .i64 B]),(6,.av [])] e) ?_ ?_
 . subst w;simp only [go_sem,hF];exact dD.mk ⟨rfl,ay⟩
 clear hF;rintro e _ ⟨rfl,hF⟩;refine ak.P0 hF (λp e h=>H=h/\aM 144 [(5,.str 0 0)] e/\p e) ?_ ?_
 . simp only [go_sem];exact dD.mk ⟨rfl,ay⟩
 clear hF;rintro e _ ⟨rfl,hF⟩;refine ak.seq (λe h=>H=h/\ ∃a7 a8,aM 144 [(0,.ptr id q 0 14),(3,.W 0 ba),(4,.W 0 [.int .i64 z,.int .i64 B]),(6,.av []),(5,.str a7 a8)] e) ?_ ?_
 . subst w;simp only [go_sem,hF]
   iterate 2 all_goals try (refine dD.aE ?_ ?_<;>intro q<;>simp only [go_sem,q,hF])
   all_goals exact dD.mk ⟨rfl,_,_,by simp only [go_sem,hF];trivial⟩
 clear hF;rintro e _ ⟨rfl,a7,a8,hF⟩;have b4: ∀(c:Int) (br:c≠0) ah aj bB h,U H h->ak lL fA H (fin G [] (.aK (.iface 78 (.agg [.int .i64 c,.str ah aj,.int .i64 z,.int .i64 B])) bB h [])):=λc br ah aj bB h b5=>by simp only [go_sem];exact ak.aK (lO c br _ _ _ _) rfl y b5
 have bN: ∀bC,fA bC-> ∀bB h,U H h->ak lL fA H (fin G [] (.aK bC bB h [])):=λbC cp bB h b5=>by simp only [go_sem];exact ak.aK cp (cp.aI 17) y b5
 have dF: ∀cx,O cx (.W 0 ba)= .cR cx 0 0:=λ_=>rfl;refine ak.bM (λe h=>H=h/\ ∃cb,aM 144 [(0,.ptr id q 0 14),(3,.W 0 ba),(4,.W 0 [.int .i64 z,.int .i64 B]),(5,.str a7 a8),(6,.W 0 [.str dk dm,cA,.str bR bS,dn,.int .i64 c6,.int .i64 c7,dp]),(7,.bool cb)] e) ?_ ?_
 . have bU:=bX H y;subst w;simp only [go_sem,hF,cW,cV,b1,b7,bU,cQ.J,c0.J,cZ.J];exact an.mk ⟨rfl,_,by simp only [go_sem,hF];trivial⟩
 clear hF;rintro e _ ⟨rfl,cb,hF⟩;refine ak.kp [0,3,4,5,6] (λp e h=>H=h/\p e) ?_ ?_
 . have bZ:=λah aj e=>bZ ad n ab ab ah aj z B H e y;subst w;simp only [go_sem,hF]
   iterate 2 all_goals try (refine an.aE ?_ ?_<;>intro q<;>simp only [go_sem,q,hF,bZ])
   all_goals first
    |exact an.mk ⟨rfl,ay⟩
    |exact an.stop rfl (b4 15 al _ _ _ _ (U.refl _))
 clear hF;rintro e _ ⟨rfl,hF⟩;refine ak.bF hF (λp e h=>Z h/\U H h/\p e) ?_ ?_
 . obtain ⟨bD,h,bm,Y,D⟩:=pq (n0:=H.n) (c:=2) (H:=H) (rows:= [[.int .i64 aW,.int .i64 aZ,.str V X,.str aX aY,bb,bc],[.int .i64 af,.int .i64 aq,.str az aB,.str aA aC,aF,aG]]) (aQ:=j) (v:= .A [[.int .i64 aW,.int .i64 aZ,.str V X,.str aX aY,bb,bc],[.int .i64 af,.int .i64 aq,.str az aB,.str aA aC,aF,aG]] true) (x:=i) (.inr (.inl rfl)) y (aT _) (λr u=>aN.wt r (by simp at u|-;rcases u with ag|ag<;>simp [ag])) E.cw bK da ab;have aU:=D.up H (aT _) (U.refl _);have bP:=Y.cw (λr u=>(aN.wt r u).len);have K:=cF ad n ab ab bD (.ptr id q 0 14) d z B a7 a8 h D.tidy (b2.up y.1 aU) bP;subst w;simp only [go_sem,hF,E.O,cS,bH,bm,Y.O];rcases K with K|⟨bI,C,K⟩
   . simp only [go_sem,K];exact an.mk ⟨D.tidy,aU,ay⟩
   . simp only [go_sem,K];exact an.stop rfl (bN _ C _ _ aU)
 clear hF;rintro e aH ⟨bQ,bu,hF⟩;have cT:=b2.up y.1 bu;obtain ⟨dH,dt,ds,dY,cC,cj,ch,-⟩:=cT;cases cC;have cc:=λah aj e=>cE ad n ab ab ah aj z B aH e bQ;refine ak.bF hF (λp e h=>aH=h/\p e) ?_ ?_
 . subst w;simp only [go_sem,hF,T.O,T.len];generalize cf:a1 _ _ _ _ _ _ _ _ _ _=bf;revert bf;refine dA [0,3,4,5,6,69] (λ_=>True) aO.length trivial ?_ ?_
   . intro cq s e bt bn hF;obtain ⟨o,ae⟩:=bA bt;have I:=aV ae;obtain ⟨bC,⟨cB,rfl⟩,bV⟩:=cH ad n ab ab o I aH bQ;obtain ⟨cu,cv,bE,bG,b9,ca,cy,cz,cr,ct,rfl,bx,bz⟩:=(cm o I).t;simp only [go_sem,hF,T.O,T.a_ (k:=6) ae rfl,bx.J,bz.J,cj,ch,b1,b7,bV];refine au.aE ?_ ?_<;>intro q<;>simp only [go_sem,hF,q,cc]
     all_goals first
      |exact au.next () rfl trivial ay
      |exact au.stop rfl (by simp only [go_sem];exact an.stop rfl (b4 16 al _ _ _ _ bu))
   . intro s e bn hF;simp only [go_sem];exact an.mk ⟨rfl,ay⟩
 clear hF;rintro e _ ⟨rfl,hF⟩;refine ak.bF hF (λp e h=>aH=h/\p e) ?_ ?_
 . subst w;simp only [go_sem,hF,T.O,T.len];generalize cf:a1 _ _ _ _ _ _ _ _ _ _=bf;revert bf;refine dA [0,3,4,5,6,87] (λ_=>True) aO.length trivial ?_ ?_
   . intro cq s e bt bn hF;obtain ⟨o,ae⟩:=bA bt;have I:=aV ae;obtain ⟨bC,⟨cB,rfl⟩,bV⟩:=cI ad n ab ab o I aH bQ;obtain ⟨cu,cv,bE,bG,b9,ca,cy,cz,cr,ct,rfl,bx,bz⟩:=(cm o I).t;simp only [go_sem,hF,T.O,T.a_ (k:=6) ae rfl,bx.J,bz.J,cj,ch,b1,b7,bV];refine au.aE ?_ ?_<;>intro q<;>simp only [go_sem,hF,q,cc]
     all_goals first
      |exact au.next () rfl trivial ay
      |exact au.stop rfl (by simp only [go_sem];exact an.stop rfl (b4 16 al _ _ _ _ bu))
   . intro s e bn hF;simp only [go_sem];exact an.mk ⟨rfl,ay⟩
 clear hF;rintro e _ ⟨rfl,hF⟩;refine ak.bF hF (λp e h=>Z h/\U H h/\ ∃aD,bd H.n 35 6 (1+j.length) h ([[.int .i64 af,.int .i64 aq,.str az aB,.str aA aC,aF,aG]]++j) aD/\aM 144 [(12,aD)] e/\p e) ?_ ?_
 . obtain ⟨bD,h,bm,Y,D⟩:=pq (n0:=H.n) (c:=1) (H:=aH) (rows:= [[.int .i64 af,.int .i64 aq,.str az aB,.str aA aC,aF,aG]]) (aQ:=j) (v:= .A [[.int .i64 af,.int .i64 aq,.str az aB,.str aA aC,aF,aG]] true) (x:=i) (.inr (.inl rfl)) bQ bu.n (λr u=>b0.wt r (by simp at u|-;simp [u])) E.cw bK da ab;have bq:=jc bp aH;subst w;simp only [go_sem,hF,E.O,bq,bH,bm,Y.O];exact an.mk ⟨D.tidy,D.up H (aT _) bu,bD,Y,ay⟩
 clear hF;rintro e b8 ⟨c1,cn,aD,bP,hF⟩;refine ak.kp [0,4,5,6] (λp e h=>Z h/\U H h/\cG h 6 aD ([[.int .i64 af,.int .i64 aq,.str az aB,.str aA aC,aF,aG]]++j)/\M e 3= .W 0 ba/\M e 12=aD/\p e) ?_ ?_
 . obtain ⟨bD,h,bm,Y,D,bO⟩:=aaZ (n0:=H.n) (c:=1+j.length) (H:=b8) (rows:= [[.int .i64 af,.int .i64 aq,.str az aB,.str aA aC,aF,aG]]++j) (aQ:= [[.int .i64 aW,.int .i64 aZ,.str V X,.str aX aY,bb,bc]]) (v:=aD) (x:= .A [[.int .i64 aW,.int .i64 aZ,.str V X,.str aX aY,bb,bc]] true) bP c1 cn.n b0.wt (.inl (.inr ⟨_,rfl⟩)) (λr u=>by rw [bs.1 u];exact aR) da da;have bq:=jc aR b8;have aU:=D.up H (aT _) cn;have bg:=cJ ad n ab ab z B bD h D.tidy (Y.cw λr u=>(bJ.wt r u).len);subst w;simp only [go_sem,hF,bP.O,bq,bH,bm,Y.O];rcases bg with bg|⟨bI,C,bg⟩
   . simp only [go_sem,bg];exact an.mk ⟨D.tidy,aU,bO,ay⟩
   . simp only [go_sem,bg];exact an.stop rfl (bN _ C _ _ aU)
 clear hF;rintro e aP ⟨b6,bw,bO,hF⟩;refine ak.kp [0,3,4,5,6] (λp e h=>aP=h/\p e) ?_ ?_
 . have bq:=jc aR aP;have bh:=cK ad n ab ab z B (.A [[.int .i64 aW,.int .i64 aZ,.str V X,.str aX aY,bb,bc]] true) aD aP b6 (.inl (.inr ⟨_,rfl⟩)) bO;subst w;simp only [go_sem,hF,bO.O,bq,bH];rcases bh with bh|⟨bI,C,bh⟩
   . simp only [go_sem,bh];exact an.mk ⟨rfl,ay⟩
   . simp only [go_sem,bh];exact an.stop rfl (bN _ C _ _ bw)
 clear hF;rintro e _ ⟨rfl,hF⟩;have cg:=b2.up y.1 bw;refine ak.bF hF (λp e h=>aP=h/\p e) ?_ ?_
 . subst w;simp only [go_sem,hF,E.O,E.len];generalize cf:a1 _ _ _ _ _ _ _ _ _ _=bf;revert bf;refine dA [0,3,4,5,6,124] (λ_=>True) j.length trivial ?_ ?_
   . intro cq s e bt bn hF;obtain ⟨o,ae⟩:=bA bt;have I:=aV ae;have bj:=cL ad n ab ab o I (.ptr id q 0 14) d z B a7 a8 4 1819242306 aP b6 cg;obtain ⟨cu,cv,bE,bG,b9,ca,cy,cz,cr,ct,rfl,bx,bz⟩:=(bK o I).t;simp only [go_sem,hF,E.O,E.a_ (k:=6) ae rfl,bx.J,bz.J];rcases bj with bj|⟨bI,C,bj⟩
     . simp only [go_sem,bj];exact au.next () rfl trivial ay
     . simp only [go_sem,bj];exact au.stop rfl (by simp only [go_sem];exact an.stop rfl (bN _ C _ _ bw))
   . intro s e bn hF;simp only [go_sem];exact an.mk ⟨rfl,ay⟩
 clear hF;rintro e _ ⟨rfl,hF⟩;have bk:=cM ad n ab ab (.ptr id q 0 14) d z B a7 a8 bR bS aP b6 cg;subst w;simp only [go_sem,hF];rcases bk with bk|⟨bI,C,bk⟩
 . simp only [go_sem,bk];exact ak.un y bw
 . simp only [go_sem,bk];exact ak.aK C (C.aI 17) y bw
end
def AI (f:Nat) (args:List aa) (ad n:Nat) (H:af) (P:Prop):Prop:=(P/\ ∀a,az G (X G R ad n) f args H a= .ok (.av []) a H)\/ ∃b,fA b/\ ∀a,az G (X G R ad n) f args H a= .aK b H
def FR (P:Prop) (v:aa):Prop:=v= .av []/\P
def Xz {f:Nat} {args:List aa} {ad n:Nat} {H:af} {P:Prop} (ag:(∃v,FR P v/\ ∀tm,az G (X G R ad n) f args H tm= .ok v tm H)\/(∃v,fA v/\ ∀tm,az G (X G R ad n) f args H tm= .aK v H)):AI f args ad n H P:=by
 rcases ag with ⟨v,⟨rfl,b⟩,a⟩|ag
 . exact .inl ⟨b,a⟩
 . exact .inr ag
@[go_sem] theorem ag0 (E:Env) (tm H t u w):gp E [.tmp t,.tmp u,.tmp w] tm H=(if aD (M tm t)&&(aD (M tm u)&&aD (M tm w)) then .ret (.av [M tm t,M tm u,M tm w]) H else .fail):=by simp only [gp,hU,lx];simp
def NN (v:aa):Prop:= ∃a b c ok,v= .av [.str a b,.bool c,.bool ok]
section
variable {ax:aa} {s:List aa} {ar aw rop ao aJ:Y} (ag:dO ax s ar aw rop ao aJ) {d:List aa} {req p aU u:Y} (aX:fz d s ar aw rop ao aJ req p aU u)
include ag aX
omit ag in
theorem Jl:bo λad n=> ∀c (l m:Nat) H,Z H->dP H c d ax-> ∃v,NN v/\ ∀tm,az G (X G R ad n) 131 [c,.str l m] H tm= .ok v tm H:=by
 refine ⟨p.length+aU.length+2,λad n cQ bO c l m H hw bp=> ?_⟩;obtain ⟨n,rfl⟩:=bY n;obtain ⟨id,g,adv,ro,rfl,ku,ks,Ir⟩:=bp;obtain ⟨so,be,op,cP,bJ,rfl,-⟩:=aX.bT.eq;have aeN:=aX.n1;obtain ⟨n3,e,o,rN,afJ,ag5,st,uG,rfl,-,he,b9,-,hm,bh,-,-⟩:=aX.eq;simp only [bl,a6] at ku;refine hg (aL.at (m:=43) rfl rfl rfl rfl rfl rfl rfl rfl ?_);have hF:=trivial;refine ak.kp [0,1] (λF tm H'=>H=H'/\F tm) ?_ ?_
 . simp only [go_sem];exact an.mk ⟨rfl,dC⟩
 rintro tm _ ⟨rfl,hF⟩;refine ak.kp [0,1] (λF tm H'=>H=H'/\F tm) ?_ ?_
 . simp only [go_sem,hF,ku,ks,b9.O,b9.len];generalize SA:a1 _ _ _ _ _ _ _ _ _ _=AG;revert AG;refine dA [0,1,15] (λ_=>True) p.length trivial ?_ ?_
   . intro j s tm gE p0 hF;obtain ⟨x,rB⟩:=bA gE;obtain ⟨Qk,cs,a,A9,Bo,rfl,⟨kY,Oy,rfl,-⟩,⟨a2,Oz,rfl,-⟩,Cb,⟨A9,rfl⟩,⟨Bo,rfl⟩⟩:=aX.b9 x (aV rB);obtain ⟨VV,wk,i1,i2,i3,i4,u,w,VU,kw,rfl,Cv,Cw⟩:=Cb.t;simp only [bl,a6] at rB;simp only [go_sem,hF,b9.O,b9.a_ (k:=10) rB rfl,Cv.J,Cw.J];refine au.aE ?_ ?_<;>intro g<;>simp only [go_sem,hF,g]
     all_goals first
      |exact au.next () rfl trivial ay
      |exact au.stop rfl (by simp only [go_sem];exact an.stop rfl (by simp only [go_sem,hF];exact ak.mk ⟨_,_,_,_,rfl⟩ rfl hw (U.refl _)))
   . intro s tm p0 hF;simp only [go_sem];exact an.mk ⟨rfl,ay⟩
 clear hF;rintro tm _ ⟨rfl,hF⟩;simp only [go_sem,hF,ku,ks,hm.O,hm.len];generalize SA:a1 _ _ _ _ _ _ _ _ _ _=AG;revert AG;refine dA [1,32] (λ_=>True) aU.length trivial ?_ ?_
 . intro j s tm gE p0 hF;obtain ⟨x,rB⟩:=bA gE;obtain ⟨Qk,cs,a,A9,Bo,rfl,⟨kY,Oy,rfl,-⟩,⟨a2,Oz,rfl,-⟩,Cb,⟨A9,rfl⟩,⟨Bo,rfl⟩⟩:=aX.hm x (aV rB);obtain ⟨VV,wk,i1,i2,i3,i4,u,w,VU,kw,rfl,Cv,Cw⟩:=Cb.t;simp only [bl,a6] at rB;simp only [go_sem,hF,hm.O,hm.a_ (k:=10) rB rfl,Cv.J,Cw.J];refine au.aE ?_ ?_<;>intro g<;>simp only [go_sem,hF,g]
   all_goals first
    |exact au.next () rfl trivial ay
    |exact au.stop rfl (by simp only [go_sem,hF];exact ak.mk ⟨_,_,_,_,rfl⟩ rfl hw (U.refl _))
 . intro s tm p0 hF;simp only [go_sem,hF];exact ak.mk ⟨_,_,_,_,rfl⟩ rfl hw (U.refl _)
end
def VQ {ax:aa} {s:List aa} {z y rop aX A:Y} (q:dO ax s z y rop aX A) {d:List aa} {req p bD u:Y} (aq:fz d s z y rop aX A req p bD u):
    bo λad n=> ∀c H,Z H->dP H c d ax->AI 67 [c] ad n H (∀r∈rop,∀l m args ls ms st,fB r l m args ls ms st->st≠ []->pt z y A ls ms=false):=by
 obtain ⟨bp,D⟩:=sm q;obtain ⟨bq,af⟩:=Jl aq;obtain ⟨br,E⟩:=gu 13 al;obtain ⟨bs,ag⟩:=gu 15 al;obtain ⟨bt,ah⟩:=gu 16 al;obtain ⟨bu,bb⟩:=dE (l:=rop) (Q:=λr ad n=> ∀l m args ls ms st,fB r l m args ls ms st-> ∀H a,Z H->az G (X G R ad n) 86 [ax,.str ls ms] H a= .ok (.bool (pt z y A ls ms)) a H) λr C=>by obtain ⟨l,m,args,ls,ms,st,aQ⟩:=q.bT.op r C;obtain ⟨bn,bg⟩:=Jg q ls ms;refine ⟨bn,λad n D af aS aU aF aT aW aY T H a i=> ?_⟩;obtain ⟨b,aC,s,aB,L,S,-⟩:=aQ.eq;obtain ⟨a8,bx,bE,bk,bm,v,-⟩:=T.eq;rw [S] at v;simp only [jn,aa.str.injEq] at v;obtain ⟨-,-,⟨rfl,rfl⟩,-⟩:=v;exact bg ad n D af H a i
 obtain ⟨a7,cn,cp,cq,cr,ct⟩:=q.val;refine ⟨bp+bq+br+bs+bt+bu+rop.length+2,λad n bP bQ c H i F=> ?_⟩;obtain ⟨n,rfl⟩:=bY n;have D:=λl m a=>D ad n ab ab (l,m) trivial H a i;have aO:=λl m=>af ad n ab ab c l m H i F;have E:=λl m b f a=>E ad n ab ab l m b f H a i;have ag:=λl m b f a=>ag ad n ab ab l m b f H a i;have ah:=λl m b f a=>ah ad n ab ab l m b f H a i;obtain ⟨id,j,bK,cf,rfl,h,o,bf⟩:=F;have bN:=dP.te (ax:=ax) bf;have bR:=aq.n1;have bU:=q.bT.n;have aw:=q.bT.op;have bd:=q;obtain ⟨bh,b2,cv,b7,cx,b5,cw,ao,-⟩:=q;obtain ⟨cm,bJ,cb,bL,cu,rfl,bW,bZ,t,b0,b1⟩:=bh.eq;obtain ⟨b9,S,ca,b6,b8,cg,st,cy,rfl,-,bO,aQ,⟨b3,b4,rfl,-⟩,I,C,⟨cj,cl,rfl,-⟩,⟨bH,bI,rfl,-⟩⟩:=aq.eq;simp only [bl,a6] at h ao;have bS:=bd.same;have N: ∀(aD:Prop) (c:Int) (F:c≠0) l m b f aZ,ak (FR aD) fA H (fin G [] (.aK (.iface 78 (.agg [.int .i64 c,.str l m,.int .i64 b,.int .i64 f])) aZ H [])):=λaD c F l m b f aZ=>by simp only [go_sem];exact ak.aK (lO c F _ _ _ _) rfl i (U.refl _)
 refine Xz (aL.at (m:=140) rfl rfl rfl rfl rfl rfl rfl rfl ?_);refine ak.bM (λa e=>H=e/\aM 141 [(0,.ptr id j 0 14),(2,.W 0 [.int .i64 0,.int .i64 0])] a) ?_ ?_
 . simp only [go_sem];exact an.mk ⟨rfl,dC⟩
 rintro a _ ⟨rfl,hF⟩;refine ak.bF hF (λg a e=>H=e/\g a) ?_ ?_
 . simp only [go_sem,hF,h,o,a7,D];refine an.aE ?_ ?_<;>intro j<;>simp only [go_sem,hF,j,h,o,E]
   . exact an.mk ⟨rfl,ay⟩
   . exact an.stop rfl (N _ 13 al _ _ _ _ _)
 clear hF;rintro a _ ⟨rfl,hF⟩;refine ak.bF hF (λg a e=>H=e/\g a) ?_ ?_
 . obtain ⟨bG,⟨b,f,bw,ok,rfl⟩,ae⟩:=aO bH bI;refine an.kp [0,2] (λg a e=>H=e/\(∃aG aH,M a 4= .bool aG/\M a 5= .bool aH/\g a)) ?_ ?_
   . simp only [go_sem,hF,h,o,ae];exact an.mk ⟨rfl,_,_,by simp only [go_sem,hF];trivial⟩
   clear hF;rintro a _ ⟨rfl,aG,aH,hF⟩;simp only [go_sem,hF]
   iterate 2 all_goals try (refine an.aE ?_ ?_<;>intro j<;>simp only [go_sem,hF,j,h,o,E])
   all_goals first
    |exact an.mk ⟨rfl,ay⟩
    |exact an.stop rfl (N _ 13 al _ _ _ _ _)
 clear hF;rintro a _ ⟨rfl,hF⟩;refine ak.bF hF (λg a e=>H=e/\g a) ?_ ?_
 . simp only [go_sem,hF,h,o,I.O,I.len];refine an.aE ?_ ?_<;>intro j<;>simp only [go_sem,hF,j,h,o,ag]
   all_goals first
    |exact an.mk ⟨rfl,ay⟩
    |exact an.stop rfl (N _ 15 al _ _ _ _ _)
 clear hF;rintro a _ ⟨rfl,hF⟩;refine ak.kp [0,2] (λg a e=>H=e/\(∃b f aI,M a 6= .str b f/\M a 8= .bool aI/\g a)) ?_ ?_
 . obtain ⟨bG,⟨b,f,bw,ok,rfl⟩,ae⟩:=aO 1 107;simp only [go_sem,hF,ae];exact an.mk ⟨rfl,_,_,_,by simp only [go_sem,hF];trivial⟩
 clear hF;rintro a _ ⟨rfl,ch,ck,aI,hF⟩;refine ak.kp [0,2] (λg a e=>H=e/\g a) ?_ ?_
 . simp only [go_sem,hF,h,o,ao,t.O,t.len];generalize bc:a1 _ _ _ _ _ _ _ _ _ _=V;revert V;refine dA [0,2,6,8,89] (λ_=>True) rop.length trivial ?_ ?_
   . intro L s a ar B hF;obtain ⟨P,x⟩:=bA ar;have bV:=(aw P (aV x)).len;obtain ⟨l,m,args,ls,ms,st,⟨⟨b,aC,s,aB,aR,rfl,aj,w,⟨bz,aA,-⟩⟩,-⟩⟩:=aw P (aV x);simp only [go_sem,hF,t.O,t.a_ (k:=7) x rfl,aj.J,w.J,aA.J,w.O,w.len]
     iterate 3 all_goals try (refine au.aE ?_ ?_<;>intro j<;>simp only [go_sem,hF,j,E])
     all_goals first
      |exact au.next () rfl trivial ay
      |exact au.stop rfl (by simp only [go_sem];exact an.stop rfl (N _ 13 al _ _ _ _ _))
   . intro s a B hF;simp only [go_sem];exact an.mk ⟨rfl,ay⟩
 clear hF;rintro a _ ⟨rfl,hF⟩;simp only [go_sem,hF,h,o,ao,t.O,t.len];generalize bc:a1 _ _ _ _ _ _ _ _ _ _=V;revert V;refine dA [0,2,117] (λL=> ∀r∈rop.take L,∀l m args ls ms st,fB r l m args ls ms st->st≠ []->pt z y A ls ms=false) rop.length ai ?_ ?_
 . intro L s a ar B hF;obtain ⟨P,x⟩:=bA ar;have I:=aV x;obtain ⟨l,m,args,ls,ms,st,av⟩:=aw P I;have ba:=λa=>bb ad n ab ab P I l m args ls ms st av H a i;have aP:(st≠ []->pt z y A ls ms=false)-> ∀r∈rop.take (L+1),∀l m args ls ms st,fB r l m args ls ms st->st≠ []->pt z y A ls ms=false:=λbj r C aS aU aF aT aW aY T K=>by
    rcases tT x C with C|rfl
    . exact B r C aS aU aF aT aW aY T K
    . obtain ⟨b,aC,s,aB,aR,S,cc,bB,-⟩:=av.eq;obtain ⟨a8,bx,bE,bk,bm,v,cd,bC,-⟩:=T.eq;rw [S] at v;simp only [jn,aa.str.injEq] at v;obtain ⟨-,-,⟨rfl,rfl⟩,-,-,-,rfl,-⟩:=v;rw [qe bC bB] at K;exact bj K
   obtain ⟨b,aC,s,aB,aR,rfl,aj,w,⟨bz,aA,-⟩⟩:=av.eq;simp only [go_sem,hF,t.O,t.a_ (k:=7) x rfl,aj.J,w.J,aA.J,w.O,w.len];refine au.aE ?_ ?_<;>intro aJ<;>simp only [go_sem,hF,aJ,h,o,a7,ba]
   all_goals try (refine au.aE ?_ ?_<;>intro aN<;>simp only [go_sem,hF,aN,ah])
   all_goals first
    |exact au.stop rfl (by simp only [go_sem];exact N _ 16 al _ _ _ _ _)
    |exact au.next () rfl (aP λ_=>aN) ay
    |exact au.next () rfl (aP λK=>absurd aJ (by cases st<;>simp at K|-)) ay
 . intro s a B hF;rw [bX] at B;simp only [go_sem];exact ak.mk ⟨rfl,B⟩ rfl i (U.refl _)
def dQ (r:List aa):List aa:=(r.drop 2).take 6
def sQ (r:List aa):List aa:= [M r 0]
def iz.row {r} (d:iz r):r.length=10/\ ∀v∈r,J v=true/\D 20 v=true:=by
 obtain ⟨k,l,f,b,c,rfl,⟨g,i,rfl,-⟩,⟨h,j,rfl,-⟩,e,⟨b,rfl⟩,⟨c,rfl⟩⟩:=d;have:=e.row;refine ⟨by simp [this.1],λv a=> ?_⟩;simp only [bl,a6,b2,cr,dG,or_false] at a;rcases a with rfl|rfl|a|rfl|rfl
 . exact ⟨rfl,rfl⟩
 . exact ⟨rfl,rfl⟩
 . exact this.2 v a
 . exact ⟨rfl,rfl⟩
 . exact ⟨rfl,rfl⟩
theorem qK {rows:Y} (a:b8 rows): ∀r∈rows,r.length=1:=λr b=>by obtain ⟨c,d,rfl,-⟩:=a r b;rfl
def A3 {y z:aa} {ky i:Y} (a:F y ky) (b:F z i) (H:af):cT G 230 2 [(0,y),(1,z)] H=some (.A [[y],[z]] true,H):=by
 have:=uX (E:=G) (t:=230) (el:=28) (k:=1) (H:=H) (z:= .V) aq aq aq al rfl al y z a.rk b.rk;rw [a.cells,b.cells] at this;exact this
def Vb {ax:aa} {s:List aa} {bE bC rop bD bG:Y} (ar:dO ax s bE bC rop bD bG) {d:List aa} {req p o u:Y} (aB:fz d s bE bC rop bD bG req p o u)
    {N:Nat} (hT:bL ((p++o).map dQ) N) (hN:N<100000):
    bo λad n=> ∀c H,Z H->dP H c d ax->fK 66 [c] ad n H:=by
 have c1:=aB.n1;have a7: ∀e∈p++o,iz e:=λe r=>(cr.1 r).elim (aB.b9 e) (aB.hm e);have cY:(p++o).length<1048560:=uF;have aG: ∀e∈p++o,bL [dQ e] N:=λe r=>hT.one (cd.2 ⟨e,r,rfl⟩);obtain ⟨cA,aS⟩:=sm ar;obtain ⟨cC,aU⟩:=gu 13 al;obtain ⟨cD,aW⟩:=gu 14 al;obtain ⟨cE,aX⟩:=gu 17 al;obtain ⟨cF,b1⟩:=dE (l:=p++o) (Q:=λe ad n=> ∀w c d (h i:Int) (f g:Nat) H,Z H->dP H c d ax->cG H 6 w [dQ e]->fK 123 [c,.agg [.int .i64 h,.int .i64 i],.str f g,w] ad n H) λe r=>wb ar [dQ e] (aG e r).wt ai;obtain ⟨cH,b2⟩:=dE (l:=p++o) (Q:=λe ad n=> ∀c d (h i:Int) (f g bh bj:Nat) H,Z H->dP H c d ax->fK 128 [c,.agg [.int .i64 h,.int .i64 i],.str f g,.agg (dQ e),.str bh bj] ad n H) λe r=>tM ar ((aG e r).wt _ (bs.2 rfl));obtain ⟨cI,b3⟩:=dE (l:=p++o) (Q:=λe ad n=> ∀w H,Z H->cG H 6 w [dQ e]-> ∃z,uO N z/\ ∀a,az G (X G R ad n) 130 [w] H a= .ok z a H) λe r=>JA [dQ e] N ab (aG e r);obtain ⟨cJ,b4⟩:=oZ 1048560 al;have cU:=aB;obtain ⟨c8,cR,bA,c4,bz,dg,dj,dt,ck,-,cV,bb,-,ba,r,-,-⟩:=aB.eq;have aH: [p,o].flatten=p++o:=ai;obtain ⟨cB,bq⟩:=(Ds (.A [[bA],[bz]] true) [[bA],[bz]] [p,o] (.inr ⟨_,rfl⟩) (wG bb ba) rfl ai (by rw [aH];exact λe r=>(a7 e r).row) (by rw [aH];unfold b7;omega) (by rw [aH];omega)).val;rw [aH] at bq;obtain ⟨cM,dk,dm,dn,dp,dq⟩:=ar.val;have c2:=ar.same;refine ⟨cA+cC+cD+cE+cF+cH+cI+cJ+cB+(p++o).length+N+2,λad n cX c0 c H v aA=> ?_⟩;obtain ⟨n,rfl⟩:=bY n;have aS:=λf g H v a=>aS ad n ab ab (f,g) trivial H a v;have aU:=λf g h i H v a=>aU ad n ab ab f g h i H a v;have aW:=λf g h i H v a=>aW ad n ab ab f g h i H a v;have aX:=λf g h i H v a=>aX ad n ab ab f g h i H a v;have cf:=aA;obtain ⟨id,K,cP,de,rfl,aJ,ch,cg⟩:=aA;have cb:=dP.te (ax:=ax) cg;obtain ⟨bI,aN,bP⟩:=bq ad n ab ab H v;have cc:=A3 bb ba H;have cW:=aJ;obtain ⟨dh,cO,db,cS,dr,rfl,-⟩:=ar.bT.eq;rw [ck] at aJ;simp only [bl,a6] at aJ;have bk: ∀(c:Int) (aA:c≠0) f g h i aD j,U H j->ak lL fA H (fin G [] (.aK (.iface 78 (.agg [.int .i64 c,.str f g,.int .i64 h,.int .i64 i])) aD j [])):=λc aA f g h i aD j bf=>by simp only [go_sem];exact ak.aK (lO c aA _ _ _ _) rfl v bf
 have bB: ∀z,fA z-> ∀aD j,U H j->ak lL fA H (fin G [] (.aK z aD j [])):=λz D aD j bf=>by simp only [go_sem];exact ak.aK D (D.aI 17) v bf
 refine o6 (aL.at (m:=89) rfl rfl rfl rfl rfl rfl rfl rfl ?_);simp only [go_sem,aJ,ch,bb.O,ba.O,cc,bH,bP,aN.O,aN.len];have hF:=trivial;generalize b6:a1 _ _ _ _ _ _ _ _ _ _=aR;revert aR;refine cv [0,19] (λs=> [(2,s.1)]) (λs=>s.2) (λL s=>bd H.n 9 1 L s.2 (((p++o).take L).map sQ) s.1/\Z s.2/\U H s.2) (p++o).length (.V,H) ⟨bd.nil,v,U.refl _⟩ ?_ ?_
 . rintro L ⟨z,q⟩ a cn ⟨D,E,y⟩ hF;simp only at D E y hF|-;obtain ⟨w,aO⟩: ∃e,(p++o)[L]? =some e:=⟨(p++o)[L],by simp only [lj cn]⟩;have aC:=aV aO;have bc:b8 (((p++o).take L).map sQ):=λe r=>by obtain ⟨cN,cz,rfl⟩:=cd.1 r;obtain ⟨bK,bN,bJ,F,I,rfl,⟨B,C,rfl,bw⟩,-⟩:=a7 cN (hQ cz);exact ⟨B,C,rfl,bw⟩
   have ct:=D.cw (qK bc);have aZ:=cf.up v.1 y;have M:=λw h i f g=>b1 ad n ab ab _ aC w (.ptr id K 0 14) d h i f g q E aZ;have P:=λh i f g bh bj=>b2 ad n ab ab _ aC (.ptr id K 0 14) d h i f g bh bj q E aZ;have aF:=λw=>b3 ad n ab ab _ aC w q E;have bU:=λf g=>b4 ad n ab ab z _ f g q bc da E ct;have bO:=λf g a=>aS f g q E a;have bQ:=λf g h i a=>aU f g h i q E a;have bR:=λf g h i a=>aW f g h i q E a;have bS:=λf g h i a=>aX f g h i q E a;have cu:=(aG w aC).wt _ (bs.2 rfl);have aY:=jc cu q;obtain ⟨c3,cT,cQ,df,bZ,cm,cj,-⟩:=aZ;cases bZ;have bp:((p++o).take (L+1)).map sQ=((p++o).take L).map sQ++ [sQ w]:=by rw [fg,aO];simp
   obtain ⟨bK,bN,bJ,F,I,rfl,⟨B,C,rfl,bw⟩,⟨av,aw,rfl,-⟩,b5,⟨F,rfl⟩,⟨I,rfl⟩⟩:=a7 w aC;obtain ⟨aj,ao,ae,af,ag,ah,aq,S,c6,c5,rfl,cy,cx⟩:=b5.t;simp only [bl,a6] at aO;have bV:dQ ([.str B C,.str av aw]++ [.int .i64 aj,.int .i64 ao,.str ae af,.str ag ah,aq,S]++ [.int .i64 F,.int .i64 I])= [.int .i64 aj,.int .i64 ao,.str ae af,.str ag ah,aq,S]:=rfl;rw [bV] at M P aF aY;have bW:sQ ([.str B C,.str av aw]++ [.int .i64 aj,.int .i64 ao,.str ae af,.str ag ah,aq,S]++ [.int .i64 F,.int .i64 I])= [.str B C]:=rfl;rw [bW] at bp;refine au.bM (λa j=>q=j/\ ∃bm,aM 90 [(21,.int .i64 (L:Nat)),(20,.int .i64 ((p++o).length:Nat)),(0,.ptr id K 0 14),(2,z),(19,bI),(4,.W bm [.str B C,.str av aw,.int .i64 aj,.int .i64 ao,.str ae af,.str ag ah,aq,S,.int .i64 F,.int .i64 I])] a) ?_ ?_
   . simp only [go_sem,hF,aN.O,aN.a_ (k:=10) aO rfl,cy.J,cx.J];exact an.mk ⟨rfl,_,by simp only [go_sem,hF];trivial⟩
   clear hF;rintro a _ ⟨rfl,bm,hF⟩;refine au.bF hF (λT a j=>q=j/\ ∃bn,aM 90 [(5,.W bn [.int .i64 F,.int .i64 I])] a/\T a) ?_ ?_
   . simp only [go_sem,hF];exact an.mk ⟨rfl,_,by simp only [go_sem,hF];trivial⟩
   clear hF;rintro a _ ⟨rfl,bn,hF⟩;refine au.bM (λa j=>q=j/\aM 90 [(21,.int .i64 (L:Nat)),(20,.int .i64 ((p++o).length:Nat)),(0,.ptr id K 0 14),(2,z),(19,bI),(4,.W bm [.str B C,.str av aw,.int .i64 aj,.int .i64 ao,.str ae af,.str ag ah,aq,S,.int .i64 F,.int .i64 I]),(5,.W bn [.int .i64 F,.int .i64 I])] a) ?_ ?_
   . simp only [go_sem,hF,D.O,bU];refine an.aE ?_ ?_<;>intro K<;>simp only [go_sem,hF,K,bR]
     . exact an.stop rfl (bk 14 al _ _ _ _ _ _ y)
     simp only [go_sem,hF,cm,cj,cb,cM,bO];refine an.aE ?_ ?_<;>intro K<;>simp only [go_sem,hF,K,bQ]
     . exact an.mk ⟨rfl,ay⟩
     . exact an.stop rfl (bk 13 al _ _ _ _ _ _ y)
   clear hF;rintro a _ ⟨rfl,hF⟩;refine au.bF hF (λT a j=>q=j/\T a) ?_ ?_
   . have M:=M (.A [[.int .i64 aj,.int .i64 ao,.str ae af,.str ag ah,aq,S]] true) F I B C (.inl (.inr ⟨_,rfl⟩));simp only [go_sem,hF,aY,bH];rcases M with M|⟨b0,a8,M⟩
     . simp only [go_sem,M];exact an.mk ⟨rfl,ay⟩
     . simp only [go_sem,M];exact an.stop rfl (bB _ a8 _ _ y)
   clear hF;rintro a _ ⟨rfl,hF⟩;refine au.bF hF (λT a j=>q=j/\T a) ?_ ?_
   . have P:=P F I B C av aw;simp only [go_sem,hF];rcases P with P|⟨b0,a8,P⟩
     . simp only [go_sem,P];exact an.mk ⟨rfl,ay⟩
     . simp only [go_sem,P];exact an.stop rfl (bB _ a8 _ _ y)
   clear hF;rintro a _ ⟨rfl,hF⟩;refine au.bF hF (λT a j=>q=j/\T a) ?_ ?_
   . obtain ⟨ds,⟨bg,aP,c9,c7⟩,aF⟩:=aF (.A [[.int .i64 aj,.int .i64 ao,.str ae af,.str ag ah,aq,S]] true) (.inl (.inr ⟨_,rfl⟩));simp only [go_sem,hF,aY,bH,aF,aP.O,aP.len];generalize b6:a1 _ _ _ _ _ _ _ _ _ _=aR;revert aR;refine dA [21,20,0,2,19,4,5,72] (λ_=>True) (bg.map iu).length trivial (hlf:=da) (hN:=da) ?_ ?_
     . intro bx cK a cp ca hF;obtain ⟨e,bt⟩: ∃e,(bg.map iu)[bx]? =some e:=⟨(bg.map iu)[bx],by simp only [lj cp]⟩;obtain ⟨⟨dc,dd⟩,cZ,rfl⟩:=cd.1 (aV bt);simp only [go_sem,hF,aP.O,aP.a_ (k:=1) bt rfl,iu];refine au.aE ?_ ?_<;>intro K<;>simp only [go_sem,hF,K,bS]
       all_goals first
        |exact au.next () rfl trivial ay
        |exact au.stop rfl (by simp only [go_sem];exact an.stop rfl (bk 17 al _ _ _ _ _ _ y))
     . intro cK a ca hF;simp only [go_sem];exact an.mk ⟨rfl,ay⟩
   clear hF;rintro a _ ⟨rfl,hF⟩;obtain ⟨cL,j,bX,bu,br⟩:=D.app (x:= .A [[.str B C]] true) (b:=16) (k:=1) oe nI rfl rfl al al E y.n bc.rows (aQ:= [[.str B C]]) rfl (λS cq=>by rw [bs.1 cq];exact ⟨rfl,λz D=>by rw [bs.1 D];exact ⟨rfl,rfl⟩⟩)
    (by simp only [di,h6,cl,h5];unfold b7;omega) og
   simp only [go_sem,hF,D.O,bu.O,bX];exact au.next (cL,j) rfl ⟨by rw [bp];exact bu,br.tidy,br.up H (aT _) y⟩ ay
 . rintro ⟨z,q⟩ a ⟨D,E,y⟩ hF;simp only at y|-;simp only [go_sem];exact ak.un v y
def aN.same {r} (a:aN r):eu r r=true:=by
 induction a with
 | mk a _ _ f g=>
   obtain ⟨rfl,d,e⟩:=a.c;refine m5 _ λh b=> ?_;simp only [b2,dG,or_false] at b;rcases b with rfl|rfl|rfl|rfl|rfl|rfl
   . exact wJ _ _
   . exact wJ _ _
   . exact r8 _ _
   . exact r8 _ _
   . exact d.same f
   . exact e.same g
def lG.row {r} (e:lG r):r.length=11/\ ∀v∈r,J v=true/\D 20 v=true:=by
 obtain ⟨n,o,g,l,c,d,rfl,⟨h,j,rfl,-⟩,⟨i,k,rfl,-⟩,f,⟨m,b,-⟩,⟨c,rfl⟩,⟨d,rfl⟩⟩:=e;have:=f.row;refine ⟨by simp [this.1],λv a=> ?_⟩;simp only [bl,a6,b2,cr,dG,or_false] at a;rcases a with rfl|rfl|a|rfl|rfl|rfl
 . exact ⟨rfl,rfl⟩
 . exact ⟨rfl,rfl⟩
 . exact this.2 v a
 . exact ⟨b.J,b.aI 19⟩
 . exact ⟨rfl,rfl⟩
 . exact ⟨rfl,rfl⟩
def dd (r:List aa):List aa:=(r.drop 2).take 6
def cu (r:List aa):Y:=f (M r 8)
abbrev Ye (H:af):aa:= .fn (.func 196) [] [.ptr H.n (q 85) 0 11]
def Es (x y:List aa):Bool:=match x,y with
 | .str a e:: .str c d::_,.str b f:: .str Gr Qw::_=>(a==b&&e==f)&&(c==Gr&&d==Qw)
 |_,_=>false
def Yf (x y:List aa) (k:lG x) (l:lG y) (ad n:Nat) (H:af) (j:Z H) (a:H.get (H.n-1)=some (.cells (q 85) (q 85) 0 x)) (tm:List aa):
    az G (X G R ad (n+1)) 196 [.agg y,.ptr (H.n-1) (q 85) 0 11] H tm= .ok (.bool (Es y x)) tm H:=by
 obtain ⟨al,av,r,K,c,d,rfl,⟨u,A,rfl,-⟩,⟨v,B,rfl,-⟩,g,⟨P,E,-⟩,⟨c,rfl⟩,⟨d,rfl⟩⟩:=k;obtain ⟨an,aw,s,W,e,f,rfl,⟨w,C,rfl,-⟩,⟨z,D,rfl,-⟩,h,⟨ae,i,-⟩,⟨e,rfl⟩,⟨f,rfl⟩⟩:=l;obtain ⟨ai,ao,L,M,N,O,ax,ar,ag,Y,rfl,I,F⟩:=g.t;obtain ⟨aj,aq,Q,S,T,V,ay,au,ah,ab,rfl,p,o⟩:=h.t;refine fa (aL.at (m:=14) (rs:= [.tmp 3]) rfl rfl rfl rfl rfl rfl rfl rfl ?_) tm;simp only [bl,a6] at a|-;simp only [go_sem,a,p.J,o.J,i.J];refine ak.aE ?_ ?_<;>intro b<;>simp only [go_sem,b,a]
 all_goals exact ak.mk (by simp [Es,b]) rfl j (U.refl _)
def VE {ax:aa} {s:List aa} {bE bC rop bD bG:Y} (af:dO ax s bE bC rop bD bG) {d:List aa} {req p cO u:Y} (cj:fz d s bE bC rop bD bG req p cO u)
    {x:List aa} (aZ:lG x) {N:Nat} (hT:bL (dd x::cu x) N) (hN:N<100000):
    bo λad n=> ∀c X S H,Z H->dP H c d ax->F X S->(∀y∈S,lG y)->S.length<ad->S.length<1048560->fK 132 [c,.agg x,X] ad n H:=by
 obtain ⟨de,dj,z,aj,K,P,rfl,⟨L,R,rfl,-⟩,⟨aG,aH,rfl,-⟩,ag,⟨r,E,bw,-⟩,⟨j,rfl⟩,⟨k,rfl⟩⟩:=id aZ;have bQ:dd ([.str L R,.str aG aH]++z++ [aj,.int .i64 j,.int .i64 k])=z:=by unfold dd;rw [fu,qh ai];simp [ag.len]
 have bR:cu ([.str L R,.str aG aH]++z++ [aj,.int .i64 j,.int .i64 k])=r:=by obtain ⟨bj,bn,bd,bf,bg,bh,bq,bp,bB,cJ,aA,-,-⟩:=ag.ea;obtain ⟨rfl,-⟩:=aA;exact bm E
 rw [bQ,bR] at hT;have cq:=hT.len;simp only [cl] at cq;obtain ⟨b7,cZ⟩:=hT.g_ (dF ..);obtain ⟨cB,bZ⟩:=Jl (ax:=ax) cj;obtain ⟨cC,b0⟩:=(Je af b7 ab).bW;obtain ⟨cD,b1⟩:=wb af r bw ab;obtain ⟨cE,b2⟩:=dE (l:=z::r) (Q:=λh ad n=> ∀c d (K P:Int) (f g cK cL:Nat) H,Z H->dP H c d ax->fK 128 [c,.agg [.int .i64 K,.int .i64 P],.str f g,.agg h,.str cK cL] ad n H) λh av=>tM af (hT.wt h av);obtain ⟨cF,b3⟩:=gu 13 al;obtain ⟨cG,b4⟩:=gu 15 al;obtain ⟨cH,b5⟩:=gu 14 al;obtain ⟨cI,b6⟩:=gu 16 al;obtain ⟨cQ,dm,dn,dp,dq,dr⟩:=af.val;have c7:=af.same;have b8:=wI (LW ag.same);refine ⟨cB+cC+cD+cE+cF+cG+cH+cI+r.length+5,λad n c5 c6 c X S H I T aS bu cc c1=> ?_⟩;obtain ⟨n,rfl⟩: ∃cM,n=cM+4:=⟨n-4,ab⟩;have bb:=aZ.row;generalize a8: [.str L R,.str aG aH]++z++ [aj,.int .i64 j,.int .i64 k]=x at*;have o:Z (H.push (.cells (q 85) (q 85) 0 x)):=I.push (ba.2 λw V=>fR _ 20 20 w al (bb.2 w V).2);have B:U H (H.push (.cells (q 85) (q 85) 0 x)):=(U.refl H).push _;generalize aR:H.push (.cells (q 85) (q 85) 0 x)=e at*;have bx:e.n=H.n+1:=by rw [<-aR];rfl
 have i:e.get H.n=some (.cells (q 85) (q 85) 0 x):=by rw [<-aR];exact dL _ _
 have aU:=T.up I.1 B;have aJ:=λf g=>bZ ad (n+3) ab ab c f g e o aU;obtain ⟨cT,br⟩:=b0 ad (n+3) ab ab e o;have D:=λf g=>b1 ad (n+3) ab ab aj c d j k f g e o aU E.cw;have bK:=λf g a=>b3 ad (n+3) ab ab f g j k e a o;have bN:=λf g a=>b4 ad (n+3) ab ab f g j k e a o;have bO:=λf g a=>b5 ad (n+3) ab ab f g j k e a o;have bP:=λf g a=>b6 ad (n+3) ab ab f g j k e a o;have ch:=I8 X (Ye H) S (λy=>Es y x) aS (λy bc=>(bu y bc).row.1) ab rfl (λ_=>rfl) ad (n+1) cc e o (λy bc a=>by simp only [eg,a6,bl];have:=Yf x y aZ (bu y bc) ad n e o (by rw [bx,tD];exact i) a;rw [bx,tD] at this;exact this);have cd:=T;obtain ⟨id,aP,cX,dh,rfl,c3,c2,ck⟩:=T;have cb:=dP.te (ax:=ax) ck;have cf:=aU;obtain ⟨c9,bs,cY,di,bT,cn,cm,-⟩:=cf;cases bT;have bt:=jc ag e;obtain ⟨bj,bn,bd,bf,bg,bh,bq,bp,bB,cJ,aA,-,-⟩:=ag.ea;have aq:=aA.eq;obtain ⟨-,-,-,-,-,bz,c8,-,-⟩:=aA;have aB: ∀(c:Int) (T:c≠0) f g K P ao b,U H b->ak lL fA H (fin G [] (.aK (.iface 78 (.agg [.int .i64 c,.str f g,.int .i64 K,.int .i64 P])) ao b [])):=λc T f g K P ao b aX=>by simp only [go_sem];exact ak.aK (lO c T _ _ _ _) rfl I aX
 have cN: ∀w,fA w-> ∀ao b,U H b->ak lL fA H (fin G [] (.aK w ao b [])):=λw V ao b aX=>by simp only [go_sem];exact ak.aK V (V.aI 17) I aX
 refine o6 (aL.at (m:=92) rfl rfl rfl rfl rfl (by simp only [aO,aS.aD];rfl) rfl rfl ?_);have hF:=trivial;refine ak.kp [0,2,6] (λC a b=>e=b/\M a 4= .ptr H.n (q 85) 0 11/\C a) ?_ ?_
 . have ca:x.all J=true:=ba.2 λw V=>(bb.2 w V).1;have cz:=bb.1;simp only [go_sem,ca,cz,aR];exact an.mk ⟨rfl,dC⟩
 rintro a _ ⟨rfl,hF⟩;rw [aq] at a8;simp only [bl,a6] at a8;rw [<-a8] at i;rw [aq] at b8 br bt;refine ak.bM (λa b=>e=b/\aM 95 [(0,.ptr id aP 0 14),(4,.ptr H.n (q 85) 0 11),(2,X),(6,.W 0 [.int .i64 j,.int .i64 k])] a) ?_ ?_
 . simp only [go_sem,hF,i];exact an.mk ⟨rfl,ay⟩
 clear hF;rintro a _ ⟨rfl,hF⟩;refine ak.bF hF (λC a b=>e=b/\ ∃aC aF bk ok,aM 95 [(7,.str aC aF),(8,.bool bk),(9,.bool ok)] a/\C a) ?_ ?_
 . obtain ⟨w,⟨K,P,bk,ok,rfl⟩,aJ⟩:=aJ L R;simp only [go_sem,hF,i,aJ];exact an.mk ⟨rfl,_,_,_,_,by simp only [go_sem,hF];trivial⟩
 clear hF;rintro a _ ⟨rfl,aC,aF,bk,ok,hF⟩;refine ak.bM (λa b=>e=b/\aM 95 [(0,.ptr id aP 0 14),(4,.ptr H.n (q 85) 0 11),(6,.W 0 [.int .i64 j,.int .i64 k]),(7,.str aC aF)] a) ?_ ?_
 . simp only [go_sem,hF];refine an.aE ?_ ?_<;>intro bs<;>simp only [go_sem,hF,bs,i,bK]
   all_goals try exact an.stop rfl (aB 13 al _ _ _ _ _ _ B)
   refine an.aE ?_ ?_<;>intro bV<;>simp only [go_sem,hF,bV,i,bN]
   all_goals try exact an.stop rfl (aB 15 al _ _ _ _ _ _ B)
   simp only [go_sem,hF,aS.O,ch];refine an.aE ?_ ?_<;>intro bX<;>simp only [go_sem,hF,bX,i,bO]
   all_goals try exact an.stop rfl (aB 14 al _ _ _ _ _ _ B)
   simp only [go_sem,hF,cn,cm,cb,cQ,i,br]
   iterate 3 all_goals try (refine an.aE ?_ ?_<;>intro bY<;>simp only [go_sem,hF,bY,i,E.O,E.len,bP])
   all_goals first
    |exact an.stop rfl (aB 16 al _ _ _ _ _ _ B)
    |exact an.mk ⟨rfl,ay⟩
 clear hF;rintro a _ ⟨rfl,hF⟩;refine ak.bF hF (λC a b=>e=b/\C a) ?_ ?_
 . have D:=D L R;simp only [go_sem,hF,i,E.O];rcases D with D|⟨bU,ar,D⟩
   . simp only [go_sem,D];exact an.mk ⟨rfl,ay⟩
   . simp only [go_sem,D];exact an.stop rfl (cN _ ar _ _ B)
 clear hF;rintro a _ ⟨rfl,hF⟩;have az: ∀h∈ [z]++r,aN h:=hT.wt;rw [aq] at az;obtain ⟨cP,b,bS,cx,aW⟩:=pq (n0:=H.n) (c:=1) (H:=e) (rows:= [[.int .i64 bj,.int .i64 bn,.str bd bf,.str bg bh,bq,bp]]) (aQ:=r) (v:= .A [[.int .i64 bj,.int .i64 bn,.str bd bf,.str bg bh,bq,bp]] true) (x:=aj) (.inr (.inl rfl)) o B.n (λh ah=>az h (hP _ ah)) E.cw bw da ab;have aY:=aW.up H (aT _) B;have aw:=cx.cw (λh ah=>(az h ah).len);have cg:=cd.up I.1 aY;have cp:=aW.other _ _ i (by simp [cW]);refine ak.bF hF (λC a bI=>b=bI/\aM 95 [(81,cP),(82,.int .i64 ((r.length+1:Nat):Int)),(83,.int .i64 0)] a/\C a) ?_ ?_
 . simp only [go_sem,hF,i,bt,bH,E.O,bS,aw.O,aw.len];exact an.mk ⟨rfl,ay⟩
 clear hF;rintro a _ ⟨rfl,hF⟩;simp only [go_sem];generalize c0:a1 _ _ _ _ _ _ _ _ _ _=bJ;revert bJ;refine dA [0,4,6,7,81] (λ_=>True) (r.length+1) trivial ?_ ?_
 . intro bA s a c4 b9 hF;obtain ⟨x,a7⟩: ∃h,([z]++r)[bA]? =some h:=⟨([z]++r)[bA]'da,ai⟩;have av:=aV a7;have ae:=b2 ad (n+3) ab ab x av (.ptr id aP 0 14) d j k L R aC aF b aW.tidy cg;have cy:=hT.wt x av;rw [aq] at a7;obtain ⟨dg,cr,ct,cv,-⟩:=aw.at (λh ah=>(az h ah).len) a7;obtain ⟨dc,df,cR,cU,cS,cV,dk,ds,bB,db,rfl,bz,cA⟩:=cy.t;simp only [go_sem,hF,aw.O,cr,ct,cv,bz.J,cA.J,cp];rcases ae with ae|⟨bU,ar,ae⟩
   . simp only [go_sem,ae];exact au.next () rfl trivial ay
   . simp only [go_sem,ae];exact au.stop rfl (by simp only [go_sem];exact ak.aK ar (ar.aI 17) I aY)
 . intro s a b9 hF;simp only [go_sem];exact ak.un I aY
def KL (l m:Nat) (y:List aa):Bool:=match y with
 |_:: .str a b::_=>a==l&&b==m
 |_=>false
def Wr (y:List aa) (g:lG y) (l m ad n:Nat) (H:af) (f:Z H) (id:Nat) (d:H.get id=some (.cells (q 9) (q 9) 0 [.str l m])) (tm:List aa):
    az G (X G R ad (n+1)) 198 [.agg y,.ptr id (q 9) 0 1] H tm= .ok (.bool (KL l m y)) tm H:=by
 obtain ⟨D,I,j,x,a,b,rfl,⟨k,p,rfl,-⟩,⟨o,r,rfl,-⟩,c,⟨A,e,-⟩,⟨a,rfl⟩,⟨b,rfl⟩⟩:=g;obtain ⟨C,E,s,u,v,w,K,F,B,z,rfl,i,h⟩:=c.t;refine fa (aL.at (m:=6) (rs:= [.tmp 3]) rfl rfl rfl rfl rfl rfl rfl rfl ?_) tm;simp only [bl,a6];simp only [go_sem,d,i.J,h.J,e.J];exact ak.mk rfl rfl f (U.refl _)
def cC (r:List aa):Y:=f (M r 0)
def VC {ax:aa} {s:List aa} {bx bu rop bw bz:Y} (aP:dO ax s bx bu rop bw bz) {d:List aa} {req p aj u:Y} (aS:fz d s bx bu rop bw bz req p aj u)
    {r:List aa} (x:lI r):bo λad n=> ∀c (F I:Int) H,Z H->dP H c d ax->fK 135 [c,.agg [.int .i64 F,.int .i64 I],.agg r] ad n H:=by
 obtain ⟨c7,br,b5,ct,bB,M,N,rfl,⟨aG,aH,rfl,-⟩,⟨cp,aX,bf,cJ⟩,⟨cQ,bV,-,-⟩,⟨E,D,a7,cL⟩,⟨aJ,y,aA,cB⟩,⟨cf,rfl⟩,⟨ch,rfl⟩⟩:=x;have cH:=aS.n1;have bh: ∀b∈(E.map cC).flatten,aN b:=λb z=>by obtain ⟨g,bY,z⟩:=kD.1 z;obtain ⟨r,x,rfl⟩:=cd.1 bY;obtain ⟨c,rfl,⟨cq,aQ,aR,-⟩⟩:=a7 r x;rw [show cC [c]=cq from bm aQ] at z;exact aR b z
 obtain ⟨b6,aQ⟩:=dE (l:=(E.map cC).flatten) (Q:=λb ad n=> ∀v c d (M N:Int) (g o:Nat) H,Z H->dP H c d ax->cG H 6 v [b]->fK 123 [c,.agg [.int .i64 M,.int .i64 N],.str g o,v] ad n H) λb z=>wb aP [b] (λv b2=>by rw [bs.1 b2];exact bh b z) ai;obtain ⟨b7,aR⟩:=dE (l:=(E.map cC).flatten) (Q:=λr ad n=> ∀c d (M N:Int) (g o cc bq:Nat) H,Z H->dP H c d ax->fK 128 [c,.agg [.int .i64 M,.int .i64 N],.str g o,.agg r,.str cc bq] ad n H) λb z=>tM aP (bh b z);obtain ⟨b8,bK⟩:=gu 15 al;obtain ⟨b9,bL⟩:=gu 13 al;obtain ⟨ca,bN⟩:=gu 14 al;obtain ⟨cb,bO⟩:=oZ 1048560 al;refine ⟨b6+b7+b8+b9+ca+cb+1048570,λad n cE cF c F I H R af=> ?_⟩;obtain ⟨n,rfl⟩: ∃cn,n=cn+4:=⟨n-4,ab⟩;have bb:=af;obtain ⟨id,aO,cx,de,rfl,ag,aT,cA⟩:=af;obtain ⟨dg,cu,dc,cz,dj,rfl,-⟩:=aP.bT.eq;obtain ⟨c8,cy,db,cR,c2,df,dh,dk,bU,-,cD,cI,⟨cS,cT,rfl,-⟩,aB,cK,-,-⟩:=aS.eq;rw [bU] at ag;simp only [bl,a6] at ag;have a8: ∀(c:Int) (af:c≠0) g o M N ao e,U H e->ak lL fA H (fin G [] (.aK (.iface 78 (.agg [.int .i64 c,.str g o,.int .i64 M,.int .i64 N])) ao e [])):=λc af g o M N ao e aZ=>by simp only [go_sem];exact ak.aK (lO c af _ _ _ _) rfl R aZ
 have bt: ∀ba,fA ba-> ∀ao e,U H e->ak lL fA H (fin G [] (.aK ba ao e [])):=λba bn ao e aZ=>by simp only [go_sem];exact ak.aK bn (bn.aI 17) R aZ
 refine o6 (aL.at (m:=116) rfl rfl rfl rfl rfl rfl rfl rfl ?_);refine ak.bM (λa e=>H=e/\aM 119 [(0,.ptr id aO 0 14),(4,.W 0 [.int .i64 F,.int .i64 I]),(5,.W 0 [.str aG aH,br,b5,ct,bB,.int .i64 cf,.int .i64 ch])] a) ?_ ?_
 . simp only [go_sem,aX.J,bV.J,D.J,y.J];exact an.mk ⟨rfl,dC⟩
 rintro a _ ⟨rfl,hF⟩;refine ak.bF hF (λX a e=>(H=e/\ ∀r∈E,(cC r).length=aj.length)/\X a) ?_ ?_
 . simp only [go_sem,hF,D.O,D.len];generalize az:a1 _ _ _ _ _ _ _ _ _ _=B;revert B;refine dA [0,4,5,17] (λi=> ∀r∈E.take i,(cC r).length=aj.length) E.length ai ?_ ?_
   . intro i s a P C hF;obtain ⟨v,h⟩:=bA P;have b1:=λr (x:r∈E.take (i+1))=>tT h x;obtain ⟨aq,rfl,⟨S,w,bc,bS⟩⟩:=a7 v (aV h);have aw:cC [aq]=S:=bm w;have bC:=λg o a=>bK ad (n+3) ab ab g o F I H a R;simp only [go_sem,hF,D.O,D.a_ (k:=1) h rfl,w.J,ag,aT]
     iterate 3 all_goals try (refine au.aE ?_ ?_<;>intro ae<;>simp only [go_sem,hF,ae,bC,w.O,w.len,ag,aT,aB.O,aB.len])
     all_goals first
      |exact au.stop rfl (by simp only [go_sem];exact an.stop rfl (a8 15 al _ _ _ _ _ _ (U.refl _)))
      |exact au.next () rfl (λr x=>by
       rcases b1 r x with x|rfl
       . exact C r x
       . rw [aw];simp at*;omega) ay
   . intro s a C hF;rw [bX] at C;simp only [go_sem];exact an.mk ⟨⟨rfl,C⟩,ay⟩
 clear hF;rintro a _ ⟨⟨rfl,bP⟩,hF⟩;refine ak.bF hF (λX a e=>H=e/\X a) ?_ ?_
 . simp only [go_sem,hF,D.O,D.len];generalize az:a1 _ _ _ _ _ _ _ _ _ _=B;revert B;refine dA [0,4,5,47] (λi=>True) E.length trivial ?_ ?_
   . intro i s a P C hF;obtain ⟨v,h⟩:=bA P;have ah:=aV h;have bZ:=bP v ah;obtain ⟨aq,rfl,⟨S,w,bc,bS⟩⟩:=a7 v ah;have aw:cC [aq]=S:=bm w;rw [aw] at bZ;have bd: ∀b∈S,b∈(E.map cC).flatten:=λb z=>kD.2 ⟨S,cd.2 ⟨[aq],ah,aw⟩,z⟩;simp only [go_sem,hF,D.O,D.a_ (k:=1) h rfl,w.J,w.O,w.len];generalize az:a1 _ _ _ _ _ _ _ _ _ _=B;revert B;refine dA [0,4,5,47,48,49,54] (λi=>True) S.length trivial ?_ ?_
     . intro bp cr a bW _ hF;obtain ⟨b,bg⟩:=bA bW;obtain ⟨ck,aW⟩: ∃r,aj[bp]? =some r:=⟨aj[bp]'ab,ai⟩;have aY:=aV bg;have bj:=bc b aY;have bQ:=jc bj H;have ar:=aQ ad (n+3) ab ab b (bd b aY) (.A [b] true) (.ptr id aO 0 14) d F I aG aH H R bb (.inl (.inr ⟨_,rfl⟩));obtain ⟨c3,bq,cX,cl,cm,rfl,⟨cY,cZ,rfl,-⟩,⟨cg,cj,rfl,-⟩,b0,⟨cl,rfl⟩,⟨cm,rfl⟩⟩:=aS.hm ck (aV aW);have av:=aR ad (n+3) ab ab b (bd b aY) (.ptr id aO 0 14) d F I aG aH cg cj H R bb;obtain ⟨mk,c4,dm,dn,dp,dq,c6,c5,c1,c0,ah,-,-⟩:=b0.ea;obtain ⟨rfl,-⟩:=ah;simp only [bl,a6] at aW;obtain ⟨cW,c9,cM,cN,cO,cP,di,dd,cV,cU,rfl,b4,b3⟩:=bj.t;simp only [go_sem,hF,w.O,w.a_ (k:=6) bg rfl,b4.J,b3.J,bQ,bH];rcases ar with ar|⟨bJ,aU,ar⟩<;>simp only [go_sem,hF,ar]
       rotate_left
       . exact au.stop rfl (by simp only [go_sem];exact au.stop rfl (by simp only [go_sem];exact an.stop rfl (bt _ aU _ _ (U.refl _))))
       simp only [go_sem,hF,ag,aT,aB.O,aB.a_ (k:=10) aW rfl];rcases av with av|⟨bJ,aU,av⟩<;>simp only [go_sem,av]
       rotate_left
       . exact au.stop rfl (by simp only [go_sem];exact au.stop rfl (by simp only [go_sem];exact an.stop rfl (bt _ aU _ _ (U.refl _))))
       exact au.next () rfl trivial ay
     . intro cr a _ hF;simp only [go_sem];exact au.next () rfl trivial ay
   . intro s a C hF;simp only [go_sem];exact an.mk ⟨rfl,ay⟩
 clear hF;rintro a _ ⟨rfl,hF⟩;refine ak.bF hF.2 (λX a e=>(Z e/\U H e)/\X a) ?_ ?_
 . simp only [go_sem,hF,y.O,y.len];generalize az:a1 _ _ _ _ _ _ _ _ _ _=B;revert B;refine cv [4,5,86] (λ_=> []) (λf=>f) (λi f=>Z f/\U H f) aJ.length H ⟨R,U.refl _⟩ ?_ ?_
   . rintro i f a P ⟨aD,aC⟩ hF;obtain ⟨v,h⟩:=bA P;obtain ⟨K,L,rfl,-⟩:=aA v (aV h);have aF:Z (f.push (.cells (q 9) (q 9) 0 [.str K L])):=aD.push rfl;have bk:U H (f.push (.cells (q 9) (q 9) 0 [.str K L])):=aC.push _;have bD:=λg o a=>bL ad (n+3) ab ab g o F I (f.push (.cells (q 9) (q 9) 0 [.str K L])) a aF;have bR:=I8 br (.fn (.func 198) [] [.ptr f.n (q 9) 0 1]) cp (KL K L) aX (λV T=>(bf V T).row.1) ab rfl (λ_=>rfl) ad (n+1) ab (f.push (.cells (q 9) (q 9) 0 [.str K L])) aF (λV T a=>by simp only [eg,a6,bl];exact Wr V (bf V T) K L ad n _ aF f.n (dL _ _) a);simp only [go_sem,hF,y.O,y.a_ (k:=1) h rfl,aX.O,bR];refine au.aE ?_ ?_<;>intro ae<;>simp only [go_sem,hF,ae,bD]
     all_goals first
      |exact au.stop rfl (by simp only [go_sem];exact an.stop rfl (a8 13 al _ _ _ _ _ _ bk))
      |exact au.next _ rfl ⟨aF,bk⟩ ay
   . rintro f a C hF;simp only [go_sem];exact an.mk ⟨C,ay⟩
 clear hF;rintro a f ⟨⟨aD,aC⟩,hF⟩;have bE:=λg o a=>bN ad (n+3) ab ab g o F I f a aD;simp only [go_sem,hF,y.O,y.len];generalize az:a1 _ _ _ _ _ _ _ _ _ _=B;revert B;refine dA [4,5,102] (λi=>True) aJ.length trivial ?_ ?_
 . rintro i _ a P _ hF;obtain ⟨v,h⟩:=bA P;obtain ⟨K,L,rfl,-⟩:=aA v (aV h);obtain ⟨V,bI,T⟩:=y.fG (k:=1) (qK aA) (j:=i) ab;have bG:=bO ad (n+3) ab ab V (aJ.take i) K L f (λr x=>aA r (hQ x)) da aD T.cw;simp only [go_sem,hF,y.O,y.a_ (k:=1) h rfl,bI,T.O,bG];refine au.aE ?_ ?_<;>intro ae<;>simp only [go_sem,hF,ae,bE]
   all_goals first
    |exact au.stop rfl (by simp only [go_sem];exact a8 14 al _ _ _ _ _ _ aC)
    |exact au.next () rfl trivial ay
 . intro s a C hF;simp only [go_sem];exact ak.un R aC
@[go_sem] theorem ac0 (H):cT G 33 0 [] H=some (.A [] true,H):=aq
def OS (r rows c):b4 G .eql 33 (.A (r::rows) c) .V=some (.bool false):=aq
def OR (a b c d e f):b4 G .eql 33 (.ref a b c d e f) .V=some (.bool false):=aq
def OQ {H:af} {x:aa} {rows:Y} (b:cG H 6 x rows) (a:rows≠ []):b4 G .eql 33 x .V=some (.bool false):=by
 rcases b with (⟨rfl,rfl⟩|⟨c,rfl⟩)|⟨id,g,f,l,e,j,d,h,rfl,-⟩
 . exact absurd rfl a
 . cases rows with
   |nil=>exact absurd rfl a
   |cons k i=>exact OS _ _ _
 . exact OR _ _ _ _ _ _
def Uj {ad n:Nat} {x:aa} {rows:Y} {H:af} (g:Z H) (b:cG H 6 x rows) (a: ∀r∈rows,aN r) (o:rows.length<1048560) (k:rows≠ []):
    ∃v H',(bd H.n 35 6 rows.length H' rows v/\Z H'/\U H H')/\ ∀tm,az G (X G R ad (n+1)) 134 [x] H tm= .ok v tm H':=by
 obtain ⟨p,H',h,d,e⟩:=pq (n0:=H.n) (c:=0) (H:=H) (rows:= []) (aQ:=rows) (v:= .A [] true) (x:=x) (.inr (.inl rfl)) g (aT _) (λr a=>by cases a) b a da ab;rw [gH,a6] at d;have l:=e.up H (aT _) (U.refl _);refine bn.at (m:=7) rfl rfl rfl rfl rfl (by simp only [aO,b.aD];rfl) rfl rfl ?_;have i:=OQ b k;have f:=d.cw (λr j=>(a r j).len);simp only [go_sem,b.O,h,i,f.O,f.aD,dX,if_true];exact bn.mk (d.gc g e.tidy l)
def Ly (r:List aa):Y:=(f (M r 1)).map dd
def Lz (r:List aa):Y:=((f (M r 1)).map cu).flatten
def Lx (r:List aa):Y:=((f (M r 3)).map cC).flatten
def pf (r:List aa):Y:=Ly r++(Lz r++f (M r 2)++Lx r)
def bL.flat {ls:List Y} {l:Y} {N:Nat} (a:bL ls.flatten N) (b:l∈ls):bL l N:=by
 obtain ⟨c,d,rfl⟩:=List.append_of_mem b;rw [List.flatten_append,iJ] at a;exact a.right.left
def HH {α β:Type} (f:α->List β) {l:List α} {j:Nat} {x:α} (a:l[j]? =some x):((l.take (j+1)).map f).flatten=((l.take j).map f).flatten++f x:=by rw [fg,a];simp
def Wo {α β:Type} (f:α->β) {l:List α} {j:Nat} {x:α} (a:l[j]? =some x):(l.take (j+1)).map f=(l.take j).map f++ [f x]:=by rw [fg,a];simp
def u5 (rows:Y):List aa:= [.V,.A rows true,.A rows false]
def GB {v:aa} {rows:Y} (b:F v rows):v∈u5 rows:=by
 rcases b with ⟨rfl,-⟩|⟨a,rfl⟩
 . simp [u5]
 . cases a<;>simp [u5]
def Zn {x y z:aa} {b ky i:Y} (c:F x b) (d:F y ky) (e:F z i): ∀(j:Nat) r,([[x],[y],[z]]:Y)[j]? =some r-> ∃v rows,r= [v]/\F v rows/\ [b,ky,i][j]? =some rows
 |0,r,a=>by cases a;exact ⟨x,b,rfl,c,rfl⟩
 |1,r,a=>by cases a;exact ⟨y,ky,rfl,d,rfl⟩
 |2,r,a=>by cases a;exact ⟨z,i,rfl,e,rfl⟩
 |j+3,r,a=>by simp at a
def O_ {n0 r l:Nat} {H:af} {x y z:aa} {h ky i:Y} (P:Z H) (e:bd n0 35 6 r H h x) (f:F y ky) (g:bd n0 35 6 l H i z) (I:cc x z) (L:Rows 6 h) (M:Rows 6 i):
    ∃b c H',cT G 235 3 [(0,x),(1,y),(2,z)] H=some (.A [[b],[y],[c]] true,H')/\F b h/\F c i/\Z H'/\(∀a,a.n<=n0->U a H->U a H')/\(∀id o,H.get id=some o->cW x≠some id->cW z≠some id->H'.get id=some o):=by
 obtain ⟨b,d,v,R,ad,X,m⟩:=e.KX al L P;have Q:bd n0 35 6 l d i z:=g.at λid o s C=>m id o C λu=>I id u s;obtain ⟨c,j,B,S,ae,ab,D⟩:=Q.KX al M ad;have w:aZ bR y d=some (y,d):=fi d bR y (fr 20 bR y al (f.aI 19));refine ⟨b,c,j,?_,R,S,ae,λa p O=>ab a p (X a p O),λid o K T W=>D id o (m id o K T) W⟩;have N:cD (aZ bR) ([x,y,z].flatMap aa.cells) H=some ([b,y,c],j):=by
  have: [x,y,z].flatMap aa.cells= [x,y,z]:=by simp [e.cells.1,f.cells,g.cells.1]
  rw [this];exact lk v (lk w (lk B rfl))
 have:=A5 (E:=G) (t:=235) (el:=33) (k:=1) (H:=H) (z:= .V) aq aq aq al rfl [x,y,z] (λag q=>by
  simp only [b2,dG,or_false] at q;rcases q with rfl|rfl|rfl
  . rw [e.cells.1];exact ⟨rfl,by simp [e.cells.2]⟩
  . rw [f.cells];exact ⟨rfl,by simp [f.J]⟩
  . rw [g.cells.1];exact ⟨rfl,by simp [g.cells.2]⟩) ai N
 exact this
def VI {ax:aa} {s:List aa} {dq dn rop dp dr:Y} (b9:dO ax s dq dn rop dp dr) {d:List aa} {req p eK u:Y} (c2:fz d s dq dn rop dp dr req p eK u)
    {r:List aa} (i:lI r) {N:Nat} (hT:bL (pf r) N) (hN:N<50000):bo λad n=> ∀c aZ ah H,Z H->dP H c d ax->cG H 1 aZ ah->b8 ah->ah.length<=1048560->fK 68 [c,.agg r,aZ] ad n H:=by
 obtain ⟨eC,dS⟩:=VC b9 c2 i;obtain ⟨eI,aw,av,aW,bc,aX,aY,rfl,⟨aP,aR,rfl,-⟩,⟨b,ao,cj,e3⟩,⟨P,aC,cB,e0⟩,⟨h,bk,ek,e4⟩,⟨eS,dY,eY,eX⟩,⟨y,rfl⟩,⟨z,rfl⟩⟩:=i;have dA:pf [.str aP aR,aw,av,aW,bc,.int .i64 y,.int .i64 z]=b.map dd++((b.map cu).flatten++P++(h.map cC).flatten):=by show (f aw).map dd++(((f aw).map cu).flatten++f av++((f aW).map cC).flatten)=_;rw [bm ao,bm aC,bm bk]
 rw [dA] at hT;have ed:=hT.len;simp only [bD,di] at ed;have ca:=hT.left;have aS:=hT.right;have cy:=aS.left.left;have eT:=aS.left.right;have cX:=aS.right;have cf: [(b.map cu).flatten,P,(h.map cC).flatten].flatten=(b.map cu).flatten++P++(h.map cC).flatten:=ai;obtain ⟨er,ct⟩:=dE (l:=b) (Q:=λB ad n=> ∀c aZ ah H,Z H->dP H c d ax->F aZ ah->(∀b2∈ah,lG b2)->ah.length<ad->ah.length<1048560->fK 132 [c,.agg B,aZ] ad n H) λB bQ=>VE b9 c2 (cj B bQ) (N:=N+N) ((ca.one (cd.2 ⟨B,bQ,rfl⟩)).app (cy.flat (cd.2 ⟨B,bQ,rfl⟩))) ab;obtain ⟨eu,cx⟩:=dE (l:=(u5 (b.map cu).flatten).flatMap λB=>(u5 (h.map cC).flatten).map λeQ=>(B,eQ)) (Q:=λC ad n=>F C.1 (b.map cu).flatten->F C.2 (h.map cC).flatten-> ∀H,Z H->
   ∃bn,F bn ((b.map cu).flatten++P++(h.map cC).flatten)/\ ∀a,az G (X G R ad n) 133 [.A [[C.1],[av],[C.2]] true] H a= .ok bn a H) λC _=>by
  by_cases cD:F C.1 (b.map cu).flatten/\F C.2 (h.map cC).flatten
  . have c5:=aS.len;have c0:=(I7 (.A [[C.1],[av],[C.2]] true) [[C.1],[av],[C.2]] [(b.map cu).flatten,P,(h.map cC).flatten] (.inr ⟨_,rfl⟩) (Zn cD.1 aC cD.2) rfl ai (by rw [cf];exact aN.rows aS.wt) (by rw [cf];unfold b7;omega) (by rw [cf];omega)).val;rw [cf] at c0;obtain ⟨ep,eb⟩:=c0;exact ⟨ep,λad n ct cx _ _ H L=>eb ad n ct cx H L⟩
  . exact ⟨0,λad n _ _ cr bz=>absurd ⟨cr,bz⟩ cD⟩
 obtain ⟨ev,dK⟩:=Jv (b.map dd++((b.map cu).flatten++P++(h.map cC).flatten)) N ab hT;obtain ⟨ew,dL⟩:=Jk (b.map dd) ((b.map cu).flatten++P++(h.map cC).flatten) N N ab ab ca aS;obtain ⟨ey,dM⟩:=dE (l:=P) (Q:=λae ad n=> ∀B c d (aX aY:Int) (D S:Nat) H,Z H->dP H c d ax->cG H 6 B [ae]->fK 123 [c,.agg [.int .i64 aX,.int .i64 aY],.str D S,B] ad n H) λae cE=>wb b9 [ae] (λB bQ=>by rw [bs.1 bQ];exact cB ae cE) ai;obtain ⟨ez,dN⟩:=dE (l:=P) (Q:=λr ad n=> ∀c d (aX aY:Int) (D S eF eG:Nat) H,Z H->dP H c d ax->fK 128 [c,.agg [.int .i64 aX,.int .i64 aY],.str D S,.agg r,.str eF eG] ad n H) λae cE=>tM b9 (cB ae cE);obtain ⟨eA,dQ⟩:=gu 14 al;obtain ⟨eB,dR⟩:=gu 15 al;obtain ⟨et,dJ⟩:=oZ 1048560 al;refine ⟨er+eu+ev+ew+ey+ez+eA+eB+eC+et+1048570,λad n e1 e2 c aZ ah H L bC cz dV dU=> ?_⟩;obtain ⟨n,rfl⟩: ∃eH,n=eH+4:=⟨n-4,ab⟩;have cZ:=bC;obtain ⟨id,aj,eR,e5,rfl,eZ,eW,eV⟩:=bC;have dm: ∀(c:Int) (bC:c≠0) D S aX aY b0 e,U H e->ak lL fA H (fin G [] (.aK (.iface 78 (.agg [.int .i64 c,.str D S,.int .i64 aX,.int .i64 aY])) b0 e [])):=λc bC D S aX aY b0 e cH=>by simp only [go_sem];exact ak.aK (lO c bC _ _ _ _) rfl L cH
 have bZ: ∀bn,fA bn-> ∀b0 e,U H e->ak lL fA H (fin G [] (.aK bn b0 e [])):=λbn c9 b0 e cH=>by simp only [go_sem];exact ak.aK c9 (c9.aI 17) L cH
 have dx:=λD S a=>dQ ad (n+3) ab ab D S y z H a L;have dy:=λD S a=>dR ad (n+3) ab ab D S y z H a L;have dw:=λD S=>dJ ad (n+3) ab ab aZ ah D S H dV dU L cz;refine o6 (aL.at (m:=114) rfl rfl rfl rfl rfl (by simp only [aO,cz.aD];rfl) rfl rfl ?_);have hF:=trivial;refine ak.kp [0,2,6] (λq a e=>H=e/\M a 4= .W 0 [.str aP aR,aw,av,aW,bc,.int .i64 y,.int .i64 z]/\q a) ?_ ?_
 . simp only [go_sem,ao.J,aC.J,bk.J,dY.J];exact an.mk ⟨rfl,dC⟩
 rintro a _ ⟨rfl,hF⟩;refine ak.kp [0,4,2] (λq a e=>H=e/\M a 6= .W 0 [.int .i64 y,.int .i64 z]/\q a) ?_ ?_
 . simp only [go_sem,hF];exact an.mk ⟨rfl,ay⟩
 clear hF;rintro a _ ⟨rfl,hF⟩;refine ak.kp [0,4,6] (λq a e=>(H=e/\b≠ [])/\q a) ?_ ?_
 . simp only [go_sem,hF,cz.O,dw];refine an.aE ?_ ?_<;>intro cr<;>simp only [go_sem,hF,cr,dx]
   all_goals try exact an.stop rfl (dm 14 al _ _ _ _ _ _ (U.refl _))
   simp only [go_sem,hF,ao.O,ao.len];refine an.aE ?_ ?_<;>intro bz<;>simp only [go_sem,hF,bz,dy]
   all_goals first
    |exact an.stop rfl (dm 15 al _ _ _ _ _ _ (U.refl _))
    |exact an.mk ⟨⟨rfl,λb4=>by rw [b4] at bz;simp at bz⟩,ay⟩
 clear hF;rintro a _ ⟨⟨rfl,ee⟩,hF⟩;refine ak.bF hF (λq a e=>H=e/\aM 117 [(7,.V),(8,.V),(9,.V)] a/\q a) ?_ ?_
 . simp only [go_sem];exact an.mk ⟨rfl,ay⟩
 clear hF;rintro a _ ⟨rfl,hF⟩;refine ak.kp [0,4,6] (λq a e=> ∃w I,(bd H.n 35 6 b.length e (b.map dd) w/\bd H.n 35 6 (b.map cu).flatten.length e (b.map cu).flatten I/\cc w I/\Z e/\U H e)/\M a 7=w/\M a 8=I/\M a 9= .V/\q a) ?_ ?_
 . simp only [go_sem,hF,ao.O,ao.len];generalize cW:a1 _ _ _ _ _ _ _ _ _ _=bq;revert bq;refine hz _ _ _ _ (σ:=aa×aa×af) (λs=> [(0,.ptr id aj 0 14),(4,.W 0 [.str aP aR,aw,av,aW,bc,.int .i64 y,.int .i64 z]),(6,.W 0 [.int .i64 y,.int .i64 z]),(7,s.1),(8,s.2.1),(9,.V),(40,aw)]) (λs=>s.2.2) (λg s=>bd H.n 35 6 g s.2.2 ((b.take g).map dd) s.1/\bd H.n 35 6 ((b.take g).map cu).flatten.length s.2.2 ((b.take g).map cu).flatten s.2.1/\cc s.1 s.2.1/\Z s.2.2/\U H s.2.2) 117 b.length (.V,.V,H) rfl rfl (λ_=>rfl) rfl
    ⟨bd.nil,bd.nil,cc.nil,L,U.refl _⟩ ay ab ab ?_ ?_
   . rintro g ⟨w,I,aJ⟩ a bJ ⟨o,E,bI,bf,aU⟩ hF;simp only at o E bI bf aU hF|-;obtain ⟨B,ar⟩:=bA bJ;have bN:=aV ar;have eo:=cj B bN;have cM:=Wo dd ar;have cl:=HH cu ar;have bj: ∀r∈(b.take g).map dd,aN r:=λr i=>ca.wt r (by rw [yR] at i;exact hQ i);have cI: ∀r∈((b.take g).map cu).flatten,aN r:=λr i=>cy.wt r (by obtain ⟨D,bK,i⟩:=kD.1 i;rw [yR] at bK;exact kD.2 ⟨D,hQ bK,i⟩);have c4:((b.take g).map cu).flatten.length+(cu B).length<=(b.map cu).flatten.length:=by rw [<-bD,<-cl];simp only [List.length_flatten,tB];exact si _ _ _
     obtain ⟨eP,dI,dg⟩:=ao.fG (k:=11) (λb2 cL=>(cj b2 cL).row.1) (j:=g) ab;have a7:=ct ad (n+3) ab ab B bN (.ptr id aj 0 14) eP (b.take g) aJ bf (cZ.up L.1 aU) dg (λb2 cL=>cj b2 (hQ cL)) da da;obtain ⟨eI,e6,cS,cp,cm,cn,rfl,⟨cO,cQ,rfl,-⟩,⟨cP,cR,rfl,-⟩,bB,⟨dk,ck,en,-⟩,⟨cm,rfl⟩,⟨cn,rfl⟩⟩:=eo;have cU:dd ([.str cO cQ,.str cP cR]++cS++ [cp,.int .i64 cm,.int .i64 cn])=cS:=by unfold dd;rw [fu,qh ai];simp [bB.len]
     have cY:=jc bB aJ;obtain ⟨bW,bY,bR,bT,bU,bV,b1,C,eE,eD,df,-,-⟩:=bB.ea;have cV:=df.eq;obtain ⟨-,-,-,-,-,cK,cJ,-,-⟩:=df;rw [cV] at ar bN cM cl c4 a7 cU cY bB;clear cV;have dz:cu ([.str cO cQ,.str cP cR]++ [.int .i64 bW,.int .i64 bY,.str bR bT,.str bU bV,b1,C]++ [cp,.int .i64 cm,.int .i64 cn])=dk:=bm ck;rw [cU] at cM;rw [dz] at cl c4;simp only [bl,a6] at ar a7;obtain ⟨eM,bp,dB,bO,cg⟩:=pq (n0:=H.n) (c:=g) (H:=aJ) (rows:=(b.take g).map dd) (aQ:= [[.int .i64 bW,.int .i64 bY,.str bR bT,.str bU bV,b1,C]]) (v:=w) (x:= .A [[.int .i64 bW,.int .i64 bY,.str bR bT,.str bU bV,b1,C]] true) o bf aU.n bj (.inl (.inr ⟨_,rfl⟩)) (λr i=>by rw [bs.1 i];exact bB) da da;have ei:=E.bS cg bI;have c3:=bI.grow E cg;have aF:=cg.up H (aT _) aU;obtain ⟨eN,aA,dD,dc,ch⟩:=pq (n0:=H.n) (c:=((b.take g).map cu).flatten.length) (H:=bp) (rows:=((b.take g).map cu).flatten) (aQ:=dk) (v:=I) (x:=cp) ei cg.tidy aF.n cI ck.cw en ab ab;have eh:=bO.bS ch c3.symm;have dX:=(c3.symm.grow bO ch).symm;have aG:=ch.up H (aT _) aF;refine au.bM (λa e=>aJ=e/\ ∃ds,aM 117 [(42,.int .i64 (g:Nat)),(41,.int .i64 (b.length:Nat)),(0,.ptr id aj 0 14),(4,.W 0 [.str aP aR,aw,av,aW,bc,.int .i64 y,.int .i64 z]),(6,.W 0 [.int .i64 y,.int .i64 z]),(7,w),(8,I),(9,.V),(40,aw),(10,.int .i64 (g:Nat)),(11,.W ds [.str cO cQ,.str cP cR,.int .i64 bW,.int .i64 bY,.str bR bT,.str bU bV,b1,C,cp,.int .i64 cm,.int .i64 cn])] a) ?_ ?_
     . simp only [go_sem,hF,ao.O,ao.a_ (k:=11) ar rfl,cK.J,cJ.J,ck.J];exact an.mk ⟨rfl,_,by simp only [go_sem,hF];trivial⟩
     clear hF;rintro a _ ⟨rfl,ds,hF⟩;refine au.bF hF (λq a e=>aJ=e/\q a) ?_ ?_
     . simp only [go_sem,hF,ao.O,dI,dg.O];rcases a7 with a7|⟨bx,K,a7⟩
       . simp only [go_sem,a7];exact an.mk ⟨rfl,ay⟩
       . simp only [go_sem,a7];exact an.stop rfl (an.stop rfl (bZ _ K _ _ aU))
     clear hF;rintro a _ ⟨rfl,hF⟩;simp only [go_sem,hF,o.O,E.O,ck.O,cY,bH,dB,dD,bO.O,dc.O];refine au.next (eM,eN,aA) rfl ⟨?_,?_,dX,ch.tidy,aG⟩ ay
     . rw [cM];exact eh
     . rw [cl,bD];exact dc
   . rintro ⟨w,I,aJ⟩ a aB hF;simp only at aB hF;rw [bX] at aB;simp only [go_sem];exact an.mk ⟨w,I,aB,ay⟩
 clear hF;rintro a aJ ⟨w,I,⟨o,E,bI,bf,aU⟩,hF⟩;have bj:=ca.wt;have cI:=cy.wt;refine ak.kp [0,4,6,7,8] (λq a e=> ∃aH,(bd H.n 35 6 b.length e (b.map dd) w/\bd H.n 35 6 (b.map cu).flatten.length e (b.map cu).flatten I/\bd H.n 35 6 (h.map cC).flatten.length e (h.map cC).flatten aH/\cc aH w/\cc aH I/\Z e/\U H e)/\M a 9=aH/\q a) ?_ ?_
 . simp only [go_sem,hF,bk.O,bk.len];generalize cW:a1 _ _ _ _ _ _ _ _ _ _=bq;revert bq;refine hz _ _ _ _ (σ:=aa×af) (λs=> [(0,.ptr id aj 0 14),(4,.W 0 [.str aP aR,aw,av,aW,bc,.int .i64 y,.int .i64 z]),(6,.W 0 [.int .i64 y,.int .i64 z]),(7,w),(8,I),(9,s.1),(65,aW)]) (λs=>s.2) (λg s=>bd H.n 35 6 b.length s.2 (b.map dd) w/\bd H.n 35 6 (b.map cu).flatten.length s.2 (b.map cu).flatten I/\bd H.n 35 6 ((h.take g).map cC).flatten.length s.2 ((h.take g).map cC).flatten s.1/\cc s.1 w/\cc s.1 I/\Z s.2/\U H s.2) 117 h.length (.V,aJ) rfl rfl (λ_=>rfl) rfl
    ⟨o,E,bd.nil,cc.nil.symm,cc.nil.symm,bf,aU⟩ ay ab ab ?_ ?_
   . rintro g ⟨aH,bp⟩ a bJ ⟨o,E,a8,bE,bG,bP,aF⟩ hF;simp only at o E a8 bE bG bP aF hF|-;obtain ⟨B,ar⟩:=bA bJ;have bN:=aV ar;have cN:=HH cC ar;have ej: ∀r∈((h.take g).map cC).flatten,aN r:=λr i=>cX.wt r (by obtain ⟨D,bK,i⟩:=kD.1 i;rw [yR] at bK;exact kD.2 ⟨D,hQ bK,i⟩);have ec:((h.take g).map cC).flatten.length+(cC B).length<=(h.map cC).flatten.length:=by rw [<-bD,<-cN];simp only [List.length_flatten,tB];exact si _ _ _
     obtain ⟨b3,rfl,⟨cT,cb,dW,eU⟩⟩:=ek B bN;have dH:cC [b3]=cT:=bm cb;rw [dH] at cN ec;obtain ⟨eO,aA,cq,de,T⟩:=pq (n0:=H.n) (c:=((h.take g).map cC).flatten.length) (H:=bp) (rows:=((h.take g).map cC).flatten) (aQ:=cT) (v:=aH) (x:=b3) a8 bP aF.n ej cb.cw dW ab ab;simp only [go_sem,hF,bk.O,bk.a_ (k:=1) ar rfl,cb.J,cb.O,a8.O,cq,de.O];exact au.next (eO,aA) rfl ⟨o.bS T bE,E.bS T bG,by rw [cN,bD];exact de,bE.grow o T,bG.grow E T,T.tidy,T.up H (aT _) aF⟩ ay
   . rintro ⟨aH,bp⟩ a aB hF;simp only at aB hF;rw [bX] at aB;simp only [go_sem];exact an.mk ⟨aH,aB,ay⟩
 clear hF o E bf aU;rintro a bp ⟨aH,⟨o,E,a8,bE,bG,bP,aF⟩,hF⟩;have c5:=aS.len;simp only [bD] at c5;refine ak.bM (λa e=> ∃bb,(F bb ((b.map cu).flatten++P++(h.map cC).flatten)/\bd H.n 35 6 b.length e (b.map dd) w/\Z e/\U H e)/\aM 117 [(0,.ptr id aj 0 14),(4,.W 0 [.str aP aR,aw,av,aW,bc,.int .i64 y,.int .i64 z]),(6,.W 0 [.int .i64 y,.int .i64 z]),(7,w),(8,bb)] a) ?_ ?_
 . obtain ⟨dt,du,aA,dF,dh,dj,bg,aG,dZ⟩:=O_ bP E aC a8 bG.symm (aN.rows cI) (aN.rows cX.wt);have aG:=aG H (aT _) aF;obtain ⟨bb,ba,br⟩:=cx ad (n+3) ab ab (dt,du) (fC.2 ⟨dt,GB dh,cd.2 ⟨du,GB dj,rfl⟩⟩) dh dj aA bg;have bO:bd H.n 35 6 b.length aA (b.map dd) w:=o.at λid eJ b4 aj=>dZ id eJ aj (λbr=>bI id b4 br) (λbr=>bE id br b4);simp only [go_sem,hF,E.O,a8.O,aC.O,dF,bH,br,ba.O];exact an.mk ⟨bb,⟨ba,bO,bg,aG⟩,ay⟩
 clear hF o E a8 bP aF;rintro a aA ⟨bb,⟨ba,o,bg,aG⟩,hF⟩;refine ak.bF hF (λq a e=>(cG e 6 w (b.map dd)/\Z e/\U H e)/\q a) ?_ ?_
 . obtain ⟨b3,ag,⟨c1,bh,aq⟩,dG⟩:=Uj (ad:=ad) (n:=n+2) bg (o.cw λr i=>(bj r i).len) bj da (by simpa using ee);obtain ⟨eL,dv,cq,db,T⟩:=pq (n0:=aA.n) (c:=(b.map dd).length) (H:=ag) (rows:=b.map dd) (aQ:=(b.map cu).flatten++P++(h.map cC).flatten) (v:=b3) (x:=bb) c1 bh aq.n bj ba.cw aS.wt (by simp only [bD,di];omega) (by simp only [bD,di];omega);have eg:=T.up aA (aT _) aq;have c8:=T.up H aG.n (aG.trans aq);have ef:=(o.cw λr i=>(bj r i).len).up bg.1 eg;have bt:=dK ad (n+3) ab ab y z eL dv T.tidy (db.cw λr i=>(hT.wt r i).len);simp only [go_sem,hF,o.O,dG,c1.O,ba.O,cq,db.O];rcases bt with bt|⟨bx,K,bt⟩
   . simp only [go_sem,bt];exact an.mk ⟨⟨ef,T.tidy,c8⟩,ay⟩
   . simp only [go_sem,bt];exact an.stop rfl (bZ _ K _ _ c8)
 clear hF o bg aG;rintro a ag ⟨⟨o,bh,aq⟩,hF⟩;have cA:=cZ.up L.1 aq;refine ak.kp [0,4,6] (λq a e=>ag=e/\q a) ?_ ?_
 . have bu:=dL ad (n+3) ab ab y z w bb ag bh o ba.cw;simp only [go_sem,hF,o.O,ba.O];rcases bu with bu|⟨bx,K,bu⟩
   . simp only [go_sem,bu];exact an.mk ⟨rfl,ay⟩
   . simp only [go_sem,bu];exact an.stop rfl (bZ _ K _ _ aq)
 clear hF;rintro a _ ⟨rfl,hF⟩;refine ak.bF hF (λq a e=>ag=e/\q a) ?_ ?_
 . simp only [go_sem,hF,aC.O,aC.len];generalize cW:a1 _ _ _ _ _ _ _ _ _ _=bq;revert bq;refine cv [0,4,6,93] (λ_=> []) (λs=>ag) (λg s=>True) P.length () trivial ?_ ?_
   . intro g s a bJ aB hF;obtain ⟨ae,c6⟩:=bA bJ;have cF:=aV c6;have c7:=cB ae cF;have dT:=jc c7 ag;have b5:=dM ad (n+3) ab ab ae cF (.A [ae] true) (.ptr id aj 0 14) d y z aP aR ag bh cA (.inl (.inr ⟨_,rfl⟩));have b6:=dN ad (n+3) ab ab ae cF (.ptr id aj 0 14) d y z aP aR 4 1819242306 ag bh cA;obtain ⟨bW,bY,bR,bT,bU,bV,b1,C,eE,eD,rfl,cK,cJ⟩:=c7.t;simp only [go_sem,hF,aC.O,aC.a_ (k:=6) c6 rfl,cK.J,cJ.J,dT,bH];rcases b5 with b5|⟨bx,K,b5⟩<;>simp only [go_sem,hF,b5]
     rotate_left
     . exact au.stop rfl (by simp only [go_sem];exact an.stop rfl (bZ _ K _ _ aq))
     rcases b6 with b6|⟨bx,K,b6⟩<;>simp only [go_sem,b6]
     rotate_left
     . exact au.stop rfl (by simp only [go_sem];exact an.stop rfl (bZ _ K _ _ aq))
     exact au.next () rfl trivial ay
   . intro s a aB hF;simp only [go_sem];exact an.mk ⟨rfl,ay⟩
 clear hF;rintro a _ ⟨rfl,hF⟩;have bw:=dS ad (n+3) ab ab (.ptr id aj 0 14) y z ag bh cA;simp only [go_sem,hF];rcases bw with bw|⟨bx,K,bw⟩
 . simp only [go_sem,bw];exact ak.un L aq
 . simp only [go_sem,bw];exact ak.aK K (K.aI 17) L aq
def eN (A:List aa->Prop) (b H:af) (v:aa) (e:Nat):Prop:= ∃a,bd b.n 35 6 a.length H a v/\(∀c∈a,aN c/\A c)/\a.length<=e/\Z H/\U b H
def eN.O {A:List aa->Prop} {c H v b} (a:eN A c H v b) (t):O t v=v:=by obtain ⟨e,a,-⟩:=a;exact a.O t
def eN.app {A:List aa->Prop} {c H v b} (h:eN A c H v b) {x:aa} {aQ:Y} (k:cG H 6 x aQ) (q: ∀r∈aQ,aN r/\A r) (m:b+aQ.length<1048560):
    ∃a H',cI G 33 33 v x H=some (a,H')/\eN A c H' a (b+aQ.length):=by
 obtain ⟨l,j,w,o,i,f⟩:=h;obtain ⟨a,H',g,t,e⟩:=pq j i f.n ah k ah ab ab;exact ⟨a,H',g,l++aQ,ah,ah,ah,e.tidy,e.up c ab f⟩
def eN.mono {A:List aa->Prop} {b H v a C} (c:eN A b H v a) (j:a<=C):eN A b H v C:=by
 obtain ⟨i,g,h,k,e,f⟩:=c;exact ⟨i,g,h,ab,e,f⟩
def gw (b H:af) (v:aa) (c:Nat):Prop:= ∃a,bd b.n 9 1 a.length H a v/\b8 a/\a.length<=c/\Z H/\U b H
def gw.O {c H v b} (a:gw c H v b) (t):O t v=v:=by obtain ⟨e,a,-⟩:=a;exact a.O t
def gw.app {e H v c} (f:gw e H v c) {x:aa} {aQ:Y} (r:cG H 1 x aQ) (g:b8 aQ) (w:c+aQ.length<1048560):
    ∃a H',cI G 22 22 v x H=some (a,H')/\gw e H' a (c+aQ.length):=by
 obtain ⟨t,q,j,y,o,i⟩:=f;obtain ⟨a,H',m,z,h⟩:=q.app (x:=x) (b:=16) (k:=1) oe nI rfl rfl al al o i.n j.rows (r.elems (qK g)) g.rows (by unfold b7;omega) ab;exact ⟨a,H',m,t++aQ,ah,λl f=>(cr.1 f).elim (j l) (g l),ah,h.tidy,h.up e ab i⟩
def gw.mono {b H v a C} (c:gw b H v a) (j:a<=C):gw b H v C:=by
 obtain ⟨i,g,h,k,e,f⟩:=c;exact ⟨i,g,h,ab,e,f⟩
def eN.new (A:List aa->Prop) (H:af) (a:Z H):eN A H H .V 0:=⟨[],bd.nil,ai,ai,a,U.refl _⟩
def oB (A:List aa->Prop) (v:aa):Prop:= ∃a,F v a/\(∀b∈a,aN b/\A b)/\a.length<1048560
def ak.B_ {A:List aa->Prop} {a H v c} (h:Z a) (b:eN A a H v c) (j:c<1048560):ak (oB A) bQ a (.ret v H):=by
 obtain ⟨i,g,e,k,l,f⟩:=b;exact ak.W al h (aN.rows ah) g ab f λm b=>⟨i,b,e,ab⟩
def ak.Sv {a H v c} (h:Z a) (b:gw a H v c) (j:c<1048560):ak AO bQ a (.ret v H):=by
 obtain ⟨i,g,e,k,l,f⟩:=b;exact ak.W al h e.rows g ab f λm b=>⟨i,b,e,ab⟩
def eN.nl {A:List aa->Prop} {c H v b} (a:eN A c H v b):aD v=true:=by obtain ⟨e,a,-⟩:=a;exact a.aD
def gw.nl {c H v b} (a:gw c H v b):aD v=true:=by obtain ⟨e,a,-⟩:=a;exact a.aD
def wR {α:Type} (f:α->Nat) (l:List α) (j:Nat):((l.take j).map f).sum<=(l.map f).sum:=si f l j
theorem BF {L R:List aa} {i a b:aa} (k:L.length=6) (l:R.length=6):M (L++R++ [i,a,b]) 12=i:=by
 obtain ⟨c,e,f,g,h,j,rfl⟩: ∃c e f g h j,L= [c,e,f,g,h,j]:=by
  match L,k with
  | [c,e,f,g,h,j],_=>simp
 match R,l with
 | [m,n,o,q,r,t],_=>rfl
def nV (l:Y):l.length<=(l.map ju).sum:=qq λa _=>by unfold ju;omega
def eo (r:List aa):Y:= [r.take 6,(r.drop 6).take 6]++f (M r 12)
def eE (req p aU u:Y):Y:=(req.map eo).flatten++(p++aU).map dQ++(u.map pf).flatten
def Wv {req p aU u:Y} {x t} (b:x∈req) (a:t∈eo x):t∈eE req p aU u:=hP _ (hP _ (kD.2 ⟨_,cd.2 ⟨x,b,rfl⟩,a⟩))
def Wu {req p aU u:Y} {x} (a:x∈p++aU):dQ x∈eE req p aU u:=hP _ (h7 _ (cd.2 ⟨x,a,rfl⟩))
def Ww {req p aU u:Y} {x t} (b:x∈u) (a:t∈pf x):t∈eE req p aU u:=h7 _ (kD.2 ⟨_,cd.2 ⟨x,b,rfl⟩,a⟩)
def xO {L R:List aa} {i a b:aa} (c:L.length=6) (e:R.length=6):eo (L++R++ [i,a,b])= [L,R]++f i:=by
 unfold eo;rw [BF c e,fu,C7 c,List.drop_left' c,C7 e]
def LA {n p i w h a b:aa} {c e g:Y} (k:F p c) (j:F i e) (l:F w g):pf [n,p,i,w,h,a,b]=c.map dd++((c.map cu).flatten++e++(g.map cC).flatten):=by
 show (f p).map dd++(((f p).map cu).flatten++f i++((f w).map cC).flatten)=_;rw [bm k,bm j,bm l]
def zy {n s i a b:aa} {L:List aa} (c:L.length=6):dd ([n,s]++L++ [i,a,b])=L:=by
 unfold dd
 grind
theorem zz {n s i a b:aa} {L:List aa} (c:L.length=6):cu ([n,s]++L++ [i,a,b])=f i:=by
 match L,c with
 | [e,g,h,j,k,l],_=>rfl
section
variable {d:List aa} {s:List aa} {ar aw rop ao aJ req p aU u:Y} (aX:fz d s ar aw rop ao aJ req p aU u)
include aX
theorem U7:dt 107 [.agg d] (oB (· ∈eE req p aU u)) bQ:=by
 have c5:=aX.n1;have bC: ∀j∈p++aU,iz j:=λj E=>(cr.1 E).elim (aX.b9 j) (aX.hm j);obtain ⟨dq,bR,bt,db,bq,cz,dx,dy,b3,⟨cu,cx,rfl,-⟩,aq,aG,⟨cl,cm,rfl,-⟩,aF,E,⟨cA,cB,rfl,-⟩,⟨cE,cF,rfl,-⟩⟩:=aX.eq;obtain ⟨cC,bP,cy,bW,cD,rfl,cK,cL,cM,cN,cO⟩:=aX.bT.eq;have bc: [p,aU].flatten=p++aU:=ai;obtain ⟨ck,bB⟩:=(Ds (.A [[bt],[bq]] true) [[bt],[bq]] [p,aU] (.inr ⟨_,rfl⟩) (wG aG aF) rfl ai (by rw [bc];exact λj E=>(bC j E).row) (by rw [bc];unfold b7;grind) ah).val;rw [bc] at bB;refine aL.run (m:=89) rfl rfl rfl rfl rfl rfl rfl rfl (ck+1048570) λcq ct c3 c4 i bE=> ?_;rw [b3];simp only [bl,a6];refine ak.bM (λb l=>i=l/\aM 90 [(1,.W 0 [.str cu cx,cC,bP,cy,bW,cD,bR,bt,.str cl cm,bq,cz,.str cA cB,.str cE cF])] b) ?_ ?_
 . simp only [go_sem,cK.J,cL.J,cM.J,cN.J,cO.J,aq.J,aG.J,aF.J,E.J];exact an.mk ⟨rfl,dC⟩
 rintro b _ ⟨rfl,hF⟩;refine ak.bF hF (λv b l=>i=l/\aM 90 [(3,.V)] b/\v b) ?_ ?_
 . simp only [go_sem];exact an.mk ⟨rfl,ay⟩
 clear hF;rintro b _ ⟨rfl,hF⟩;refine ak.kp [1] (λv b l=> ∃e,eN (· ∈eE req p aU u) i l e (req.map e7).sum/\M b 3=e/\v b) ?_ ?_
 . simp only [go_sem,hF,aq.O,aq.len];generalize aC:a1 _ _ _ _ _ _ _ _ _ _=B;revert B;refine cv (σ:=aa×af) [1,15] (λs=> [(3,s.1)]) (λs=>s.2) (λh s=>eN (· ∈eE req p aU u) i s.2 s.1 ((req.take h).map e7).sum) req.length (.V,i) (eN.new _ i bE) (hlf:=(by have:=aX.iN;omega)) (hN:=(by have:=aX.iN;omega)) ?_ ?_
   . rintro h ⟨e,g⟩ b bd a hF;simp only at a hF|-;obtain ⟨G,r⟩: ∃j,req[h]? =some j:=de;have bf:=uu e7 r;have b8:=wR e7 req (h+1);have I:=aV r;obtain ⟨H,ad,y,bw,bx,rfl,D,aE,⟨bI,w,b5,-⟩,⟨br,rfl⟩,⟨bs,rfl⟩⟩:=aX.kx G I;have N: ∀o∈eo (H++ad++ [y,.int .i64 br,.int .i64 bs]),o∈eE req p aU u:=λo Q=>Wv I Q;rw [xO D.len aE.len,bm w] at N;have aj:=A4 D aE g;have bU:e7 (H++ad++ [y,.int .i64 br,.int .i64 bs])=2+bI.length:=by show 2+(f (M (H++ad++ [y,.int .i64 br,.int .i64 bs]) 12)).length=_;rw [BF D.len aE.len,bm w]
     rw [bU] at bf;obtain ⟨F,z,C,n⟩:=a.app (x:= .A [H,ad] true) (aQ:= [H,ad]) (.inl (.inr ⟨_,rfl⟩)) ah ah;obtain ⟨ax,X,a8,aD⟩:=n.app (x:=y) (aQ:=bI) w.cw ah ah;have bb:eN (· ∈eE req p aU u) i X ax ((req.take (h+1)).map e7).sum:=ah;obtain ⟨c9,dn,dh,dj,di,dk,dz,dB,dc,df,bY,-,-⟩:=D.ea;obtain ⟨da,dp,dr,du,ds,dv,dA,dD,dd,dg,b0,-,-⟩:=aE.ea;obtain ⟨rfl,cf,ch⟩:=bY.c;obtain ⟨rfl,cg,cj⟩:=b0.c;simp only [bl,a6] at r;simp only [go_sem,hF,aq.O,aq.a_ (k:=15) r rfl,cf.J,ch.J,cg.J,cj.J,w.J,w.O,aj,bH,a.O,C,n.O,a8,aD.O];exact au.next (ax,X) rfl bb ay
   . rintro ⟨e,g⟩ b a hF;simp only at a hF;rw [bX] at a;simp only [go_sem];exact an.mk ah
 clear hF;rintro b g ⟨e,a,hF⟩;refine ak.kp [1] (λv b l=> ∃e,eN (· ∈eE req p aU u) i l e ((req.map e7).sum+(p.length+aU.length))/\M b 3=e/\v b) ?_ ?_
 . have b1:Z g/\U i g:=by obtain ⟨dw,-,-,-,bw,bx⟩:=a;grind
   obtain ⟨az,q,bS⟩:=bB cq ct ab ab g b1.1;have b2:=A3 aG aF g;simp only [go_sem,hF,aG.O,aF.O,b2,bH,bS,q.O,q.len];generalize aC:a1 _ _ _ _ _ _ _ _ _ _=B;revert B;refine cv (σ:=aa×af) [1,37] (λs=> [(3,s.1)]) (λs=>s.2) (λh s=>eN (· ∈eE req p aU u) i s.2 s.1 ((req.map e7).sum+h)) (p++aU).length (e,g) a (hlf:=ah) (hN:=ah) ?_ ?_
   . rintro h ⟨e,g⟩ b bd a hF;simp only at a hF|-;obtain ⟨G,r⟩: ∃j,(p++aU)[h]? =some j:=de;rw [bD] at bd;have I:=aV r;obtain ⟨cR,cS,Y,bz,bA,rfl,⟨ae,ag,rfl,-⟩,⟨bN,bO,rfl,-⟩,ba,⟨bz,rfl⟩,⟨bA,rfl⟩⟩:=bC G I;have N:Y∈eE req p aU u:=by
      have:=Wu (req:=req) (u:=u) I
      rwa [show dQ ([.str ae ag,.str bN bO]++Y++ [.int .i64 bz,.int .i64 bA])=Y by unfold dQ;rw [fu,qh ai];simp [ba.len]] at this
     have aj:=jc ba g;obtain ⟨F,z,C,n⟩:=a.app (x:= .A [Y] true) (aQ:= [Y]) (.inl (.inr ⟨_,rfl⟩)) ah ah;obtain ⟨aP,aR,aH,aI,aK,aN,aW,aT,cp,cn,rfl,bk,bj⟩:=ba.t;simp only [bl,a6] at r;simp only [go_sem,hF,q.O,q.a_ (k:=10) r rfl,bk.J,bj.J,aj,bH,a.O,C,n.O];exact au.next (F,z) rfl n ay
   . rintro ⟨e,g⟩ b a hF;simp only at a hF;rw [bD] at a;simp only [go_sem];exact an.mk ah
 clear hF a;rintro b g ⟨e,a,hF⟩;refine ak.bM (λb l=> ∃e,eN (· ∈eE req p aU u) i l e ((req.map e7).sum+(p.length+aU.length)+(u.map kJ).sum)/\aM 90 [(3,e)] b) ?_ ?_
 . simp only [go_sem,hF,E.O,E.len];generalize aC:a1 _ _ _ _ _ _ _ _ _ _=B;revert B;refine cv (σ:=aa×af) [50] (λs=> [(3,s.1)]) (λs=>s.2) (λh s=>eN (· ∈eE req p aU u) i s.2 s.1 ((req.map e7).sum+(p.length+aU.length)+((u.take h).map kJ).sum)) u.length (e,g) a (hlf:=(by have:=nV u;have:=aX.iN;omega)) (hN:=(by have:=nV u;have:=aX.iN;omega)) ?_ ?_
   . rintro h ⟨e,g⟩ b bd a hF;simp only at a hF|-;obtain ⟨G,r⟩: ∃j,u[h]? =some j:=de;have bf:=uu kJ r;have b8:=wR kJ u (h+1);have I:=aV r;obtain ⟨dm,aS,y,az,aZ,bw,bx,rfl,⟨ae,ag,rfl,-⟩,⟨L,P,cb,c6⟩,⟨bn,w,b5,c2⟩,⟨T,q,cc,c7⟩,⟨cT,b4,c1,c0⟩,⟨bo,rfl⟩,⟨bp,rfl⟩⟩:=aX.bh G I;have N: ∀o∈pf [.str ae ag,aS,y,az,aZ,.int .i64 bo,.int .i64 bp],o∈eE req p aU u:=λo Q=>Ww I Q;rw [LA P w q] at N;have bV:kJ [.str ae ag,aS,y,az,aZ,.int .i64 bo,.int .i64 bp]=(L.map iO).sum+bn.length+(T.map lp).sum:=by show ((f aS).map iO).sum+(f y).length+((f az).map lp).sum=_;rw [bm P,bm w,bm q]
     rw [bV] at bf;generalize cX:(req.map e7).sum+(p.length+aU.length)+((u.take h).map kJ).sum=aA at*;refine au.kp [52,51,50] (λv b l=>g=l/\ ∃bJ,M b 3=e/\M b 9= .W bJ [.str ae ag,aS,y,az,aZ,.int .i64 bo,.int .i64 bp]/\v b) ?_ ?_
     . simp only [go_sem,hF,E.O,E.a_ (k:=7) r rfl,P.J,w.J,q.J,b4.J];exact an.mk ⟨rfl,_,by simp only [go_sem,hF];trivial⟩
     clear hF;rintro b _ ⟨rfl,bJ,hF⟩;refine au.kp [52,51,50,9] (λv b l=> ∃e,eN (· ∈eE req p aU u) i l e (aA+(L.map iO).sum)/\M b 3=e/\v b) ?_ ?_
     . simp only [go_sem,hF,P.O,P.len];generalize aC:a1 _ _ _ _ _ _ _ _ _ _=B;revert B;refine cv [52,51,50,9,57] (λs=> [(3,s.1)]) (λs=>s.2) (λh s=>eN (· ∈eE req p aU u) i s.2 s.1 (aA+((L.take h).map iO).sum)) L.length (e,g) a ?_ ?_
       . rintro R ⟨e,g⟩ b b6 a hF;simp only at a hF|-;obtain ⟨G,K⟩: ∃j,L[R]? =some j:=ah;have bg:=uu iO K;have ca:=wR iO L (R+1);have S:=aV K;obtain ⟨cP,cQ,H,bu,bK,bL,rfl,⟨cG,cI,rfl,-⟩,⟨cH,cJ,rfl,-⟩,D,⟨aO,av,c8,-⟩,⟨bK,rfl⟩,⟨bL,rfl⟩⟩:=cb G S;have cV:H∈eE req p aU u:=N H (hP _ (cd.2 ⟨_,S,zy D.len⟩));have cW: ∀o∈aO,o∈eE req p aU u:=λo Q=>N o (h7 _ (hP _ (hP _ (kD.2 ⟨aO,cd.2 ⟨_,S,by rw [zz D.len];exact bm av⟩,Q⟩))));have aj:=jc D g;obtain ⟨aP,aR,aH,aI,aK,aN,aW,aT,cp,cn,bG,-,-⟩:=D.ea;have bZ:=bG.eq;obtain ⟨-,-,-,-,-,bk,bj,-,-⟩:=bG;subst bZ;have a7:iO ([.str cG cI,.str cH cJ]++ [.int .i64 aP,.int .i64 aR,.str aH aI,.str aK aN,aW,aT]++ [bu,.int .i64 bK,.int .i64 bL])=1+aO.length:=by show 1+(f bu).length=_;rw [bm av]
         rw [a7] at bg;obtain ⟨F,z,C,n⟩:=a.app (x:= .A [[.int .i64 aP,.int .i64 aR,.str aH aI,.str aK aN,aW,aT]] true) (aQ:= [[.int .i64 aP,.int .i64 aR,.str aH aI,.str aK aN,aW,aT]]) (.inl (.inr ⟨_,rfl⟩)) ah ah;obtain ⟨ax,X,a8,aD⟩:=n.app (x:=bu) (aQ:=aO) av.cw ah ah;have bb:eN (· ∈eE req p aU u) i X ax (aA+((L.take (R+1)).map iO).sum):=aD.mono ah;simp only [bl,a6] at K;simp only [go_sem,hF,P.O,P.a_ (k:=11) K rfl,bk.J,bj.J,av.J,av.O,aj,bH,a.O,C,n.O,a8,aD.O];exact au.next (ax,X) rfl bb ay
       . rintro ⟨e,g⟩ b a hF;simp only at a hF;rw [bX] at a;simp only [go_sem];exact an.mk ah
     clear hF a;rintro b g ⟨e,a,hF⟩;obtain ⟨F,z,C,n⟩:=a.app (x:=y) (aQ:=bn) w.cw ah ab;refine au.kp [52,51,50,9] (λv b l=>z=l/\M b 3=F/\v b) ?_ ?_
     . simp only [go_sem,hF,w.O,a.O,C,n.O];exact an.mk ⟨rfl,ay⟩
     clear hF a;rintro b _ ⟨rfl,hF⟩;simp only [go_sem,hF,q.O,q.len];generalize aC:a1 _ _ _ _ _ _ _ _ _ _=B;revert B;refine cv [52,51,50,77] (λs=> [(3,s.1)]) (λs=>s.2) (λh s=>eN (· ∈eE req p aU u) i s.2 s.1 (aA+(L.map iO).sum+bn.length+((T.take h).map lp).sum)) T.length (F,z) n ?_ ?_
     . rintro R ⟨e,g⟩ b b6 a hF;simp only at a hF|-;obtain ⟨G,K⟩: ∃j,T[R]? =some j:=ah;have bg:=uu lp K;have ca:=wR lp T (R+1);have S:=aV K;obtain ⟨aY,rfl,⟨aB,al,cZ,cY⟩⟩:=cc G S;have cU: ∀o∈aB,o∈eE req p aU u:=λo Q=>N o (h7 _ (h7 _ (kD.2 ⟨aB,cd.2 ⟨_,S,bm al⟩,Q⟩)));have a7:lp [aY]=aB.length:=by show (f aY).length=_;rw [bm al]
       rw [a7] at bg;obtain ⟨F,z,C,n⟩:=a.app (x:=aY) (aQ:=aB) al.cw ah ab;simp only [go_sem,hF,q.O,q.a_ (k:=1) K rfl,al.J,al.O,a.O,C,n.O];exact au.next (F,z) rfl (by show eN (· ∈eE req p aU u) i z F (_+_+_+((T.take (R+1)).map lp).sum);grind) ay
     . rintro ⟨e,g⟩ b a hF;simp only at a hF;rw [bX] at a;simp only [go_sem];exact au.next (e,g) rfl ah ay
   . rintro ⟨e,g⟩ b a hF;simp only at a hF;rw [bX] at a;simp only [go_sem];exact an.mk ah
 clear hF a;rintro b g ⟨e,a,hF⟩;simp only [go_sem,hF,a.O,a.nl,dX,if_true];exact ak.B_ bE a ab
theorem VD:dt 105 [.agg d] AO bQ:=by
 have cG:=aX.n1;have cF:=aX.iN;have aC: ∀h∈p++aU,iz h:=λh g=>(cr.1 g).elim (aX.b9 h) (aX.hm h);obtain ⟨cO,bf,ag,cM,ae,b4,cQ,cR,bu,⟨aO,aP,rfl,aG⟩,bx,L,⟨Y,ad,rfl,bG⟩,K,g,⟨aS,aT,rfl,bI⟩,⟨aY,aZ,rfl,bJ⟩⟩:=aX.eq;obtain ⟨b5,bb,b1,bn,ca,rfl,cd,cf,cg,ch,cj⟩:=aX.bT.eq;have R: [p,aU].flatten=p++aU:=ai;obtain ⟨bS,az⟩:=(Ds (.A [[ag],[ae]] true) [[ag],[ae]] [p,aU] (.inr ⟨_,rfl⟩) (wG L K) rfl ai (by rw [R];exact λh g=>(aC h g).row) (by rw [R];unfold b7;grind) ah).val;rw [R] at az;refine aL.run (m:=74) rfl rfl rfl rfl rfl rfl rfl rfl (bS+1048570) λbY bZ cC cE n aF=> ?_;rw [bu];simp only [bl,a6];have N: ∀ {E G},T E G/\E<4611686018427387904->b8 [[.str E G]]:=λbo h g=>by rw [bs.1 g];exact ⟨_,_,rfl,bo⟩
 refine ak.bM (λb i=>n=i/\aM 75 [(1,.W 0 [.str aO aP,b5,bb,b1,bn,ca,bf,ag,.str Y ad,ae,b4,.str aS aT,.str aY aZ])] b) ?_ ?_
 . simp only [go_sem,cd.J,cf.J,cg.J,ch.J,cj.J,bx.J,L.J,K.J,g.J];exact an.mk ⟨rfl,dC⟩
 rintro b _ ⟨rfl,hF⟩;refine ak.bF hF (λo b i=> ∃c,gw n i c 3/\aM 75 [(3,c)] b/\o b) ?_ ?_
 . simp only [go_sem,hF];exact an.mk ⟨_,⟨[[.str aO aP],[.str aS aT],[.str aY aZ]],.inr (.inl rfl),λh g=>by
    simp only [b2,dG,or_false] at g;rcases g with rfl|rfl|rfl
    . exact ⟨_,_,rfl,aG⟩
    . exact ⟨_,_,rfl,bI⟩
    . exact ⟨_,_,rfl,bJ⟩,ai,aF,U.refl _⟩,ay⟩
 clear hF;rintro b e ⟨c,a,hF⟩;refine ak.kp [1] (λo b i=> ∃c,gw n i c 4/\M b 3=c/\o b) ?_ ?_
 . obtain ⟨B,C,v,j⟩:=a.app (x:= .A [[.str Y ad]] true) (aQ:= [[.str Y ad]]) (.inl (.inr ⟨_,rfl⟩)) (N bG) ai;simp only [go_sem,hF];refine an.aE ?_ ?_<;>intro Q<;>simp only [go_sem,hF,Q,a.O,v,j.O]
   all_goals first
    |exact an.mk ⟨B,j,ay⟩
    |exact an.mk ⟨c,a.mono al,ay⟩
 clear hF a;rintro b e ⟨c,a,hF⟩;refine ak.kp [1] (λo b i=> ∃c,gw n i c (4+(p.length+aU.length))/\M b 3=c/\o b) ?_ ?_
 . have br:Z e/\U n e:=by obtain ⟨cP,-,-,-,E,G⟩:=a;grind
   obtain ⟨av,y,bg⟩:=az bY bZ ab ab e br.1;have bt:=A3 L K e;simp only [go_sem,hF,L.O,K.O,bt,bH,bg,y.O,y.len];generalize aA:a1 _ _ _ _ _ _ _ _ _ _=D;revert D;refine cv (σ:=aa×af) [1,30] (λs=> [(3,s.1)]) (λs=>s.2) (λl s=>gw n s.2 s.1 (4+l)) (p++aU).length (c,e) a (hlf:=ah) (hN:=ah) ?_ ?_
   . rintro l ⟨c,e⟩ b aD a hF;simp only at a hF|-;obtain ⟨F,z⟩: ∃h,(p++aU)[l]? =some h:=de;rw [bD] at aD;obtain ⟨ct,cu,ck,bc,bd,rfl,⟨q,r,rfl,bE⟩,⟨cm,cn,rfl,-⟩,bp,⟨bc,rfl⟩,⟨bd,rfl⟩⟩:=aC F (aV z);obtain ⟨B,C,v,j⟩:=a.app (x:= .A [[.str q r]] true) (aQ:= [[.str q r]]) (.inl (.inr ⟨_,rfl⟩)) (N bE) ah;obtain ⟨bW,b0,bN,bO,bP,bR,b6,b3,bV,bU,rfl,X,V⟩:=bp.t;simp only [bl,a6] at z;simp only [go_sem,hF,y.O,y.a_ (k:=10) z rfl,X.J,V.J,a.O,v,j.O];exact au.next (B,C) rfl j ay
   . rintro ⟨c,e⟩ b a hF;simp only at a hF;rw [bD] at a;simp only [go_sem];exact an.mk ah
 clear hF a;rintro b e ⟨c,a,hF⟩;refine ak.bM (λb i=> ∃c,gw n i c (4+(p.length+aU.length)+(u.map ju).sum)/\aM 75 [(3,c)] b) ?_ ?_
 . simp only [go_sem,hF,g.O,g.len];generalize aA:a1 _ _ _ _ _ _ _ _ _ _=D;revert D;refine cv (σ:=aa×af) [43] (λs=> [(3,s.1)]) (λs=>s.2) (λl s=>gw n s.2 s.1 (4+(p.length+aU.length)+((u.take l).map ju).sum)) u.length (c,e) a (hlf:=(by have:=nV u;omega)) (hN:=(by have:=nV u;omega)) ?_ ?_
   . rintro l ⟨c,e⟩ b aD a hF;simp only at a hF|-;obtain ⟨F,z⟩: ∃h,u[l]? =some h:=de;have bB:=uu ju z;have cD:=wR ju u (l+1);obtain ⟨cN,aj,aH,av,H,E,G,rfl,⟨q,r,rfl,bC⟩,⟨aq,w,bA,cH⟩,⟨cL,bz,cA,cz⟩,⟨cS,y,cI,aG⟩,⟨P,I,bw,cy⟩,⟨aK,rfl⟩,⟨aN,rfl⟩⟩:=aX.bh F ah;have bj:ju [.str q r,aj,aH,av,H,.int .i64 aK,.int .i64 aN]=1+P.length+aq.length:=by show 1+(f H).length+(f aj).length=_;rw [bm w,bm I]
     rw [bj] at bB;generalize cx:4+(p.length+aU.length)+((u.take l).map ju).sum=ba at*;refine au.kp [45,44,43] (λo b i=>e=i/\ ∃aR,M b 3=c/\M b 7= .W aR [.str q r,aj,aH,av,H,.int .i64 aK,.int .i64 aN]/\o b) ?_ ?_
     . simp only [go_sem,hF,g.O,g.a_ (k:=7) z rfl,w.J,bz.J,y.J,I.J];exact an.mk ⟨rfl,_,by simp only [go_sem,hF];trivial⟩
     clear hF;rintro b _ ⟨rfl,aR,hF⟩;obtain ⟨B,C,v,j⟩:=a.app (x:= .A [[.str q r]] true) (aQ:= [[.str q r]]) (.inl (.inr ⟨_,rfl⟩)) (N bC) ah;obtain ⟨aW,ax,bk,aB⟩:=j.app (x:=H) (aQ:=P) I.cw bw ah;refine au.kp [45,44,43,7] (λo b i=>ax=i/\M b 3=aW/\o b) ?_ ?_
     . simp only [go_sem,hF,I.O,a.O,v,j.O,bk,aB.O];exact an.mk ⟨rfl,ay⟩
     clear hF;rintro b _ ⟨rfl,hF⟩;simp only [go_sem,hF,w.O,w.len];generalize aA:a1 _ _ _ _ _ _ _ _ _ _=D;revert D;refine cv [45,44,43,58] (λs=> [(3,s.1)]) (λs=>s.2) (λl s=>gw n s.2 s.1 (ba+1+P.length+l)) aq.length (aW,ax) aB ?_ ?_
     . rintro aI ⟨c,e⟩ b cB a hF;simp only at a hF|-;obtain ⟨F,S⟩: ∃h,aq[aI]? =some h:=ah;obtain ⟨cp,cq,cl,cU,cb,cc,rfl,⟨cT,cV,rfl,-⟩,⟨a7,a8,rfl,bK⟩,bq,⟨cK,bL,cJ,-⟩,⟨cb,rfl⟩,⟨cc,rfl⟩⟩:=bA F (aV S);obtain ⟨bW,b0,bN,bO,bP,bR,b6,b3,bV,bU,rfl,X,V⟩:=bq.t;obtain ⟨B,C,v,j⟩:=a.app (x:= .A [[.str a7 a8]] true) (aQ:= [[.str a7 a8]]) (.inl (.inr ⟨_,rfl⟩)) (N bK) ah;simp only [bl,a6] at S;simp only [go_sem,hF,w.O,w.a_ (k:=11) S rfl,X.J,V.J,bL.J];refine au.aE ?_ ?_<;>intro Q<;>simp only [go_sem,hF,Q,a.O,v,j.O]
       all_goals first
        |exact au.next (B,C) rfl j ay
        |exact au.next (c,e) rfl (by show gw n e c (_+(aI+1));exact a.mono ab) ay
     . rintro ⟨c,e⟩ b a hF;simp only at a hF;simp only [go_sem];exact au.next (c,e) rfl ah ay
   . rintro ⟨c,e⟩ b a hF;simp only at a hF;rw [bX] at a;simp only [go_sem];exact an.mk ah
 clear hF a;rintro b e ⟨c,a,hF⟩;simp only [go_sem,hF,a.O,a.nl,dX,if_true];exact ak.Sv aF a ab
end
abbrev gz (t:TypeId) (vs:List aa):Prop:= ∀a,ew prog a t vs
def lz (P:Program) (t:TypeId):Option (List TypeId):=match P.underlying t with
 |some (.struct a)=>if sk P t then some (a.toList.map (·.type)) else none
 |_=>none
def Lb: ∀(a:List TypeId) (vs:List aa),(∀n,lH prog (ew prog n) a vs)->lH prog gz a vs
 | [],vs,b=>b 0
 | h::a,vs,b=>by
   obtain ⟨d,c,e,g,-,-⟩:=b 0;have o: ∀n,ew prog n h d/\lH prog (ew prog n) a c:=λn=>by
    obtain ⟨i,j,f,m,k,l⟩:=b n;rw [e] at f;obtain ⟨rfl,rfl⟩:=List.append_inj f ab
    grind
   exact ⟨d,c,e,g,ah,Lb a c ah⟩
def mi {t:TypeId} {b vs} (a:lz prog t=some b) (c:gz t vs):lH prog gz b vs:=by
 unfold lz at a;split at a
 . next e g=>
   split at a
   . next f=>
     cases a;refine Lb _ _ λd=> ?_;have:=c (d+1);unfold ew at this
     grind
   grind
 grind
def kZ {t:TypeId} {vs} (c:prog.underlying t=some (.int .i64)) (b:gz t vs): ∃a,vs= [.int .i64 a]:=by
 have:=b 1;unfold ew at this
 grind
def abB:prog.underlying 9=some .string:=ai
def i_ {vs} (a:gz 9 vs): ∃l m,vs= [.str l m]/\T l m/\l<4611686018427387904:=by
 have:=a 1;unfold ew at this;rw [abB] at this;obtain ⟨l,m,rfl,b,c⟩:=this;exact ⟨l,m,rfl,c,by unfold reachBytes at b;omega⟩
def jH {t e:TypeId} {k:Nat} {vs} (i:prog.underlying t=some (.slice e)) (g:prog.cellsOf e=k) (h:0<k) (f:gz t vs): ∃x rows,vs= [x]/\F x rows/\iS x=1+hY rows/\ ∀r∈rows,r.length=k/\gz e r:=by
 have a:=f 1;unfold ew at a;rw [i] at a;obtain ⟨x,rows,rfl,c,-,n⟩:=a (by rw [g];exact h);refine ⟨x,rows,rfl,c,?_,λr o=>⟨ah,λl=> ?_⟩⟩
 . rcases c with ⟨rfl,rfl⟩|⟨m,rfl⟩<;>simp [iS,hY]
 . have b:=f (l+1);unfold ew at b;rw [i] at b;obtain ⟨s,q,d,j,-,p⟩:=b (by rw [g];exact h);simp only [jn,and_true] at d;subst d;obtain rfl:=qe c j
   grind
def qM (c:Nat) (f:List aa->Nat): ∀(rows:Y),(∀r∈rows,c*f r<=E r)->c*(rows.map f).sum<=hY rows
 | [],_=>by simp
 |r::rows,a=>by have b:=a r (dF ..);have d:=qM c f rows ah;simp only [fS,kE,hY,Nat.mul_add];omega
def Mr: ∀(rows:Y),(rows.map λ_=>1).sum=rows.length
 | []=>rfl
 |_::l=>by rw [fS,kE,Mr l,cl];omega
def kP (c:Nat) (rows:Y) (a: ∀r∈rows,c<=E r):c*rows.length<=hY rows:=by
 have:=qM c (λ_=>1) rows ah;rw [Mr] at this;omega
def l5 {r:List aa}: ∀ {rows:Y},r∈rows->E r<=hY rows
 | b::rows,a=>by
   rcases b2.1 a with rfl|a
   . simp only [hY];omega
   . have:=l5 a;simp only [hY];omega
def Fa:prog.underlying 33=some (.slice 35):=ai
def A8:prog.cellsOf 35=6:=aq
def ZL:lz prog 35=some [32,3,9,9,33,33]:=aq
def abf:prog.underlying 32=some (.int .i64):=ai
def na:prog.underlying 3=some (.int .i64):=ai
def nu (t:TypeId) (b:prog.cellsOf t=1) {a:List aa} (c:a.length=prog.cellsOf t): ∃x,a= [x]:=CZ.1 (c.trans b)
def oD {r:List aa} (e:gz 35 r): ∃k n a c b d y z ky i,r= [.int .i64 k,.int .i64 n,.str a c,.str b d,y,z]/\T a c/\T b d/\a<4611686018427387904/\b<4611686018427387904/\
    F y ky/\F z i/\E r=6+hY ky+hY i/\(∀x∈ky,gz 35 x)/\ ∀x∈i,gz 35 x:=by
 obtain ⟨A,I,rfl,-,f,B,J,rfl,-,g,C,K,rfl,-,h,D,L,rfl,-,j,G,M,rfl,-,l,H,N,rfl,-,m,rfl⟩:=mi ZL e;obtain ⟨k,rfl⟩:=kZ abf f;obtain ⟨n,rfl⟩:=kZ na g;obtain ⟨a,c,rfl,t,q⟩:=i_ h;obtain ⟨b,d,rfl,u,s⟩:=i_ j;obtain ⟨y,ky,rfl,o,v,O⟩:=jH Fa A8 al l;obtain ⟨z,i,rfl,p,w,P⟩:=jH Fa A8 al m;refine ⟨k,n,a,c,b,d,y,z,ky,i,rfl,t,u,q,s,o,p,?_,ah,ah⟩;simp only [bl,a6,E,v,w,iS];omega
def qS: ∀(N:Nat) (r:List aa),E r<=N->N<4611686018427387904->gz 35 r->aN r
 |0,r,o,_,c=>by obtain ⟨p,v,q,t,s,u,w,x,g,h,rfl,m,n,k,l,e,f,d,i,j⟩:=oD c;omega
 | N+1,r,o,z,c=>by
   obtain ⟨p,v,q,t,s,u,w,x,g,h,rfl,m,n,k,l,e,f,d,i,j⟩:=oD c;have y: ∀a,gz 35 a->1<=E a:=λa b=>by obtain ⟨_,_,_,_,_,_,_,_,_,_,-,-,-,-,-,-,-,d,-⟩:=oD b;omega
   have A:=kP 1 g ah;have B:=kP 1 h ah;exact .mk ⟨rfl,m,n,k,l,e,f,ab,ab⟩ (λa b=>qS N a (by have:=l5 b;omega) ab (i a b)) (λa b=>qS N a (by have:=l5 b;omega) ab (j a b))
theorem XM {E:Env} {b:List Nat} {k:IntKind} {a:Int} {l:List aa} {tm:List aa} {H:af}:hy E .max b (.int k a::l) tm H=bb (mR k a l) tm H:=by unfold hy;rfl
@[go_sem] theorem afI (E:Env) (g:List Nat) (a b c d:Int) (tm H):hy E .max g [.int .i64 a,.int .i64 b,.int .i64 c,.int .i64 d] tm H= .ok (.int .i64 (max (max (max a b) c) d)) tm H:=by
 have e: ∀(a b:Int) (f:List aa),mR .i64 a (.int .i64 b::f)=mR .i64 (max a b) f:=λa b f=>by
  rw [mR,if_pos rfl];split
  . rw [Int.max_eq_right ab]
  . rw [Int.max_eq_left ab]
 rw [XM,e,e,e,mR,zq]
open Classical in
theorem Br {f:Nat} {g:List aa->List aa} {rows:Y} {ad n:Nat} {H:af} (h: ∀r∈rows,∃b,∀tm,az G (X G R ad n) f (g r) H tm= .ok (.bool b) tm H): ∃p:List aa->Bool,∀r∈rows,∀tm,az G (X G R ad n) f (g r) H tm= .ok (.bool (p r)) tm H:=by refine ⟨λr=>if bh: ∃b,∀tm,az G (X G R ad n) f (g r) H tm= .ok (.bool b) tm H then bh.choose else false,λr bh=> ?_⟩;have:=h r bh;simp only [dif_pos this];exact this.choose_spec
def Gn (m i:Nat):en m i∈List.range 256:=h9.2 (by unfold en;exact tF _ al)
def MP:d G R 103 (λp:Nat×Nat=>T p.1 p.2) (λp=> [.str p.1 p.2]) (λp=> .bool (isName p.1 p.2)):=by
 obtain ⟨J,t⟩:=C.all (l:=List.range 256) (f:=170) (g:=λa=> [.int .u8 (a:Nat)]) (v:=λa=> .bool (isLet a)) λa _=>DC _;obtain ⟨K,u⟩:=C.all (l:=List.range 256) (f:=171) (g:=λa=> [.int .u8 (a:Nat)]) (v:=λa=> .bool (qd a)) λa _=>Dv _;refine d.run (m:=27) rfl rfl rfl rfl (λ_=>rfl) (λ_ _=>rfl) rfl rfl (J+K+42) λz A N O D I x c=> ?_;obtain ⟨h,o⟩:=D;have t:=λi=>t z A ab ab (en o 0) (Gn _ _) x i c;have u:=λa i=>u z A ab ab (en o a) (Gn _ _) x i c;have E:(h==0&&o==0)=decide (h=0):=by rw [jU];simp;exact I.zero
 simp only [go_sem,E];refine e.aE ?_ ?_<;>intro j<;>simp only [go_sem,j]
 . exact e.b c (U.refl _) (by simp at j;simp [isName,j])
 have F:0<h:=by simp at j;omega
 refine e.aE ?_ ?_<;>intro s<;>simp only [go_sem,s,F,t]
 . exact e.b c (U.refl _) (by simp at s;simp [isName];omega)
 have H:h<=40:=by simp at s;omega
 refine e.aE ?_ ?_<;>intro q<;>simp only [go_sem,q]
 rotate_left
 . exact e.b c (U.refl _) (by simp [isName,q])
 generalize M:a1 _ _ _ _ _ _ _ _ _ _=B;revert B;have hF:=trivial;refine dA [0] (λn=> ∀a,a<n->qd (en o a)=true) h (λa k=>by omega) ?_ ?_
 . intro n L i y w hF;simp only [go_sem,hF,y,u n];refine au.aE ?_ ?_<;>intro r<;>simp only [go_sem,r]
   . refine au.next () rfl (λa k=> ?_) ay;rcases Nat.lt_succ_iff_lt_or_eq.1 k with k|rfl
     . exact w a k
     . exact r
   . refine au.stop rfl ?_;simp only [go_sem,hF];exact e.b c (U.refl _) (by simp [isName];exact λ_ _ _=>⟨n,y,r⟩)
 . intro L i w hF;simp only [go_sem,hF];exact e.b c (U.refl _) (by simp [isName,q];exact ⟨⟨ab,H⟩,w⟩)
def abw:d G R 102 (λp:Nat×Nat=>T p.1 p.2) (λp=> [.str p.1 p.2]) (λp=> .bool (!isName p.1 p.2)):=by
 obtain ⟨h,a⟩:=MP;refine d.run (m:=5) rfl rfl rfl rfl (λ_=>rfl) (λ_ _=>rfl) rfl rfl h λj l o q f g c b=> ?_;obtain ⟨i,k⟩:=f;have a:=λn=>a j l ab ab (i,k) g c n b;simp only at a;simp only [go_sem,a];exact e.mk rfl b (U.refl _)
def Vv {r} (c:aN r):dt 108 [.agg r] dI bQ:=by
 obtain ⟨k,a⟩:=((Dz c).mono (S':=dI) (λ_ h=>by obtain ⟨b,f,-⟩:=h;exact ⟨b,f⟩) λ_ g=>g).bW;refine aL.run (m:=5) rfl rfl rfl rfl rfl rfl rfl rfl k λl n o p e d=> ?_;obtain ⟨b,a⟩:=a l n ab ab e d;obtain ⟨y,z,q,s,u,v,B,A,x,w,rfl,j,i⟩:=c.t;simp only [go_sem,j.J,i.J,a];exact ak.bW d (U.refl _)
def Vu {d:List aa} {s:List aa} {bo bk rop bm bp req p ae u:Y} (q:fz d s bo bk rop bm bp req p ae u):dt 62 [.agg d] dI bQ:=by
 have bZ:=q.n1;have bY:=q.iN;have bO: ∀a∈p++ae,iz a:=λa b=>(cr.1 b).elim (q.b9 a) (q.hm a);obtain ⟨aW,F⟩:=abw;obtain ⟨aX,I⟩:=dE (l:=eE req p ae u) (Q:=λa o i=>aN a-> ∀h,Z h-> ∃r,∀e,az G (X G R o i) 108 [.agg a] h e= .ok (.bool r) e h) λa _=>by
  by_cases b:aN a
  . obtain ⟨aU,aK⟩:=(Vv b).bW;exact ⟨aU,λo i F I _ h j=>aK o i F I h j⟩
  . exact ⟨0,λ_ _ _ _ aw=>absurd aw b⟩
 obtain ⟨aY,ax⟩:=(VD q).val;obtain ⟨aZ,aA⟩:=(U7 q).val;obtain ⟨cw,ar,bg,ca,ba,bn,cC,cF,aI,⟨bc,bd,rfl,-⟩,w,P,⟨a7,a8,rfl,-⟩,M,b,⟨bq,br,rfl,-⟩,⟨bx,bz,rfl,-⟩⟩:=q.eq;obtain ⟨bs,al,bj,av,bw,rfl,bB,bC,bD,bE,bG⟩:=q.bT.eq;refine aL.run (m:=74) rfl rfl rfl rfl rfl rfl rfl rfl (aW+aX+aY+aZ+1048570) λo i bU bV h j=> ?_;obtain ⟨i,rfl⟩: ∃bb,i=bb+2:=⟨i-2,ab⟩;obtain ⟨bt,⟨bf,ag,N,bX⟩,D⟩:=ax o (i+2) ab ab h j;obtain ⟨bu,⟨aj,ah,S,b2⟩,E⟩:=aA o (i+2) ab ab h j;have ao:=Du bt (.fn (.func 102) [] []) bf (λa=>match a with| [.str y r]=> !isName y r|_=>false) ag (qK N) ab rfl (λ_=>rfl) (λa b cD=>by obtain ⟨y,r,rfl,-⟩:=N a b;rfl) o i ab h j (λa b e=>by obtain ⟨y,r,rfl,aO,-⟩:=N a b;simp only [eg,a6,fw,jj];exact F o i ab ab (y,r) aO h e j);obtain ⟨ai,B⟩:=Br (f:=108) (g:=λa=> [.agg a]) (rows:=aj) (ad:=o) (n:=i) (H:=h) λa b=>I o i ab ab a (S a b).2 (S a b).1 h j;have aq:=Ut bu (.fn (.func 108) [] []) aj ai ah (λa b=>(S a b).1.len) ab rfl (λ_=>rfl) o i ab h j (λa b e=>by simp only [eg,a6,fw];exact B a b e);rw [aI] at D E|-;simp only [bl,a6] at D E|-;refine ak.bM (λe t=>h=t/\aM 75 [(1,.W 0 [.str bc bd,bs,al,bj,av,bw,ar,bg,.str a7 a8,ba,bn,.str bq br,.str bx bz])] e) ?_ ?_
 . simp only [go_sem,bB.J,bC.J,bD.J,bE.J,bG.J,w.J,P.J,M.J,b.J];exact an.mk ⟨rfl,dC⟩
 rintro e _ ⟨rfl,hF⟩;refine ak.bF hF (λA e t=>h=t/\A e) ?_ ?_
 . simp only [go_sem,hF,P.O,P.len]
   iterate 5 all_goals try (refine an.aE ?_ ?_<;>intro v<;>simp only [go_sem,hF,v,M.O,M.len,w.O,w.len,b.O,b.len])
   all_goals first
    |exact an.mk ⟨rfl,ay⟩
    |exact an.stop rfl (by simp only [go_sem,hF];exact ak.bW j (U.refl _))
 clear hF;rintro e _ ⟨rfl,hF⟩;refine ak.bF hF (λA e t=>h=t/\A e) ?_ ?_
 . simp only [go_sem,hF,w.O,w.len];generalize aD:a1 _ _ _ _ _ _ _ _ _ _=C;revert C;refine cv [1,31] (λ_=> []) (λ_=>h) (λV s=>True) req.length () trivial ?_ ?_
   . rintro V _ e L _ hF;obtain ⟨af,z⟩:=bA L;obtain ⟨bH,bI,aT,y,r,rfl,aB,aG,⟨b5,x,aJ,-⟩,⟨ct,rfl⟩,⟨cu,rfl⟩⟩:=q.kx af (aV z);obtain ⟨b7,cp,cg,cj,ch,ck,cH,cJ,cb,cd,aC,-,-⟩:=aB.ea;obtain ⟨b8,cq,cx,cA,cy,cB,cI,cK,cc,cf,aH,-,-⟩:=aG.ea;obtain ⟨rfl,aP,aR⟩:=aC.c;obtain ⟨rfl,aQ,aS⟩:=aH.c;simp only [bl,a6] at z;simp only [go_sem,hF,w.O,w.a_ (k:=15) z rfl,aP.J,aR.J,aQ.J,aS.J,x.J,x.O,x.len];refine au.aE ?_ ?_<;>intro v<;>simp only [go_sem,v]
     all_goals first
      |exact au.next () rfl trivial ay
      |exact au.stop rfl (by simp only [go_sem];exact an.stop rfl (by simp only [go_sem,hF];exact ak.bW j (U.refl _)))
   . intro s e aF hF;simp only [go_sem];exact an.mk ⟨rfl,ay⟩
 clear hF;rintro e _ ⟨rfl,hF⟩;refine ak.bF hF (λA e t=>h=t/\A e) ?_ ?_
 . simp only [go_sem,hF,b.O,b.len];generalize aD:a1 _ _ _ _ _ _ _ _ _ _=C;revert C;refine cv (σ:=Unit) [1,43] (λ_=> []) (λ_=>h) (λV s=>True) u.length () trivial (hlf:=(by have:=nV u;omega)) (hN:=(by have:=nV u;omega)) ?_ ?_
   . rintro V _ e L _ hF;obtain ⟨af,z⟩:=bA L;obtain ⟨cn,ai,aT,cE,bL,y,r,rfl,⟨bJ,bK,rfl,-⟩,⟨cz,B,b1,b0⟩,⟨b6,x,aJ,bS⟩,⟨cG,T,b4,b3⟩,⟨bN,K,bR,bP⟩,⟨cl,rfl⟩,⟨cm,rfl⟩⟩:=q.bh af (aV z);simp only [go_sem,hF,b.O,b.a_ (k:=7) z rfl,B.J,x.J,T.J,K.J,B.O,B.len,x.O,x.len,T.O,T.len,K.O,K.len];refine au.aE ?_ ?_<;>intro v<;>simp only [go_sem,v]
     all_goals first
      |exact au.next () rfl trivial ay
      |exact au.stop rfl (by simp only [go_sem];exact an.stop rfl (by simp only [go_sem,hF];exact ak.bW j (U.refl _)))
   . intro s e aF hF;simp only [go_sem];exact an.mk ⟨rfl,ay⟩
 clear hF;rintro e _ ⟨rfl,hF⟩;simp only [go_sem,hF,D,ag.O,ao];refine ak.aE ?_ ?_<;>intro v<;>simp only [go_sem,hF,v,E,ah.O,aq]
 all_goals exact ak.bW j (U.refl _)
end Go.aj
