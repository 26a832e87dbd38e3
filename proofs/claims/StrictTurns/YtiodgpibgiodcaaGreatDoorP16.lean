/- A part of the proof. -/
import Derived.KernelRfl
import Derived.Shelf.Lays
import Derived.Shelf.Slices.In.SortNone
import Derived.Shelf.Sort.Plain
import Derived.Test.YtiodgpibgiodcaaGreatDoorP00
import Derived.Test.YtiodgpibgiodcaaGreatDoorP02
import Derived.Test.YtiodgpibgiodcaaGreatDoorP03
import Derived.Test.YtiodgpibgiodcaaGreatDoorP07
import Derived.Test.YtiodgpibgiodcaaGreatDoorP09
import Derived.Test.YtiodgpibgiodcaaGreatDoorP10
import Derived.Test.YtiodgpibgiodcaaGreatDoorP12
import Derived.Test.YtiodgpibgiodcaaGreatDoorP15
import Derived.Test.YtiodgpibgiodcaaGreatDoorProg
set_option linter.all false
set_option maxHeartbeats 4000000
namespace Go.aj
open Go Go.Proofs.Tryz
set_option maxRecDepth 100000
def abj:prog.underlying 22=some (.slice 9):=ai
def PE:prog.cellsOf 9=1:=aq
def abe:prog.underlying 50=some (.slice 3):=ai
def Px:prog.cellsOf 3=1:=aq
def aba:prog.underlying 23=some (.slice 166):=ai
def Pl:prog.cellsOf 166=2:=aq
def ZA:lz prog 166=some [9,9]:=aq
def abh:prog.underlying 48=some (.slice 88):=ai
def PC:prog.cellsOf 88=2:=aq
def ZI:lz prog 88=some [9,9]:=aq
def MK:prog.underlying 24=some (.slice 52):=ai
def Gx:prog.cellsOf 52=7:=aq
def ZG:lz prog 52=some [9,22,9,48,3,49,50]:=aq
def aa9:prog.underlying 49=some (.int .i64):=ai
def abb:prog.underlying 27=some (.slice 81):=ai
def Pp:prog.cellsOf 81=15:=aq
def ZE:lz prog 81=some [35,35,33,3,3]:=aq
def MH:prog.underlying 28=some (.slice 83):=ai
def Gt:prog.cellsOf 83=10:=aq
def ZC:lz prog 83=some [9,9,35,3,3]:=aq
def abg:prog.underlying 61=some (.slice 85):=ai
def PB:prog.cellsOf 85=11:=aq
def ZH:lz prog 85=some [9,9,35,33,3,3]:=aq
def abc:prog.underlying 62=some (.slice 114):=ai
def Pq:prog.cellsOf 114=1:=aq
def ZF:lz prog 114=some [33]:=aq
def abi:prog.underlying 29=some (.slice 64):=ai
def PD:prog.cellsOf 64=7:=aq
def ZJ:lz prog 64=some [9,61,33,62,22,3,3]:=aq
def ZK:lz prog 26=some [22,23,24,24,22]:=aq
def ZD:lz prog 31=some [9,26,27,28,9,28,29,9,9]:=aq
def xo {vs} (f:gz 22 vs): ∃x rows,vs= [x]/\F x rows/\iS x=1+hY rows/\b8 rows/\rows.length<=hY rows:=by
 obtain ⟨x,rows,rfl,h,i,g⟩:=jH abj PE al f;have e: ∀a∈rows,∃b c,a= [.str b c]/\T b c/\b<4611686018427387904:=λa d=>i_ (g a d).2;refine ⟨x,rows,rfl,h,i,e,?_⟩;have:=kP 1 rows λa d=>by obtain ⟨b,c,rfl,-⟩:=e a d;simp [E,iS]
 omega
def F0 {vs} (e:lH prog gz [9,9] vs):gd vs/\E vs=2:=by
 obtain ⟨l,n,rfl,-,f,m,o,rfl,-,g,rfl⟩:=e;obtain ⟨a,b,rfl,j,h⟩:=i_ f;obtain ⟨c,d,rfl,k,i⟩:=i_ g;exact ⟨⟨a,b,c,d,rfl,j,k,h,i⟩,by simp [E,iS]⟩
def xp {N:Nat} (hN:N<1048576) {vs} (d:gz 33 vs) (e:E vs<=N): ∃x rows,vs= [x]/\F x rows/\iS x=1+hY rows/\(∀r∈rows,aN r)/\6*rows.length<=hY rows:=by
 obtain ⟨x,rows,rfl,f,c,b⟩:=jH Fa A8 al d;simp only [E,c] at e;refine ⟨x,rows,rfl,f,c,λr a=>qS N r (by have:=l5 a;omega) ab (b r a).2,kP 6 rows λr a=> ?_⟩;obtain ⟨_,_,_,_,_,_,_,_,_,_,-,-,-,-,-,-,-,g,-⟩:=oD (b r a).2;omega
def FZ {N:Nat} (hN:N<1048576) {r} (q:gz 52 r) (C:E r<=N):c6 r/\pA r/\7<=E r:=by
 obtain ⟨R,Z,rfl,-,s,S,aa,rfl,-,t,T,ad,rfl,-,u,U,ae,rfl,-,v,V,af,rfl,-,w,W,ag,rfl,-,x,X,ai,rfl,-,y,rfl⟩:=mi ZG q;obtain ⟨e,g,rfl,L,J⟩:=i_ s;obtain ⟨j,k,rfl,z,O,G,an⟩:=xo t;obtain ⟨f,h,rfl,M,K⟩:=i_ u;obtain ⟨o,i,rfl,B,P,H⟩:=jH abh PC al v;obtain ⟨c,rfl⟩:=kZ na w;obtain ⟨n,rfl⟩:=kZ aa9 x;obtain ⟨p,d,rfl,D,Q,I⟩:=jH abe Px al y;have aj: ∀a∈i,gd a/\E a=2:=λa b=>F0 (mi ZI (H a b).2);have l: ∀a∈d,∃c,a= [.int .i64 c]:=λa b=>kZ na (I a b).2;have ao:=kP 2 i ah;have F:=kP 1 d λa b=>by obtain ⟨c,rfl⟩:=l a b;simp [E,iS]
 simp only [bl,a6,E,O,P,Q,iS] at C|-;have m:fB [.str e g,j,.str f h,o,.int .i64 c,.int .i64 n,p] e g k f h d:=⟨⟨j,o,p,c,n,rfl,z,D,i,B,ab,ah⟩,L,M,J,K,G,ab,l,ab⟩;refine ⟨⟨e,g,k,f,h,d,m⟩,λak aq Y F ar au A=> ?_,ab⟩;obtain ⟨-,-,rfl,-,-,rfl⟩:=m.uniq A;omega
def N1 {N:Nat} (hN:N<1048560) {r} (m:gz 81 r) (h:E r<=N):xb r/\2*e7 r<=E r:=by
 obtain ⟨a,x,rfl,G,f,b,y,rfl,H,g,u,z,rfl,-,n,v,A,rfl,-,o,w,B,rfl,-,p,rfl⟩:=mi ZE m;obtain ⟨c,rfl⟩:=kZ na o;obtain ⟨d,rfl⟩:=kZ na p;simp only [sj] at h|-;obtain ⟨e,t,rfl,i,s,q,F⟩:=xp (N:=N) ab n ab;have j:=qS N a ab ab f;have k:=qS N b ab ab g;obtain ⟨_,_,_,_,_,_,_,_,_,_,-,-,-,-,-,-,-,C,-⟩:=oD f;obtain ⟨_,_,_,_,_,_,_,_,_,_,-,-,-,-,-,-,-,D,-⟩:=oD g;simp only [E,s] at h|-;have l:a++(b++([e]++([aa.int .i64 c]++([aa.int .i64 d]++ []))))=a++b++ [e,.int .i64 c,.int .i64 d]:=ai;rw [l];refine ⟨⟨a,b,e,_,_,rfl,j,k,⟨t,i,q,ab⟩,⟨c,rfl⟩,⟨d,rfl⟩⟩,?_⟩;unfold e7;rw [BF j.len k.len,bm i];omega
def FY {N:Nat} (hN:N<1048560) {r} (j:gz 83 r) (c:E r<=N):iz r/\10<=E r:=by
 obtain ⟨u,y,rfl,-,k,v,z,rfl,-,l,a,A,rfl,F,b,w,B,rfl,-,m,x,C,rfl,-,n,rfl⟩:=mi ZC j;obtain ⟨d,f,rfl,q,o⟩:=i_ k;obtain ⟨e,g,rfl,s,p⟩:=i_ l;obtain ⟨h,rfl⟩:=kZ na m;obtain ⟨i,rfl⟩:=kZ na n;simp only [sj] at c|-;have t:=qS N a ab ab b;obtain ⟨_,_,_,_,_,_,_,_,_,_,-,-,-,-,-,-,-,D,-⟩:=oD b;simp only [E,iS] at c|-;refine ⟨⟨.str d f,.str e g,a,.int .i64 h,.int .i64 i,ai,⟨d,f,rfl,q,o⟩,⟨e,g,rfl,s,p⟩,t,⟨h,rfl⟩,⟨i,rfl⟩⟩,ab⟩
def N3 {N:Nat} (hN:N<1048560) {r} (o:gz 85 r) (j:E r<=N):lG r/\2*iO r<=E r/\11<=E r:=by
 obtain ⟨C,I,rfl,-,p,D,J,rfl,-,q,a,K,rfl,S,i,F,L,rfl,-,s,G,O,rfl,-,t,H,P,rfl,-,u,rfl⟩:=mi ZH o;obtain ⟨c,e,rfl,A,y⟩:=i_ p;obtain ⟨d,f,rfl,B,z⟩:=i_ q;obtain ⟨g,rfl⟩:=kZ na t;obtain ⟨h,rfl⟩:=kZ na u;simp only [sj] at j|-;obtain ⟨b,x,rfl,k,w,v,R⟩:=xp (N:=N) ab s ab;have l:=qS N a ab ab i;obtain ⟨_,_,_,_,_,_,_,_,_,_,-,-,-,-,-,-,-,Q,-⟩:=oD i;simp only [E,iS,w] at j|-;have m: [aa.str c e]++([aa.str d f]++(a++([b]++([aa.int .i64 g]++([aa.int .i64 h]++ [])))))= [.str c e,.str d f]++a++ [b,.int .i64 g,.int .i64 h]:=ai;rw [m];refine ⟨⟨_,_,a,b,_,_,rfl,⟨c,e,rfl,A,y⟩,⟨d,f,rfl,B,z⟩,l,⟨x,k,v,ab⟩,⟨g,rfl⟩,⟨h,rfl⟩⟩,?_,ab⟩;have n:M ([.str c e,.str d f]++a++ [b,.int .i64 g,.int .i64 h]) 8=b:=by
  match a,l.len with
  | [T,U,V,W,X,Y],_=>rfl
 unfold iO;rw [n,bm k];omega
def N2 {N:Nat} (hN:N<1048560) {r} (d:gz 114 r) (a:E r<=N):AE r/\2*lp r<=E r/\1<=E r:=by
 obtain ⟨j,k,rfl,-,e,rfl⟩:=mi ZF d;simp only [sj] at a|-;obtain ⟨c,i,rfl,b,h,g,l⟩:=xp (N:=N) ab e ab;simp only [E,h] at a|-;refine ⟨⟨c,rfl,i,b,g,ab⟩,?_,ab⟩;show 2*(f c).length<=_;rw [bm b];omega
def N4 {N:Nat} (hN:N<1048560) {r} (p:gz 64 r) (k:E r<=N):lI r/\2*kJ r<=E r/\ju r+6<=E r:=by
 obtain ⟨P,W,rfl,-,q,Q,X,rfl,-,s,R,Y,rfl,-,t,S,Z,rfl,-,u,T,aa,rfl,-,v,U,ad,rfl,-,w,V,ae,rfl,-,x,rfl⟩:=mi ZJ p;obtain ⟨B,C,rfl,K,J⟩:=i_ q;obtain ⟨g,c,rfl,e,M,H⟩:=jH abg PB al s;obtain ⟨n,d,rfl,l,O,I⟩:=jH abc Pq al u;obtain ⟨h,o,rfl,i,L,G,aj⟩:=xo v;obtain ⟨D,rfl⟩:=kZ na w;obtain ⟨F,rfl⟩:=kZ na x;simp only [sj] at k|-;obtain ⟨m,A,rfl,j,z,y,ai⟩:=xp (N:=N) ab t ab;simp only [E,iS,M,O,L,z] at k|-;have af: ∀a∈c,lG a/\2*iO a<=E a/\11<=E a:=λa b=>N3 hN (H a b).2 (by have:=l5 b;omega);have ag: ∀a∈d,AE a/\2*lp a<=E a/\1<=E a:=λa b=>N2 hN (I a b).2 (by have:=l5 b;omega);have ak:=qM 2 iO c ah;have an:=kP 11 c ah;have ao:=qM 2 lp d ah;have aq:=kP 1 d ah;simp only [bl,a6];refine ⟨⟨_,g,m,n,h,_,_,rfl,⟨B,C,rfl,K,J⟩,⟨c,e,ah,ab⟩,⟨A,j,y,ab⟩,⟨d,l,ah,ab⟩,⟨o,i,G,ab⟩,⟨D,rfl⟩,⟨F,rfl⟩⟩,?_,?_⟩
 . show 2*(((f g).map iO).sum+(f m).length+((f n).map lp).sum)<=_;rw [bm e,bm j,bm l];omega
 . show 1+(f h).length+(f g).length+6<=_;rw [bm i,bm e];omega
def N0 {N:Nat} (hN:N<1048571) {vs} (x:gz 31 vs) (f:E vs<=N): ∃s kN jv rop j3 c req p b u,fz vs s kN jv rop j3 c req p b u/\ ∀r∈rop++j3,pA r:=by
 obtain ⟨aG,aP,rfl,-,d,aH,aQ,rfl,-,e,aI,aR,rfl,-,y,aJ,aS,rfl,-,z,aK,aT,rfl,-,A,aL,aU,rfl,-,B,aM,aV,rfl,-,C,aN,aW,rfl,-,D,aO,aX,rfl,-,F,rfl⟩:=mi ZD x;obtain ⟨aY,ba,rfl,-,K,aZ,bb,rfl,-,L,a1,bc,rfl,-,M,a7,bd,rfl,-,O,a8,bf,rfl,-,P,rfl⟩:=mi ZK e;obtain ⟨U,V,rfl,ao,ad⟩:=i_ d;obtain ⟨ak,kN,rfl,bk,aE,v,bx⟩:=xo K;obtain ⟨h,jv,rfl,bg,ax,k⟩:=jH aba Pl al L;obtain ⟨X,rop,rfl,bj,aC,q⟩:=jH MK Gx al M;obtain ⟨j,j3,rfl,bh,az,m⟩:=jH MK Gx al O;obtain ⟨an,c,rfl,bm,aF,w,bz⟩:=xo P;obtain ⟨i,req,rfl,G,ay,l⟩:=jH abb Pp al y;obtain ⟨W,p,rfl,I,aB,o⟩:=jH MH Gt al z;obtain ⟨Q,R,rfl,aq,ae⟩:=i_ A;obtain ⟨T,b,rfl,H,aA,n⟩:=jH MH Gt al B;obtain ⟨aa,u,rfl,J,aD,t⟩:=jH abi PD al C;obtain ⟨ai,aj,rfl,ar,af⟩:=i_ D;obtain ⟨av,aw,rfl,au,ag⟩:=i_ F;simp only [bl,a6,E,iS,aE,ax,aC,az,aF,ay,aB,aA,aD] at f;have bA: ∀r∈jv,gd r/\E r=2:=λr a=>F0 (mi ZA (k r a).2);have bE: ∀r∈rop,c6 r/\pA r/\7<=E r:=λr a=>FZ (N:=N) ab (q r a).2 (by have:=l5 a;omega);have bB: ∀r∈j3,c6 r/\pA r/\7<=E r:=λr a=>FZ (N:=N) ab (m r a).2 (by have:=l5 a;omega);have Y: ∀r∈req,xb r/\2*e7 r<=E r:=λr a=>N1 (N:=N-13) ab (l r a).2 (by have:=l5 a;omega);have bD: ∀r∈p,iz r/\10<=E r:=λr a=>FY (N:=N-13) ab (o r a).2 (by have:=l5 a;omega);have bC: ∀r∈b,iz r/\10<=E r:=λr a=>FY (N:=N-13) ab (n r a).2 (by have:=l5 a;omega);have Z: ∀r∈u,lI r/\2*kJ r<=E r/\ju r+6<=E r:=λr a=>N4 (N:=N-13) ab (t r a).2 (by have:=l5 a;omega);have bn:=kP 2 jv ah;have bo:=kP 7 rop ah;have bp:=kP 7 j3 ah;have bq:=qM 2 e7 req ah;have br:=kP 10 p ah;have bs:=kP 10 b ah;have bt:=qM 2 kJ u ah;have bu:=qM 1 ju u ah;have bw:=kP 4 req λr a=>by have:=(Y r a).2;unfold e7 at this;omega
 refine ⟨[ak,h,X,j,an],kN,jv,rop,j3,c,req,p,b,u,⟨⟨_,i,W,_,T,aa,_,_,rfl,⟨U,V,rfl,ao,ad⟩,G,I,⟨Q,R,rfl,aq,ae⟩,H,J,⟨ai,aj,rfl,ar,af⟩,⟨av,aw,rfl,au,ag⟩⟩,⟨ah,v,ah,ah,ah,w,ab⟩,
  ah,ah,ah,ah,ab,?_⟩,ah⟩
 cases u with
 |nil=>grind
 | cons g S=>
   have d:=(Z g (dF ..)).2.2;have e:=qM 1 ju S ah;simp only [fS,kE,hY] at f|-;omega
def i1:Nat->List aa->Nat
 |0,_=>0
 |b+1,a=>1+(f (M a 5)).length+((f (M a 4)).map (i1 b)).sum
def ahL (d:Nat) {k n:Int} {l1 m1 c e:Nat} {y z:aa} {ky i:Y} (a:F y ky) (b:F z i):i1 (d+1) [.int .i64 k,.int .i64 n,.str l1 m1,.str c e,y,z]=1+i.length+(ky.map (i1 d)).sum:=by
 show 1+(f z).length+((f y).map (i1 d)).sum=_;rw [bm a,bm b]
def ahX {r n} (b:e1 r n): ∀d,i1 d r<=n:=by
 induction b with
 | @mk r t n v x w y z A q u h b s k p _=>
   intro d
   cases d with
   |zero=>exact fV _
   | succ d=>
     obtain ⟨rfl,l,m⟩:=b.c;rw [ahL d l m,vR,List.sum_append];have j: ∀e:Y,(∀a∈e,i1 d a<=h a)->(e.map (i1 d)).sum<=(e.map h).sum:=λe b=>by
      induction e with
      |nil=>exact aT _
      |cons i e o=>have:=b i (dF ..);have:=o λa g=>b a (h8 _ g);simp only [fS,kE];omega
     have:=j q λa g=>p a g d;have:=qq (f:=h) λa g=>(k a g).pos;omega
def l_.g_ {r b} (a:l_ r b): ∀d,i1 d b=i1 d r:=by
 induction a with
 | @mk r k s n p o q t u l m j a _ _ h _=>
   intro d
   cases d with
   |zero=>rfl
   | succ d=>
     obtain ⟨rfl,f,g⟩:=a.c;rw [ahL d f g,ahL d (fW _) (fW _),di,tB];congr 2;exact vS λi e=>h i e d
def l_.dl {r h} (a:l_ r h): ∀ {d},om d r->om d h:=by
 induction a with
 | @mk r p w s u t v n A m q o a _ _ l _=>
   intro d b
   cases d with
   |zero=>exact b
   | succ d=>
     obtain ⟨rfl,k,-⟩:=a.c;intro y x i j z f;cases i;rw [qe j (fW _)] at f;obtain ⟨g,e,rfl⟩:=cd.1 f;exact l g e (b n m rfl k g e)
def l_.abS {B r h} (a:l_ r h):ek B r->ek B h:=by
 induction a with
 | @mk r u z v x w y A C o p g a _ _ m n=>
   intro j
   cases j with
   | mk d q s k l=>
     have f:=a.eq.symm.trans d.eq;simp only [jn,aa.int.injEq,aa.str.injEq,and_true,true_and] at f;obtain ⟨rfl,rfl,⟨rfl,rfl⟩,⟨rfl,rfl⟩,rfl,rfl⟩:=f;obtain rfl:=qe a.dh d.dh;obtain rfl:=qe a.cq d.cq;exact .mk (ky:=o.map g) (i:=p.map g) ⟨rfl,a.c5,a.pw,a.s1,a.s2,fW _,fW _,by rw [di];exact a.zm,by rw [di];exact a.Kn⟩ (by rw [di];exact q) (by rw [di];exact s)
      (λt e=>by obtain ⟨c,b,rfl⟩:=cd.1 e;exact m c b (k c b)) λt e=>by obtain ⟨c,b,rfl⟩:=cd.1 e;exact n c b (l c b)
def l_.uniq {r a} (c:l_ r a): ∀ {b},l_ r b->a=b:=by
 induction c with
 | @mk r o z v x w y B D q t m c _ _ k l=>
   intro b h
   cases h with
   | @mk _ p A _ _ _ _ C E s u n f i j=>
     have g:=c.eq.symm.trans f.eq;simp only [jn,aa.int.injEq,aa.str.injEq,and_true,true_and] at g;obtain ⟨rfl,rfl,⟨rfl,rfl⟩,⟨rfl,rfl⟩,rfl,rfl⟩:=g;obtain rfl:=qe c.dh f.dh;obtain rfl:=qe c.cq f.cq;rw [vS λe d=>k e d (i e d),vS λe d=>l e d (j e d)]
def ahQ: ∀ {d r},aN r->om d r->i1 d r<=100000->K 20 [.agg r] (.int .i64 (i1 d r:Nat))
 |0,_,_,p,_=>p.elim
 | d +1,r,ah,Z,ae=>by
   obtain ⟨aF,aM,aI,aK,aJ,aL,aw,aO,b,s,p,D,-⟩:=ah.ea;obtain ⟨rfl,j,q⟩:=p.c;rw [ahL d j q] at ae|-;have af:=λ(a:List aa) i=>o3 (f:=i1 d) (l:=b) (x:=a) i;obtain ⟨aj,y⟩:=C.all (l:=b) (f:=20) (g:=λa=> [.agg a]) (v:=λa=> .int .i64 (i1 d a:Nat)) λa i=>ahQ (D a i) (Z aw b rfl j a i) (by have:=af a i;omega);have aE:=p.zm;refine C.run (m:=22) rfl rfl rfl rfl rfl rfl rfl rfl (aj+b.length+10) λal aq aB aD w G=> ?_;have y:=λa i n=>y al aq ab ab a i w n G;have ar:IntKind.i64.wrap (1+((s.length:Nat):Int))=((1+s.length:Nat):Int):=by rw [wrap64 _ ab ab];omega
   simp only [go_sem,j.J,q.J,q.O,q.len,j.O,j.len,ar];have hF:=trivial;generalize aA:a1 _ _ _ _ _ _ _ _ _ _=N;revert N;refine cv [11] (λh=> [(3,.int .i64 (h:Nat))]) (λ_=>w) (λo h=>h=1+s.length+((b.take o).map (i1 d)).sum) b.length (1+s.length) ai ?_ ?_
   . rintro o h n ad z hF;obtain ⟨u,A⟩:=bA ad;have E:=aV A;have T:=y u E;have F:=D u E;have ag:=j.a_ (k:=6) A F.len;have V:((b.take (o+1)).map (i1 d)).sum=((b.take o).map (i1 d)).sum+i1 d u:=by rw [fg,A];simp
     have aC:=si (i1 d) b (o+1);generalize i1 d u=B at*;have av:IntKind.i64.wrap (((h:Nat):Int)+((B:Nat):Int))=((h+B:Nat):Int):=by rw [wrap64 _ ab ab];omega
     obtain ⟨ak,ao,P,Q,R,S,ax,az,aG,aH,rfl,X,Y⟩:=F.t;refine au.kp [13,12,3,11] (λI n L=>w=L/\ ∃H,M n 5= .W H [.int .i64 ak,.int .i64 ao,.str P Q,.str R S,ax,az]/\I n) ?_ ?_
     . simp only [go_sem,hF,j.O,ag,X.J,Y.J];exact an.mk ⟨rfl,_,by simp only [go_sem,hF];trivial⟩
     clear hF;rintro n _ ⟨rfl,H,hF⟩;simp only [go_sem,hF,T,av];exact au.next (h+B) rfl (by show _=_;rw [V];omega) ay
   . rintro h n z hF;rw [bX] at z;simp only [go_sem,hF,z];exact e.mk rfl G (U.refl _)
section
variable (rop kN jv j3:Y)
def i7 (b c:List aa):Prop:=om 60 b/\ ∃a g e f,FK rop kN jv j3 b a g e/\a=some f/\l_ (cj f 4 e) c
end
section
variable {rop kN jv j3:Y}
theorem i7.sp {v c:List aa} {B:Nat} (ad:B<1000000) (N:ek B v) (j:i7 rop kN jv j3 v c):ek (B+32) c/\ ∃q t x c0 U,f (M v 4)=q::t/\x∈f (M q 4)/\l_ x c0/\f (M c 4)=c0::U:=by
 obtain ⟨-,Y,X,au,l,⟨aq,w,E,h,aj,ak,av,ai,a,b,rfl,-,rfl⟩,Q,r⟩:=j;have K:=(Al b.Ef.hS b.FX).1;obtain ⟨y,T,ag,an,aw,ay,az,q,ar,rfl,P,ah,ao,ax,W,aA,rfl,af,e⟩:=Md ab K N Q;have R:=SB ⟨b.Ef.c5,b.cQ⟩ b.Ef.hS b.FX b.gE;refine ⟨r.abS (vg y ab T al R),?_⟩;have ae:=b.gE;have Z:=b.FX;obtain ⟨G,H,o,C⟩:=M6 b.Ef.hS (i:=((a+1:Nat):Int)) ab ab;have J:(((a+1:Nat):Int)-1).toNat=a:=ab;rw [J] at o C;have L:a<(f W).length:=by have:=(e6.1 o).1;omega
 obtain ⟨x,D⟩:=bA L;have O:dw l (a+2)=some x:=DT (i:=a+1) y (by rw [e,tA];unfold k2;rw [hO,(ahO (z:=((a+2,G,H),x))).2 ⟨o,D⟩];rfl);have m: ∃g,cj l 4 (Cc w E h a)= [.int .i64 7,.int .i64 0,.str 0 0,.str 0 0,dk (x::g),.V]:=by
  have e:=BM l 3 (k:=7) 0 (l1:=0) (m1:=0) 0 0 al (.inr ⟨_,rfl⟩:F (.A [jA h ((a+1:Nat):Int),cm (fe w) (gD w E a) (.A ((cp h).eraseIdx a) false)] true) [_,_]) (.inr ⟨_,rfl⟩:F cM [_]);have I:cj l 3 (jA h ((a+1:Nat):Int))=x:=by rw [C,BN y ab,O];rfl
  rw [fS,I] at e;exact ⟨_,e⟩
 obtain ⟨g,m⟩:=m;rw [m] at r
 cases r with
 | mk n j S _=>
   have e:=j.eq;simp only [jn,aa.int.injEq,aa.str.injEq,and_true,true_and] at e;obtain ⟨rfl,-,-,-,rfl,-⟩:=e;obtain rfl:=qe j.dh (fW _);exact ⟨_,_,x,n x,g.map n,P,aV D,S x (dF ..),by show f (dk (List.map n (x::g)))=_;exact bm (fW _)⟩
theorem i7.fin (x:List aa): ∃l:Y,∀c,i7 rop kN jv j3 x c->c∈l:=by
 classical
 let o:List aa->Nat->List aa->Prop:=λa b c=> ∃l h f m n i g j,fB a l h f m n i/\i[b]? =some [.int .i64 ((g+1:Nat):Int)]/\sd kN jv (eZ rop) (j3.map ct) l h (hh f) x []=some j/\l_ (cj j 4 (Cc l h f g)) c;let q:List aa->Nat->List aa:=λa b=>if z: ∃c,o a b c then Classical.choose z else []
 refine ⟨rop.flatMap λa=>(List.range 8).map (q a),λc D=> ?_⟩;obtain ⟨-,G,F,M,j,⟨a,l,h,f,m,n,i,b,g,e,rfl,-,rfl⟩,v,r⟩:=D;have B:b<8:=by have:=(e6.1 e.dp).1;have:=e.ag7;omega
 refine fC.2 ⟨a,e.mem,cd.2 ⟨b,h9.2 B,?_⟩⟩;have k: ∃c,o a b c:=⟨c,l,h,f,m,n,i,g,j,e.Ef,e.dp,v,r⟩;have y:q a b=Classical.choose k:=dif_pos k;rw [y];obtain ⟨I,K,H,J,L,O,E,P,C,t,w,A⟩:=Classical.choose_spec k;obtain ⟨rfl,rfl,rfl,rfl,rfl,rfl⟩:=C.uniq e.Ef;rw [e.dp] at t;simp only [N,jn,aa.int.injEq,and_true,true_and] at t;obtain rfl:g=E:=ab;rw [v] at w;cases w;exact A.uniq r
end
section
variable {d s:List aa} {kN jv rop j3 aJ req p aU u:Y} (aX:fz d s kN jv rop j3 aJ req p aU u) (nO:oA kN jv rop j3 aJ req p aU u)
include aX nO
theorem ahP {h:List aa} {B:Nat} (A:B<=100000) (j:ek B h):bo λad n=> ∀H,Tidy H-> ∃c e,(aN c/\(e=0->i7 rop kN jv j3 h c))/\ ∀tm,az G (X G R ad n) 10 [.agg d,.agg h] H tm= .ok (.av [.agg c,.int .i64 e]) tm H:=by
 obtain ⟨F,y⟩:=Va aX nO j.i0;obtain ⟨I,z⟩:=Jb aX j (f:=10) (b:=true) rfl λv r t c=>Zg aX r t c A j;refine ⟨F+I+1,λad n M N H l=> ?_⟩;obtain ⟨n,rfl⟩:=bY n;obtain ⟨L,k,w⟩: ∃m,Av p rop u kN jv j3 aJ h m/\ ∀tm,az G (X G R ad n) 27 [.agg d,.agg h] H tm= .ok m tm H:=by
  rcases y ad n ab ab H l with a|⟨_,a,-⟩
  . exact a
  . exact a.elim
 rcases z ad n ab ab L H l k w with ⟨c,g,rfl,i⟩|⟨v,rfl,O,x,i⟩
 . exact ⟨_,_,⟨w7,λa=>absurd a g⟩,i⟩
 . have E:om 60 h:=by
    rcases k with ⟨_,-,-,-,-,-,a⟩|⟨c,g,e⟩
    . exact a
    . simp only [aa.av.injEq,jn,aa.int.injEq,and_true,true_and] at e;exact absurd e.2.symm g
   rcases x with rfl|⟨q,o,J,K,c,D,C,-,-,-,g,rfl⟩
   . exact ⟨_,_,⟨w7,λa=>by cases a⟩,i⟩
   . exact ⟨_,_,⟨g.i0,λ_=>⟨E,q,o,J,K,D,C,g⟩⟩,i⟩
end
section
variable {d:List aa} {s:List aa} {kN jv rop j3 aJ req p aU u:Y} (aX:fz d s kN jv rop j3 aJ req p aU u)
include aX
theorem YT: ∀t∈m1 req p aU u,aN t:=by
 intro t a;rcases cr.1 a with a|a
 . rcases cr.1 a with a|a
   . obtain ⟨c,e,a⟩:=fC.1 a;obtain ⟨x,P,m,h,i,rfl,b,r,⟨S,j,k,-⟩,-⟩:=aX.kx c e;rw [xO b.len r.len,bm j] at a;simp only [bl,a6,b2] at a;rcases a with rfl|rfl|a
     . exact b
     . exact r
     . exact k _ a
   . obtain ⟨c,e,rfl⟩:=cd.1 a;obtain ⟨L,s,o,h,i,rfl,-,-,q,-⟩:=(cr.1 e).elim (aX.b9 c) (aX.hm c);have B:dQ ([L,s]++o++ [h,i])=o:=by unfold dQ;rw [fu,qh ai];simp [q.len]
     rw [B];exact q
 . obtain ⟨c,e,a⟩:=fC.1 a;obtain ⟨M,g,m,w,A,h,i,rfl,-,⟨N,E,F,-⟩,⟨K,j,k,-⟩,⟨O,G,H,-⟩,-⟩:=aX.bh c e;have C:hB [M,g,m,w,A,h,i]=N.flatMap (λg=>dd g::cu g)++K++O.flatMap cC:=by show (f g).flatMap _++f m++(f w).flatMap cC=_;rw [bm E,bm j,bm G]
   rw [C] at a;rcases cr.1 a with a|a
   . rcases cr.1 a with a|a
     . obtain ⟨n,l,a⟩:=fC.1 a;obtain ⟨Q,R,x,W,U,V,rfl,-,-,b,⟨T,I,J,-⟩,-⟩:=F n l;rw [zy b.len,zz b.len,bm I] at a;rcases b2.1 a with rfl|a
       . exact b
       . exact J _ a
     . exact k _ a
   . obtain ⟨n,l,a⟩:=fC.1 a;obtain ⟨y,rfl,⟨z,D,v,-⟩⟩:=H n l;have:f y=z:=bm D;rw [<-this] at v;exact v _ a
theorem Vh (aR: ∀r∈rop++j3,pA r):bo λad n=> ∀H,Tidy H->
  ∃b:Bool,(b=true->sv kN jv rop j3 aJ/\oA kN jv rop j3 aJ req p aU u)/\ ∀tm,az G (X G R ad n) 15 [.agg d] H tm= .ok (.bool b) tm H:=by
 obtain ⟨bc,aa⟩:=VJ aX.bT aR;obtain ⟨bd,A⟩:=VG aX;have a8:=YT aX;have bS:=K8 req p aU u;have bK:=aX.n1;have bI:=aX.iN;have bX:u.length<1048559:=by have:=nV u;omega
 obtain ⟨bf,aQ⟩:=Jz (m1 req p aU u) a8 ab;obtain ⟨b0,v,aq,bW,ai,av,b1,b2,aW,⟨aj,ao,rfl,-⟩,C,I,⟨ag,ah,rfl,-⟩,E,c,⟨ax,aA,rfl,-⟩,⟨aG,aH,rfl,-⟩⟩:=aX.eq;obtain ⟨aB,T,ar,Y,aF,rfl,bq,br,bs,bt,bu⟩:=aX.bT.eq;rw [aW] at A|-;simp only [bl,a6] at aa A|-;refine ⟨bc+bd+bf+1048570,λad n bG bH H q=>sG ?_⟩;obtain ⟨n,rfl⟩:=bY n;obtain ⟨x,aS,V⟩:=aa ad n ab ab H q;obtain ⟨aD,ae,aO⟩: ∃aC,F aC (m1 req p aU u)/\ ∀tm,az G (X G R ad n) 34 [.agg [.str aj ao,aB,T,ar,Y,aF,v,aq,.str ag ah,ai,av,.str ax aA,.str aG aH]] H tm= .ok aC tm H:=by
  rcases A ad n ab ab H q with h|⟨_,h,-⟩
  . exact h
  . exact h.elim
 obtain ⟨y,aT,z⟩:=aQ ad n ab ab aD 2500 H al ae q;have z: ∀tm,az G (X G R ad n) 21 [.int .i64 2500,aD] H tm= .ok (.bool y) tm H:=z;refine aL.at (m:=58) (rs:= [.tmp 2]) rfl rfl rfl rfl rfl rfl rfl rfl ?_;have N: ∀ {a},a=H->ak (j9 (sv kN jv rop j3 aJ/\oA kN jv rop j3 aJ req p aU u)) bQ H (.ret (.bool false) a):=λ{a} v=>by subst v;exact ak.mk ⟨false,rfl,λh=>by cases h⟩ rfl q (U.refl _)
 obtain ⟨f,bO⟩: ∃f:Nat,f=req.length+p.length+aU.length+u.length:=⟨_,rfl⟩;have P:IntKind.i64.wrap ((req.length:Int)+(p.length:Int))=(req.length:Int)+(p.length:Int):=wrap64 _ ab ab;have Q:IntKind.i64.wrap ((req.length:Int)+(p.length:Int)+(aU.length:Int))=(req.length:Int)+(p.length:Int)+(aU.length:Int):=wrap64 _ ab ab;have S:IntKind.i64.wrap ((req.length:Int)+(p.length:Int)+(aU.length:Int)+(u.length:Int))=(f:Nat):=by rw [wrap64 _ ab ab];omega
 refine ak.bM (λtm a=>H=a/\aM 59 [(1,.W 0 [.str aj ao,aB,T,ar,Y,aF,v,aq,.str ag ah,ai,av,.str ax aA,.str aG aH]),(2,.bool false)] tm) ?_ ?_
 . simp only [go_sem,bq.J,br.J,bs.J,bt.J,bu.J,C.J,I.J,E.J,c.J];exact an.mk ⟨rfl,dC⟩
 rintro tm _ ⟨rfl,hF⟩;refine ak.bF hF (λo tm a=>H=a/\aM 59 [(3,.int .i64 (f:Nat))] tm/\o tm) ?_ ?_
 . simp only [go_sem,hF,C.O,I.O,E.O,c.O,C.len,I.len,E.len,c.len,P,Q,S];exact an.mk ⟨rfl,ay⟩
 clear hF;rintro tm _ ⟨rfl,hF⟩;by_cases bx:f>400
 . have t:decide ((f:Int)>400)=true:=decide_eq_true ab;simp only [go_sem,hF,t];exact N rfl
 have t:decide ((f:Int)>400)=false:=decide_eq_false ab
 cases x with
 | false=>
   simp only [go_sem,hF,t,V];exact N rfl
 |true=>
 simp only [go_sem,hF,t,V,c.O,c.len];generalize bz:a1 _ _ _ _ _ _ _ _ _ _=aI;revert aI;refine cv [1,30] (λs=> [(3,.int .i64 s)]) (λ_=>H) (λbb s=>0<=s/\s<=900) u.length f ⟨ab,ab⟩ ?_ ?_
 . clear hF;rintro bb s tm aY ⟨bP,bR⟩ hF;obtain ⟨bp,af⟩:=bA aY;have aZ:=aV af;obtain ⟨bZ,bk,ba,bm,aN,bw,b,rfl,⟨aK,x,rfl,-⟩,⟨e,K,bN,bL⟩,⟨w,D,bE,bD⟩,⟨g,L,bV,bU⟩,⟨i,B,bC,bB⟩,⟨bg,rfl⟩,⟨bj,rfl⟩⟩:=aX.bh bp aZ;have P:IntKind.i64.wrap ((e.length:Int)+(g.length:Int))=(e.length:Int)+(g.length:Int):=wrap64 _ ab ab;have Q:IntKind.i64.wrap ((e.length:Int)+(g.length:Int)+(i.length:Int))=(e.length:Int)+(g.length:Int)+(i.length:Int):=wrap64 _ ab ab;have S:IntKind.i64.wrap ((e.length:Int)+(g.length:Int)+(i.length:Int)+(w.length:Int))=(e.length:Int)+(g.length:Int)+(i.length:Int)+(w.length:Int):=wrap64 _ ab ab;obtain ⟨l,a7⟩: ∃l:Int,l=s+((e.length:Int)+(g.length:Int)+(i.length:Int)+(w.length:Int)):=⟨_,rfl⟩;have bn:IntKind.i64.wrap (s+((e.length:Int)+(g.length:Int)+(i.length:Int)+(w.length:Int)))=l:=by rw [a7];exact wrap64 _ ab ab
   refine au.kp [32,31,1,3,30] (λo tm a=>H=a/\ ∃aw,M tm 5= .W aw [.str aK x,bk,ba,bm,aN,.int .i64 bg,.int .i64 bj]/\o tm) ?_ ?_
   . simp only [go_sem,hF,c.O,c.a_ (k:=7) af rfl,K.J,D.J,L.J,B.J];exact an.mk ⟨rfl,_,by simp only [go_sem,hF];trivial⟩
   clear hF;rintro tm _ ⟨rfl,aw,hF⟩;refine au.kp [32,31,1,30] (λo tm a=>H=a/\M tm 3= .int .i64 l/\o tm) ?_ ?_
   . simp only [go_sem,hF,K.len,D.len,L.len,B.len,K.O,D.O,L.O,B.O,P,Q,S,bn];exact an.mk ⟨rfl,ay⟩
   clear hF;rintro tm _ ⟨rfl,hF⟩;simp only [go_sem,hF];refine au.aE ?_ ?_<;>intro Z<;>try simp only [go_sem,Z]
   . exact au.stop rfl (by simp only [go_sem,hF];exact N rfl)
   . have aP:l<=900:=by simpa using Z
     exact au.next l rfl ⟨ab,aP⟩ ay
 . clear hF;rintro s tm-hF;simp only [go_sem,hF,aO,ae.O,z];refine ak.mk (show j9 (sv kN jv rop j3 aJ/\oA kN jv rop j3 aJ req p aU u) (.bool y) from ⟨y,rfl,λh=> ?_⟩) rfl q (U.refl _);have j:=aS rfl;exact ⟨j,⟨by have:=j.so;have:=j.be;have:=j.op;have:=j.bJ;omega,λr c=>j.aac r (h7 _ c),2500,(aT h).perm (Yn ..),al⟩⟩
end
theorem U_:K 8 [] (.bool true):=C.cL (p:=KK) rfl rfl rfl rfl λ_=>rfl
section
variable {d:List aa} {s:List aa} {kN jv rop j3 aJ req p aU u:Y} (aX:fz d s kN jv rop j3 aJ req p aU u)
include aX
theorem Vl (S: ∀r∈rop++j3,pA r) {f:List aa} (a:aN f):bo λad n=> ∀H,Tidy H->
  ∃b:Bool,(b=true->sv kN jv rop j3 aJ/\oA kN jv rop j3 aJ req p aU u/\bL [f] 1500)/\ ∀tm,az G (X G R ad n) 7 [.agg d,.agg f] H tm= .ok (.bool b) tm H:=by
 obtain ⟨Y,i⟩:=Vh aX S;obtain ⟨Z,Q⟩:=Jz [f] (λr c=>by rw [bs.1 c];exact a) ai;obtain ⟨ay,af,aB,ao,aw,aD,aH,aK,W,⟨ax,aA,rfl,-⟩,y,B,⟨aq,ar,rfl,-⟩,z,c,⟨aE,aF,rfl,-⟩,⟨aM,aO,rfl,-⟩⟩:=aX.eq;obtain ⟨aG,ae,aC,ag,aI,rfl,F,I,K,L,M⟩:=aX.bT.eq;rw [W] at i|-;simp only [bl,a6] at i|-;have ah:=k7 a.row;have V:=jc a;obtain ⟨C,D,j,k,l,o,E,N,au,av,rfl,v,w⟩:=a.t;refine ⟨Y+Z+10,λad n aj an H e=>sG ?_⟩;obtain ⟨n,rfl⟩:=bY n;obtain ⟨O,x,q⟩:=i ad n ab ab H e;obtain ⟨P,T,g⟩:=Q ad n ab ab (.A [[.int .i64 C,.int .i64 D,.str j k,.str l o,E,N]] true) 1500 H al (.inr ⟨_,rfl⟩) e;have g: ∀tm,az G (X G R ad n) 21 [.int .i64 1500,.A [[.int .i64 C,.int .i64 D,.str j k,.str l o,E,N]] true] H tm= .ok (.bool P) tm H:=g;refine aL.at (m:=10) (rs:= [.tmp 4]) rfl rfl rfl rfl rfl rfl rfl rfl ?_
 cases O with
 | false=>
   simp only [go_sem,F.J,I.J,K.J,L.J,M.J,y.J,B.J,z.J,c.J,v.J,w.J,q];exact ak.gg e (U.refl _) λh=>by cases h
 | true=>
   simp only [go_sem,F.J,I.J,K.J,L.J,M.J,y.J,B.J,z.J,c.J,v.J,w.J,q,V,bH,g];exact ak.gg e (U.refl _) λh=>⟨(x rfl).1,(x rfl).2,T h⟩
end
section
variable (d:List aa) (ad n:Nat)
def ahK:Nat->List aa->Prop
 |0,_=>False
 | l +1,j=> ∀a,Tidy a-> ∃c i,(aN c/\(i=0-> ∃k m h o e g,f (M j 4)=k::m/\f (M c 4)=h::o/\g<e/\e<=100000/\
     (∀a b,Tidy a->az G (X G R ad n) 20 [.agg k] a b= .ok (.int .i64 (e:Nat)) b a)/\(∀a b,Tidy a->az G (X G R ad n) 20 [.agg h] a b= .ok (.int .i64 (g:Nat)) b a)/\ahK l c))/\
     ∀b,az G (X G R ad n) 10 [.agg d,.agg j] a b= .ok (.av [.agg c,.int .i64 i]) b a
end
section
variable {d s:List aa} {kN jv rop j3 aJ req p aU u:Y} (aX:fz d s kN jv rop j3 aJ req p aU u) (nO:oA kN jv rop j3 aJ req p aU u)
include aX nO
theorem ahU: ∀i {g B},ek B g->B+32*i<=90000->(∀q t,f (M g 4)=q::t->om i q/\ ∀e,i1 e q<=100000)->bo λad n=>ahK d ad n (i+1) g:=by
 intro i
 induction i with
 | zero=>
   intro g B m af D;obtain ⟨I,o⟩:=ahP aX nO ab m;refine ⟨I,λad n x C a F=> ?_⟩;obtain ⟨b,e,⟨A,j⟩,h⟩:=o ad n x C a F;refine ⟨b,e,⟨A,λc=> ?_⟩,h⟩;obtain ⟨-,q,t,v,k,y,o,-⟩:=(j c).sp ab m;exact (D q t o).1.elim
 | succ i ai=>
   intro g B m af D;obtain ⟨I,o⟩:=ahP aX nO ab m;obtain ⟨aq,x⟩:=i7.fin (kN:=kN) (jv:=jv) (j3:=j3) g;obtain ⟨aj,Y⟩:=dE (l:=aq) (Q:=λb ad n=>i7 rop kN jv j3 g b-> ∃q t k y z K,f (M g 4)=q::t/\f (M b 4)=k::y/\K<z/\z<=100000/\
    (∀a r,Tidy a->az G (X G R ad n) 20 [.agg q] a r= .ok (.int .i64 (z:Nat)) r a)/\(∀a r,Tidy a->az G (X G R ad n) 20 [.agg k] a r= .ok (.int .i64 (K:Nat)) r a)/\ahK d ad n (i+1) b) λb _=>by
    by_cases j:i7 rop kN jv j3 g b
    . obtain ⟨ag,q,t,v,k,y,h,W,w,L⟩:=j.sp ab m;obtain ⟨S,E⟩:=D q t h;have T:aN q:=(m.kids.2 q (by rw [h];exact dF ..)).i0;obtain ⟨ao,ax,ar,av,au,aw,J,ay,V,aB,rfl,H,ah⟩:=T.t;have U:v∈V:=by
       have:v∈f J:=W
       rwa [bm H] at this
      have O: ∀e,i1 e v<i1 (e+1) [.int .i64 ao,.int .i64 ax,.str ar av,.str au aw,J,ay]:=λe=>by rw [ahL e H ah];have:=o3 (f:=i1 e) U;omega
      have N:=w.dl (S J V rfl H v U);have P: ∀e,i1 e k<=100000:=λe=>by have:=O e;have:=E (e+1);rw [w.g_ e];omega
      obtain ⟨ak,Z⟩:=ai ag ab λaC aD c=>by rw [L] at c;cases c;exact ⟨N,P⟩
      obtain ⟨al,aa⟩:=ahQ T S (E _);obtain ⟨an,ae⟩:=ahQ w.i0 N (P _);refine ⟨ak+al+an,λad n x C _=>⟨_,t,k,y,_,_,h,L,?_,E _,aa ad n ab ab,ae ad n ab ab,Z ad n ab ab⟩⟩;rw [w.g_];exact O i
    . exact ⟨0,λ_ _ _ _ c=>absurd c j⟩
   refine ⟨I+aj,λad n aA C a F=> ?_⟩;obtain ⟨b,e,⟨A,j⟩,h⟩:=o ad n ab ab a F;exact ⟨b,e,⟨A,λc=>Y ad n ab ab b (x b (j c)) (j c)⟩,h⟩
theorem ahV {c:List aa} {N:Nat} (g:e1 c N) (hN:N<=1500):bo λad n=>ahK d ad n 60 c:=by
 by_cases i: ∀a e,f (M c 4)=a::e->om 59 a
 . refine ahU aX nO 59 (B:=N) g.abS ab λa e b=>⟨i a e b,λh=> ?_⟩;have j:=ahX g (h+1);have F:i1 h a<=i1 (h+1) c:=by have:=o3 (f:=i1 h) (l:=f (M c 4)) (x:=a) (by rw [b];exact dF ..);show _<=1+_+_;omega
   omega
 . obtain ⟨D,j⟩:=ahP aX nO (B:=N) ab g.abS;refine ⟨D,λad n y z o A=> ?_⟩;obtain ⟨q,b,⟨w,C⟩,r⟩:=j ad n y z o A;refine ⟨q,b,⟨w,λv=>absurd (λa e b=> ?_) i⟩,r⟩;obtain ⟨G,H,J,L,K,O,m,P,E,I,rfl,k,-⟩:=g.i0.t;exact (C v).1 m E rfl k a (by rw [<-bm k,show f m=a::e from b];exact dF ..)
end
section
variable {d s:List aa} {kN jv rop j3 aJ req p aU u:Y} (aX:fz d s kN jv rop j3 aJ req p aU u)
include aX
theorem ahW (aQ: ∀r∈rop++j3,pA r) {a:List aa} (D:aN a):dt 6 [.agg d,.agg a] (λv=>v= .bool true) bQ:=by
 obtain ⟨bb,A⟩:=U_;obtain ⟨bc,B⟩:=Vl aX aQ D;obtain ⟨bd,C⟩:bo λad n=>oA kN jv rop j3 aJ req p aU u->bL [a] 1500->ahK d ad n 60 a:=by
  by_cases F:oA kN jv rop j3 aJ req p aU u/\bL [a] 1500
  . have x:=F.2.g_ (bs.2 rfl);obtain ⟨ba,aO⟩:=ahV aX F.1 x.1 x.2;exact ⟨ba,λad n l o _ _=>aO ad n l o⟩
  . exact ⟨0,λ_ _ _ _ l o=>absurd ⟨l,o⟩ F⟩
 obtain ⟨ct,q,ai,cb,af,au,cw,cx,aV,⟨ag,ah,rfl,-⟩,w,T,⟨X,Z,rfl,-⟩,S,V,⟨av,aw,rfl,-⟩,⟨aA,aB,rfl,-⟩⟩:=aX.eq;obtain ⟨ax,G,aj,K,az,rfl,aC,aD,aE,aF,aG⟩:=aX.bT.eq;rw [aV] at B C|-;simp only [bl,a6] at B C|-;have aW:=D;obtain ⟨b8,cp,bC,bD,bE,bF,cy,cD,cf,cj,rfl,M,N⟩:=aW.t;refine ⟨bb+bc+bd+100,λad n b6 b7 g e=> ?_⟩;obtain ⟨n,rfl⟩:=bY n;have aq:=λb=>A ad n ab ab g b e;obtain ⟨aK,aR,ar⟩:=B ad n ab ab g e;refine aL.at (m:=46) (rs:= [.tmp 4]) rfl rfl rfl rfl rfl rfl rfl rfl ?_
 cases aK with
 | false=>
   simp only [go_sem,aC.J,aD.J,aE.J,aF.J,aG.J,w.J,T.J,S.J,V.J,M.J,N.J,ar,aq];exact ak.mk rfl rfl e (U.refl _)
 | true=>
   obtain ⟨-,nO,x⟩:=aR rfl;have hT:=C ad n ab ab nO x;simp only [go_sem,aC.J,aD.J,aE.J,aF.J,aG.J,w.J,T.J,S.J,V.J,M.J,N.J,ar];generalize b1:a1 _ _ _ _ _ _ _ _ _ _=aI;revert aI;refine rP _ _ _ _ (λf b aH=>g=aH/\ ∃a h,aN a/\ahK [.str ag ah,ax,G,aj,K,az,q,ai,.str X Z,af,au,.str av aw,.str aA aB] ad n h a/\h+f=60/\aM 48 [(2,.W 0 [.str ag ah,ax,G,aj,K,az,q,ai,.str X Z,af,au,.str av aw,.str aA aB]),(3,.W 0 a),(12,.int .i64 (f:Nat))] b) 60 ab ⟨rfl,_,60,D,hT,rfl,by simp only [go_sem];rfl⟩ ?_;rintro f b _ b5 ⟨rfl,a,h,aZ,L,b4,hF⟩
   cases h with
   |zero=>exact L.elim
   |succ h=>
   have bz:IntKind.i64.wrap (((f:Nat):Int)+1)=((f+1:Nat):Int):=by rw [wrap64 _ ab ab];rfl
   have R:decide ((f:Int)<100)=true:=da;obtain ⟨bK,q,⟨P,a8⟩,I⟩:=L g e;obtain ⟨b9,cq,bG,bH,bI,bJ,cz,cE,bf,ck,a7,aY,-⟩:=aZ.ea;obtain ⟨ca,cr,bM,bN,bO,bP,cA,cF,bg,cl,aT,aS,-⟩:=P.ea;obtain ⟨rfl,i,al⟩:=a7.c;obtain ⟨rfl,j,an⟩:=aT.c;by_cases w:q=0
   . subst w;obtain ⟨ao,bw,H,bx,l,o,bA,bB,b3,b2,y,z,aP⟩:=a8 rfl;obtain rfl:bf=ao::bw:=(bm i).symm.trans bA;obtain rfl:bg=H::bx:=(bm j).symm.trans bB;have E:=aY ao (dF ..);have Q:=aS H (dF ..);have bk:=i.vJ (k:=6) rfl E.len;have bn:=j.vJ (k:=6) rfl Q.len;have bu:=wI (LW E.same);have y:=λb=>y g b e;have z:=λb=>z g b e;obtain ⟨cd,cv,bR,bS,bU,bV,cC,cH,ch,cn,rfl,bp,bq⟩:=E.t;obtain ⟨cc,cu,bW,bX,bZ,b0,cB,cG,cg,cm,rfl,br,bt⟩:=Q.t;have bh: ∀ae:Y,(((ae.length+1:Nat):Int)==0)=false:=λae=>da;have bj:decide (((o:Nat):Int)>=((l:Nat):Int))=false:=da;simp only [go_sem,hF,R,i.J,al.J,j.J,an.J,bp.J,bq.J,br.J,bt.J,I,i.O,i.len,j.O,j.len,bk,bn,y,z,bh,bj,bu,bz];exact dy.next (by show f<60;omega) ⟨rfl,_,h,P,aP,ab,ay⟩
   . have A:(q !=0)=true:=by simpa using w
     simp only [go_sem,hF,R,i.J,al.J,j.J,an.J,I,A,aq];refine dy.stop rfl ?_;simp only [go_sem,hF];exact ak.mk rfl rfl e (U.refl _)
end
end Go.aj
namespace Go.Proofs
open Go.Shelf
def Tryz.VY:Go.Shelf.Ren:=⟨λ|190=>194|125=>255|258=>254|128=>323|129=>324|302=>314|303=>315|304=>316|305=>317|306=>318|307=>319|308=>320|309=>321|310=>322|333=>357|329=>358|330=>359|334=>360|335=>361|336=>298|344=>377|n=>n,λ|31=>22|9=>9|3=>3|46=>260|0=>0|51=>295|53=>309|4=>4|183=>321|182=>320|131=>207|5=>5|218=>346|222=>288|228=>365|229=>241|n=>n,λ|n=>n⟩
def Tryz.JR:Go.Proofs.Lays.n190 Tryz.prog Tryz.VY:= {
 mixed:=by kernel_rfl,
 f125:=Tryz.func255.trans (congrArg some (by kernel_rfl)),
 f128:=Tryz.func323.trans (congrArg some (by kernel_rfl)),
 f129:=Tryz.func324.trans (congrArg some (by kernel_rfl)),
 f190:=Tryz.func194.trans (congrArg some (by kernel_rfl)),
 f258:=Tryz.func254.trans (congrArg some (by kernel_rfl)),
 f302:=Tryz.func314.trans (congrArg some (by kernel_rfl)),
 f303:=Tryz.func315.trans (congrArg some (by kernel_rfl)),
 f304:=Tryz.func316.trans (congrArg some (by kernel_rfl)),
 f305:=Tryz.func317.trans (congrArg some (by kernel_rfl)),
 f306:=Tryz.func318.trans (congrArg some (by kernel_rfl)),
 f307:=Tryz.func319.trans (congrArg some (by kernel_rfl)),
 f308:=Tryz.func320.trans (congrArg some (by kernel_rfl)),
 f309:=Tryz.func321.trans (congrArg some (by kernel_rfl)),
 f310:=Tryz.func322.trans (congrArg some (by kernel_rfl)),
 f329:=Tryz.func358.trans (congrArg some (by kernel_rfl)),
 f330:=Tryz.func359.trans (congrArg some (by kernel_rfl)),
 f333:=Tryz.func357.trans (congrArg some (by kernel_rfl)),
 f334:=Tryz.func360.trans (congrArg some (by kernel_rfl)),
 f335:=Tryz.func361.trans (congrArg some (by kernel_rfl)),
 f336:=Tryz.func298.trans (congrArg some (by kernel_rfl)),
 f344:=Tryz.func377.trans (congrArg some (by kernel_rfl)),
 t0:=Tryz.underlying0,
 a0:=Tryz.isAgg0,
 z0:=Tryz.sizeOf0,
 v0:=Tryz.zeroValue0,
 t3:=Tryz.underlying3,
 a3:=Tryz.isAgg3,
 z3:=Tryz.sizeOf3,
 v3:=Tryz.zeroValue3,
 t4:=Tryz.underlying4,
 a4:=Tryz.isAgg4,
 z4:=Tryz.sizeOf4,
 v4:=Tryz.zeroValue4,
 t5:=Tryz.underlying5,
 a5:=Tryz.isAgg5,
 z5:=Tryz.sizeOf5,
 v5:=Tryz.zeroValue5,
 t9:=Tryz.underlying9,
 a9:=Tryz.isAgg9,
 z9:=Tryz.sizeOf9,
 v9:=Tryz.zeroValue9,
 t31:=Tryz.underlying22,
 a31:=Tryz.isAgg22,
 z31:=Tryz.sizeOf22,
 v31:=Tryz.zeroValue22,
 t46:=Tryz.underlying260,
 a46:=Tryz.isAgg260,
 z46:=Tryz.sizeOf260,
 v46:=Tryz.zeroValue260,
 t51:=Tryz.underlying295,
 a51:=Tryz.isAgg295,
 z51:=Tryz.sizeOf295,
 v51:=Tryz.zeroValue295,
 t53:=Tryz.underlying309,
 a53:=Tryz.isAgg309,
 z53:=Tryz.sizeOf309,
 v53:=Tryz.zeroValue309,
 t131:=Tryz.underlying207,
 a131:=Tryz.isAgg207,
 z131:=Tryz.sizeOf207,
 v131:=Tryz.zeroValue207,
 t182:=Tryz.underlying320,
 a182:=Tryz.isAgg320,
 z182:=Tryz.sizeOf320,
 v182:=Tryz.zeroValue320,
 t183:=Tryz.underlying321,
 a183:=Tryz.isAgg321,
 z183:=Tryz.sizeOf321,
 v183:=Tryz.zeroValue321,
 t218:=Tryz.underlying346,
 a218:=Tryz.isAgg346,
 z218:=Tryz.sizeOf346,
 v218:=Tryz.zeroValue346,
 t222:=Tryz.underlying288,
 a222:=Tryz.isAgg288,
 z222:=Tryz.sizeOf288,
 v222:=Tryz.zeroValue288,
 t228:=Tryz.underlying365,
 a228:=Tryz.isAgg365,
 z228:=Tryz.sizeOf365,
 v228:=Tryz.zeroValue365,
 t229:=Tryz.underlying241,
 a229:=Tryz.isAgg241,
 z229:=Tryz.sizeOf241,
 v229:=Tryz.zeroValue241}
end Go.Proofs
namespace Go.aj
open Go.Sort Go.Proofs
set_option maxRecDepth 100000
def Mq {cs a:List aa} {off n:Nat} (b:sub cs off n=some a):a.length=n/\off+n<=cs.length/\ ∀j,j<n->cs[off+j]? =a[j]? :=by
 unfold sub at b;split at b
 . next d=>
   cases b;refine ⟨by rw [h6,oW];omega,d,λj c=> ?_⟩;rw [CX,if_pos c,List.getElem?_drop]
 . cases b
def Zq {ae:aF} {H:af} {w:World} (l:Q ae H w) {id c off d B b o cap len:Nat} {cs a:List aa} (k:aC ae (.ref id c off 1 len false) (.slice (some ⟨b,o,none⟩) len cap)) (q:H.get id=some (.cells c d B cs)) (t:d<=c)
    (m:sub cs off len=some a):b<w.heap.size/\ ∀j,j<len-> ∃(v:aa) (x:Value),a[j]? =some v/\w.cell? ⟨b,o+j,none⟩=some x/\aC ae v x/\w.frozen? ⟨b,o+j,none⟩=false:=by
 obtain ⟨E,V,u⟩:=Mq m;unfold aC at k
 cases k with
 | ref _ _ _ _ _ _ F h D J g L M O P R S=>
   obtain ⟨G,C,e⟩:=l.obj _ _ q;have f:=e.at_;rw [g] at f;simp only [N,bz] at f;obtain ⟨rfl,rfl,rfl⟩:=f;refine ⟨l.e3 _ _ _ _ _ g,λj y=> ?_⟩;have r:=(e.cont c b h cs.length t g).2;have i:j<a.length:=ab;obtain ⟨x,z,A⟩:=r (off+j) a[j] ab ab (by rw [u j y,lj i]);refine ⟨a[j],x,lj i,?_,A,?_⟩
   . rw [sP,<-z];congr 1;omega
   . obtain ⟨I,K,X,U,n,T,p⟩:=e.free;have W:=e.room;unfold World.frozen?;simp only [n];have:=p (off-h.s+j) ab;simpa using this
def F9 {ae:aF} {v:aa} {xs:Array Value} (b: [v].length=xs.size) (a: ∀(i:Nat) (u:aa) (x:Value),[v][i]? =some u->xs[i]? =some x->aC ae u x): ∃x,xs= #[x]/\aC ae v x:=by
 obtain ⟨c⟩:=xs
 match c,b with
 | [x],_=>exact ⟨x,rfl,a 0 _ _ rfl rfl⟩
def Hd (args:Array Value) (w:World):(callFunc 194 args).run Tryz.prog w= .ok (.enter 194 args) w:=enters_of Tryz.func194 aq rfl args w
def aan (a off cap:Nat) (b:List (List UInt8)) (w:World) (c:Holds encStr w a off b.toArray) (d:a<w.heap.size) (f:b.length<4611686018427387904):
    Calls Tryz.prog 194 #[.slice (some ⟨a,off,none⟩) b.length cap] w λe w'=>
     e= .returned (.tuple #[])/\ ∃n g,w'=grow (putRow encStr (Sort.ahead w n) a off (b.mergeSort λx y=>decide (x<=y)).toArray) g:=
 Any.slices_Sort_string Tryz.JR a off cap b w c d f
def aao (p:Option Addr) (cap:Nat) (w:World):Calls Tryz.prog 194 #[.slice p 0 cap] w λe w'=>e= .returned (.tuple #[])/\w'=w:=
 Any.slices_Sort_string_none Tryz.JR p cap w
def o8 (b:List UInt8):Nat×Nat:=(b.length,cV b)
def V1 (a b:List UInt8):decide (a<=b)=JT (o8 a) (o8 b):=by
 show _= !js b.length (cV b) a.length (cV a);rw [Gq,bytesLess_eq];by_cases c:b<a
 . have: ¬a<=b:=λd=>d c;simp [c,this]
 . have:a<=b:=c;simp [c,this]
def aak (a:List (List UInt8)):(a.mergeSort λx y=>decide (x<=y)).map o8=eW (a.map o8):=List.map_mergeSort λb _ c _=>V1 b c
def Mp: ∀ {a:List aa} {l:List (Nat×Nat)},sg a=some l->a=l.map λp=>aa.str p.1 p.2
 | [],l,b=>by cases b;rfl
 | d ::a,l,b=>by
   cases d with
   | str f g=>
     simp only [sg] at b
     cases c:sg a with
     |none=>rw [c] at b;cases b
     |some e=>rw [c] at b;cases b;rw [Mp c];rfl
   |_=>cases b
def H8 {P:Nat->List UInt8->Prop}: ∀(l:List (Nat×Nat)) (o:Nat),(∀j p,l[j]? =some p-> ∃b:List UInt8,o8 b=p/\P (o+j) b)-> ∃c:List (List UInt8),c.map o8=l/\ ∀j b,c[j]? =some b->P (o+j) b
 | [],o,_=>⟨[],rfl,λj b a=>by simp at a⟩
 | p ::l,o,a=>by
   obtain ⟨b,h,i⟩:=a 0 p rfl;obtain ⟨c,k,m⟩:=H8 (P:=P) l (o+1) λj q n=>by obtain ⟨b,f,g⟩:=a (j+1) q (by simpa using n);exact ⟨b,f,by rw [show o+1+j=o+(j+1) by omega];exact g⟩
   refine ⟨b::c,by rw [fS,h,k],λj e d=> ?_⟩
   cases j with
   |zero=>simp at d;subst d;exact i
   | succ j=>
     have:=m j e (by simpa using d);rw [show o+(j+1)=o+1+j by omega];exact this
def Yc (E:Env) (args:List aa) (H:af):e9 E Tryz.prog 194 args H (qC args H):=by
 intro a M o aG v aA I C;unfold qC at a|-;split at a
 case h_3=>exact absurd rfl a
 case h_1=>
  obtain ⟨g,rfl,b⟩:=F9 I C;unfold aC at b;cases b;refine .inl ⟨194,_,Hd _ _,(aao none 0 o).mono ?_⟩;rintro t ao ⟨rfl,rfl⟩;exact ⟨_,_,M,rfl,v,Fr.refl λ_ j=>j,.av [] #[] rfl λe z g j=>by cases j⟩
 rename_i id az aE x;obtain ⟨g,rfl,b⟩:=F9 I C;split at a
 case h_2=>exact absurd rfl a
 rename_i ay ax aF aw F;split at a
 case h_2=>exact absurd rfl a
 rename_i Y;obtain ⟨rfl,ag,X,ad⟩:=of_decide_eq_true Y;split at a
 case h_2=>exact absurd rfl a
 rename_i ar K;split at a
 case h_2=>exact absurd rfl a
 rename_i w Z;split at a
 case h_2=>exact absurd rfl a
 rename_i au ak;have D:=Mp Z;obtain ⟨N,aD,-⟩:=Mq K;have L:=b;unfold aC at L;obtain ⟨i,n,s,rfl⟩: ∃i n s,g= .slice (some ⟨i,n,none⟩) x s:=by cases L;exact ⟨_,_,_,rfl⟩
 obtain ⟨W,ah⟩:=Zq v b F X K;have ae:w.length=x:=by rw [<-N,D,di]
 obtain ⟨c,J,T⟩:=H8 (P:=λd f=>o.cell? ⟨i,d,none⟩=some (encStr f)/\o.frozen? ⟨i,d,none⟩=false) w n λd y q=>by
  have aB:=(e6.1 q).1;obtain ⟨z,A,p,u,B,R⟩:=ah d ab;rw [D,hO,q] at p;cases p;unfold aC at B
  cases B with
  | str f _ _ O Q=>
    refine ⟨f.data.toList,?_,?_,R⟩
    . unfold o8;rw [show f.data.toList.length=f.size from vM,O,show cV f.data.toList=et f from rfl,Q]
    . rw [u]
 have aj:c.length=x:=by rw [<-ae,<-J,di]
 have S:Holds encStr o i n c.toArray:=λd q=>by
  have G:d<c.length:=by simpa using q
  have:=T d c[d] (lj G);refine ⟨?_,this.2⟩;rw [this.1];simp [G]
 subst aj;refine .inl ⟨194,_,Hd _ _,(aan i n s c o S W ad).mono ?_⟩;rintro t ao ⟨rfl,al,an,rfl⟩;simp only [bu,c8];have r:=aak c;rw [J] at r;generalize U:(c.mergeSort λg A=>decide (g<=A))=h at r;have V:h.length=c.length:=by rw [<-U];exact List.length_mergeSort c
 obtain ⟨p,u⟩:=aam Tryz.prog v b F ag (vs:=(eW w).map λy=>aa.str y.1 y.2) encStr h.toArray (by simpa using V)
  ⟨by rw [<-r];simp,λe z g k b=>by
   rw [<-r,hO,hO] at k;rw [yF] at b;have t:h.toArray[e]? =h[e]? :=ai;rw [t] at b
   cases m:h[e]? with
   |none=>rw [m] at k;cases k
   |some aq=>rw [m] at k b;cases k;cases b;exact .str _ _ _ (by simp [ByteArray.size,o8]) (by simp [et,o8])⟩
  (λe A l=>by
   rw [yF] at l
   cases m:h.toArray[e]? with
   |none=>rw [m] at l;cases l
   |some aq=>rw [m] at l;cases l;rfl) ak al an
 exact ⟨_,_,M,rfl,p,u,.av [] #[] rfl λe z g j=>by cases j⟩
open Go Go.Proofs.Tryz
noncomputable abbrev FU (f n:Nat) (fn:Func):iW:=y8 l R f 1 n (la 1) (sf 1) fn
abbrev NX (f n:Nat) (fn:Func):Prop:=pU l prog R f (FU f n fn)
def NU {f n:Nat} {fn:Func} (b:l.fns f=some fn) (a:oX l f 1 n (la 1) fn=true):NX f n fn:=Dp l R f 1 n (la 1) (sf 1) (B9 1) (E1 1) fn rfl b a
noncomputable abbrev FV (f n:Nat) (fn:Func):iW:=y8 l R f 2 n (la 2) (sf 2) fn
abbrev NY (f n:Nat) (fn:Func):Prop:=pU l prog R f (FV f n fn)
def NV {f n:Nat} {fn:Func} (b:l.fns f=some fn) (a:oX l f 2 n (la 2) fn=true):NY f n fn:=Dp l R f 2 n (la 2) (sf 2) (B9 2) (E1 2) fn rfl b a
noncomputable abbrev FW (f n:Nat) (fn:Func):iW:=y8 l R f 3 n (la 3) (sf 3) fn
abbrev NZ (f n:Nat) (fn:Func):Prop:=pU l prog R f (FW f n fn)
def NW {f n:Nat} {fn:Func} (b:l.fns f=some fn) (a:oX l f 3 n (la 3) fn=true):NZ f n fn:=Dp l R f 3 n (la 3) (sf 3) (B9 3) (E1 3) fn rfl b a
noncomputable def EC (f:Nat):Option iW:=match l.fns f with
 |none=>none
 | some fn=>some (match Nat.ble fn.ntmps 8 with
   |true=>FU f fn.ntmps fn
   | false=>match Nat.ble fn.ntmps 64 with
     |true=>FV f fn.ntmps fn
     |false=>FW f fn.ntmps fn)
noncomputable def JC (f:Nat):Bool:=match l.fns f with
 |none=>true
 | some fn=>match Nat.ble fn.ntmps 8 with
   |true=>oX l f 1 fn.ntmps (la 1) fn
   | false=>match Nat.ble fn.ntmps 64 with
     |true=>oX l f 2 fn.ntmps (la 2) fn
     |false=>oX l f 3 fn.ntmps (la 3) fn
def T1:(List.range 410).all JC=true:=by decide+kernel
def YU (f:Nat) (x:iW) (a:EC f=some x):pU l prog R f x:=by
 unfold EC at a
 cases c:l.fns f with
 |none=>rw [c] at a;cases a
 | some fn=>
   have b:=ba.1 T1 f (h9.2 (Fh c));unfold JC at b;rw [c] at a b;dsimp only at a b
   cases d:Nat.ble fn.ntmps 8 with
   |true=>rw [d] at a b;cases a;exact NU c b
   | false=>
     rw [d] at a b;dsimp only at a b
     cases e:Nat.ble fn.ntmps 64 with
     |true=>rw [e] at a b;cases a;exact NV c b
     |false=>rw [e] at a b;cases a;exact NW c b
def V7: ∀e u,l.dH e u=true-> ∀a,1<=a->liesAt prog prog.depth e a 0 u 1=true:=λ_ _ b=>by cases b
end Go.aj
