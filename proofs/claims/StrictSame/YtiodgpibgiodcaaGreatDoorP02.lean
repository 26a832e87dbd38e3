/- A part of the proof. -/
import Derived.Laws.BytesString
import Derived.Laws.IdiomCopy
import Derived.Laws.LoneSync
import Derived.Laws.StructEq
import Derived.Laws.Tables
import Derived.Test.YtiodgpibgiodcaaGreatDoorP00
import Derived.Test.YtiodgpibgiodcaaGreatDoorP01
set_option linter.all false
set_option maxHeartbeats 4000000
namespace Go.aj
def E3 {cs l:List aa} {off n:Nat} (a:sub cs off n=some l):off+n<=cs.length/\l=(cs.drop off).take n:=by
 unfold sub at a;grind
def wQ {cs l:List aa} {off n:Nat} (a:sub cs off n=some l):l.length=n:=by
 obtain ⟨b,rfl⟩:=E3 a;grind
def sh {cs l:List aa} {off n:Nat} (a:sub cs off n=some l) (i:Nat):l[i]? =if i<n then cs[off+i]? else none:=by
 obtain ⟨b,rfl⟩:=E3 a
 grind
def Wq (a b:Nat):ll a b=max a b:=by
 unfold ll
 cases c:Nat.ble a b with
 |true=>simp_all
 | false=>
   have: ¬a<=b:=λd=>by rw [h_ d] at c;cases c
   grind
def aF.nn (ae:aF) (w:World) (b lo n:Nat):aF:= {ae with F:=λc a=>if c=b/\lo<=a/\a<lo+n then cellAt w b a else ae.F c a}
def aF.N8 {ae:aF} {H:af} {w:World} (e:Q ae H w) (b lo n:Nat): ∀a o v,ae.F a o=some v->(ae.nn w b lo n).F a o=some v:=by
 intro a o v c;simp only [aF.nn];split
 . rename_i d;obtain ⟨rfl,_⟩:=d;exact e.aI _ _ _ c
 omega
def HS {ae:aF} {H:af} {w:World} (f:Q ae H w) {id g u ro z b:Nat} {C:jB} {L lo n:Nat} {cs:List aa}
    (D:H.get id=some (.cells g u ro cs)) (q:ae.μ id z=some (b,C,L)) (T:u<=z) (ad:lo+n<=L) (ag:C.s<=lo):
    Q (ae.nn w b (lo-C.s) n) (H.set id (.cells g u (ll ro (lo+n)) cs)) w/\Fr ae.own ae (ae.nn w b (lo-C.s) n) w w/\
    (∀i v,lo<=i->i<lo+n->cs[i]? =some v-> ∃x,(ae.nn w b (lo-C.s) n).F b (i-C.s)=some x/\cellAt w b (i-C.s)=some x/\aC ae v x)/\lo+n<=cs.length:=by
 have U:=af.gW D;have B:=aF.N8 f b (lo-C.s) n;obtain ⟨G,K,h⟩:=f.obj _ _ D;obtain ⟨Z,S⟩:=h.cont z b C L T q;have E: ∀v x,aC ae v x->aC (ae.nn w b (lo-C.s) n) v x:=λv x c=>bt.mono c B (λ_ _ c=>c) (λ_ _ _ c=>c);refine ⟨⟨?_,f.gK,f.hR,af.r_ _ _ _ f.len,?_,?_,f.e3,f.sep⟩,?_,?_,ab⟩
 . intro j k v c;simp only [aF.nn] at c;split at c
   . grind
   . exact f.aI _ _ _ c
 . intro W k o;rw [af.k_ _ f.len _ _ U] at o;split at o
   . rename_i m;subst m;simp only [N] at o;subst o;refine ⟨G,K,h.at_,h.room,h.sle,h.free,λi v a d=>let ⟨x,e⟩:=h.nK i v a d;ah,?_,?_,h.last,h.km,h.pO⟩
     . intro y j r t a d;obtain ⟨e,l⟩:=h.cont y j r t a d
       grind
     . intro k a d e;rw [Wq] at a;simp only [aF.nn];rw [if_neg]
       . exact h.wr k ab d e
       . rintro ⟨rfl,_,_⟩;have:=(f.sep _ _ _ _ _ _ _ _ _ h.at_ q).2;omega
   . rename_i V;have p:=f.obj _ _ o
     cases k with
     | cells y Y an X=>
       obtain ⟨I,r,a⟩:=p;refine ⟨I,r,a.at_,a.room,a.sle,a.free,λi v d e=>let ⟨x,l⟩:=a.nK i v d e;ah,?_,?_,a.last,a.km,a.pO⟩
       . intro P j J t d e;obtain ⟨l,A⟩:=a.cont P j J t d e
         grind
       . intro k d e l;simp only [aF.nn];rw [if_neg]
         . exact a.wr k d e l
         . rintro ⟨rfl,_⟩;exact V (f.sep _ _ _ _ _ _ _ _ _ a.at_ q).1
     | map aI aj ao=>
       obtain ⟨j,O,M,a⟩:=p;exact ⟨j,O,M,a.at_,a.dH,a.jt,a.kK,λi v m d e=>E _ _ (a.keys i v m d e),λi v m d e=>E _ _ (a.nd i v m d e),a.free⟩
     | iter ak num al=>
       obtain ⟨j,s,a⟩:=p;exact ⟨j,s,a.at_,a.dH,a.size,a.num,a.free⟩
     |gone=>trivial
     |uj=>exact p
 . intro W y aq c;rw [af.m7];exact f.hI _ _ _ c
 . refine ⟨ai,ai,B,?_,λ_ _ c=>c,λ_ _ c=> .inl c,λb c=> .inl c,λ_ _ _ c=>c,rfl,rfl,rfl⟩;intro j k v c;simp only [aF.nn] at c;split at c
   . rename_i R;rw [R.1];exact .inr (.inl ⟨_,_,_,_,q⟩)
   grind
 . intro i v a d e;obtain ⟨x,l,A⟩:=S i v ab ab e;refine ⟨x,?_,l,A⟩;show (if b=b/\lo-C.s<=i-C.s/\i-C.s<lo-C.s+n then cellAt w b (i-C.s) else ae.F b (i-C.s))=some x
   grind
def aF.ml (ae:aF) (w:World) (b:Nat):aF:= {ae with M:=λa=>if a=b then w.heap[b]? else ae.M a}
def RX {ae:aF} {H:af} {w:World} (f:Q ae H w) {id b:Nat} {s:Bool} {ks vs:List aa} {r:Array MapEntry} {q:Nat}
    (K:H.get id=some (.map s ks vs)) (i:FI ae id s ks vs w b r q):
    Q (ae.ml w b) (H.set id (.map true ks vs)) w/\Fr ae.own ae (ae.ml w b) w w/\(ae.ml w b).M b=some (.map r q):=by
 have J:=af.gW K;have t: ∀e l,ae.M e=some l->(ae.ml w b).M e=some l:=by
  intro e l a;simp only [aF.ml];split
  . rename_i F;subst F;exact f.gK _ _ a
  omega
 have o: ∀d p,aC ae d p->aC (ae.ml w b) d p:=λd p a=>bt.mono a (λ_ _ _ a=>a) t (λ_ _ _ a=>a);refine ⟨⟨f.aI,?_,?_,af.r_ _ _ _ f.len,?_,?_,f.e3,f.sep⟩,?_,?_⟩
 . intro e l a;simp only [aF.ml] at a;split at a
   . grind
   . exact f.gK _ _ a
 . intro e l a;simp only [aF.ml] at a;split at a
   . rw [i.dH] at a;grind
   . exact f.hR _ _ a
 . intro L l m;rw [af.k_ _ f.len _ _ J] at m;split at m
   . rename_i j;subst j;simp only [N] at m;subst m;exact ⟨b,r,q,i.at_,i.dH,i.jt,i.kK,λk d j g h=>o _ _ (i.keys k d j g h),λk d j g h=>o _ _ (i.nd k d j g h),ai⟩
   . rename_i u;have n:=f.obj _ _ m
     cases l with
     | cells C R V P=>
       obtain ⟨v,x,c⟩:=n;exact ⟨v,x,c.at_,c.room,c.sle,c.free,λk d g h=>let ⟨p,E⟩:=c.nK k d g h;ah,λD e y z g h=>let ⟨E,S⟩:=c.cont D e y z g h
        ah,c.wr,c.last,c.km,c.pO⟩
     | map s ks vs=>
       obtain ⟨e,B,A,c⟩:=n;refine ⟨e,B,A,c.at_,c.dH,c.jt,c.kK,λk d j g h=>o _ _ (c.keys k d j g h),λk d j g h=>o _ _ (c.nd k d j g h),λI=> ?_⟩;simp only [aF.ml];rw [if_neg]
       . exact c.free I
       . rintro rfl;exact u (f.sep _ _ _ _ _ _ _ _ _ c.at_ i.at_).1
     | iter T num U=>
       obtain ⟨e,O,c⟩:=n;refine ⟨e,O,c.at_,c.dH,c.size,c.num,?_⟩;simp only [aF.ml];rw [if_neg]
       . exact c.free
       . rintro rfl;exact u (f.sep _ _ _ _ _ _ _ _ _ c.at_ i.at_).1
     |gone=>trivial
     |uj=>exact n
 . intro L C W a;rw [af.m7];exact f.hI _ _ _ a
 . refine ⟨ai,ai,λ_ _ _ a=>a,λ_ _ _ a=> .inl a,t,?_,λb a=> .inl a,λ_ _ _ a=>a,rfl,rfl,rfl⟩;intro e l a;simp only [aF.ml] at a;split at a
   . rename_i G;rw [G];exact .inr (.inl ⟨_,_,_,_,i.at_⟩)
   grind
 . show (if b=b then w.heap[b]? else ae.M b)=_;rw [if_pos rfl];exact i.dH
def AL (ae:aF) (w:World) (b:aa) (x:Value) (H':af):Prop:=
 ∃a,Q a H' w/\Fr ae.own ae a w w/\a.μ=ae.μ/\bt a.F a.M eQ b x
def NS (ae:aF) (w:World) (d:List aa) (n:Nat) (X:Nat->Value) (H':af):Prop:=
 ∃a,Q a H' w/\Fr ae.own ae a w w/\a.μ=ae.μ/\d.length=n/\ ∀(b:Nat) (c:aa),d[b]? =some c->bt a.F a.M eQ c (X b)
def zx {ae a:aF} (c:a.μ=ae.μ) (b:Nat):a.own b↔ae.own b:=by unfold aF.own;rw [c]
def nY {f:aa->af->Option (aa×af)} (p: ∀v H g H',f v H=some (g,H')-> ∀ae w x,Q ae H w->aC ae v x->AL ae w g x H'):
    ∀vs H c H',cD f vs H=some (c,H')-> ∀ae w (X:Nat->Value),Q ae H w->(∀(i:Nat) (v:aa),vs[i]? =some v->aC ae v (X i))->NS ae w c vs.length X H':=by
 intro vs
 induction vs with
 | nil=>
   intro H c H' a ae w X e _;simp only [cD,N,bz] at a;obtain ⟨rfl,rfl⟩:=a;exact ⟨ae,e,Fr.refl λ_ a=>a,rfl,rfl,ai⟩
 | cons v vs u=>
   intro H c H' a ae w X e h;simp only [cD] at a;split at a
   . rename_i g A m;split at a
     . rename_i F B n;simp only [N,bz] at a;obtain ⟨rfl,rfl⟩:=a;obtain ⟨y,s,j,k,r⟩:=p _ _ _ _ m ae w (X 0) e (h 0 v rfl);obtain ⟨z,t,d,q,C,D⟩:=u _ _ _ n y w (λi=>X (i+1)) s (λi v b=>(h (i+1) v (by simpa using b)).aR j);refine ⟨z,t,j.trans d (λl o=> .inl ((zx k l).1 o)),q.trans k,ah,?_⟩;intro i E b
       cases i with
       | zero=>
         simp only [mM,N] at b;subst b;exact r.mono d.jO d.kH ai
       |succ i=>grind
     grind
   grind
def oG (k n:Nat) (cs:List aa):(chunk k n cs).length=n:=by
 induction n generalizing cs with
 |zero=>rfl
 |succ n a=>simp [chunk,a]
def PZ (k n:Nat) (cs:List aa) (i:Nat) (b:i<n):(chunk k n cs)[i]? =some ((cs.drop (i*k)).take k):=by
 induction n generalizing cs i with
 |zero=>omega
 | succ n a=>
   cases i with
   |zero=>simp [chunk]
   | succ i=>
     simp only [chunk,tA];rw [a _ _ ab,qi]
     grind
def xG {k n:Nat} {cs:List aa} {i:Nat} {b:List aa} (e:cs.length=n*k) (a:(chunk k n cs)[i]? =some b):
    i<n/\b.length=k/\ ∀j,b[j]? =if j<k then cs[i*k+j]? else none:=by
 have c:i<n:=by
  have:=(e6.1 a).1
  rwa [oG] at this
 rw [PZ k n cs i c] at a;simp only [N] at a;subst a;have d:(i+1)*k<=n*k:=fU k c
 grind
def r3 : ∀ n v H aA H',aZ n v H=some (aA,H')-> ∀ae w x,Q ae H w->aC ae v x->AL ae w aA x H':=by
 intro n
 induction n with
 |zero=>intro v H aA H' b;simp [aZ] at b
 | succ n I =>
   intro v H aA H' b ae w x y z;have u: ∀ {Z:aa} {h:af},some (v,H)=some (Z,h)->bt ae.F ae.M eQ v x->AL ae w Z x h:=by intro Z h aK L;simp only [N,bz] at aK;obtain ⟨rfl,rfl⟩:=aK;exact ⟨ae,y,Fr.refl λ_ b=>b,rfl,L⟩
   have bK: ∀(e:Array Value) (a:Nat) (ad:Value),e[a]? =some ad->(e[a]?).getD default=ad:=ah;unfold aC at z
   cases z with
   |bad x=>simp [aZ] at b
   |bool d=>exact u b (.bool d)
   |int m bw=>exact u b (.int m bw)
   |str bC ag d i k=>exact u b (.str bC ag d i k)
   |dz=>exact u b .dz
   |b5 D c d o aD i k=>exact u b (.b5 D c d o aD i k)
   |V=>exact u b .V
   |A bB aF ag aE m d o aD i k Y P aw aH bd=>exact u b (.A bB aF ag aE m d o aD i k Y P aw aH bd)
   |ef=>exact u b .ef
   |ck aS aU d j aG i k Y P aw=>exact u b (.ck aS aU d j aG i k Y P aw)
   |eA=>exact u b .eA
   |dj=>exact u b .dj
   | agg D e i k=>
     simp only [aZ] at b;split at b
     . rename_i aj h E;simp only [bu,N,bz] at b;obtain ⟨rfl,rfl⟩:=b;obtain ⟨au,ao,al,an,bo,L⟩:=nY I D H aj h E ae w (λa=>(e[a]?).getD default) y (λa v f=>by have r:a<e.size:=ah;have z:=k a v e[a] f ai;show aC ae v ((e[a]?).getD default);rw [show (e[a]?).getD default=e[a] by simp [r]];exact z);exact ⟨au,ao,al,an,.agg aj e ab ah⟩
     grind
   | av D e i k=>
     simp only [aZ] at b;split at b
     . rename_i aj h E;simp only [bu,N,bz] at b;obtain ⟨rfl,rfl⟩:=b;obtain ⟨au,ao,al,an,bo,L⟩:=nY I D H aj h E ae w (λa=>(e[a]?).getD default) y (λa v f=>by have r:a<e.size:=ah;have z:=k a v e[a] f ai;show aC ae v ((e[a]?).getD default);rw [show (e[a]?).getD default=e[a] by simp [r]];exact z);exact ⟨au,ao,al,an,.av aj e ab ah⟩
     grind
   | iface bD Z ad aP=>
     simp only [aZ] at b;split at b
     . rename_i bE h E;simp only [dn,N,bz] at b;obtain ⟨rfl,rfl⟩:=b;obtain ⟨au,ao,al,an,L⟩:=I _ _ _ _ E ae w ad y aP;exact ⟨au,ao,al,an,.iface bD bE ad L⟩
     grind
   | fn ba ag B e X i k Y P=>
     simp only [aZ] at b;split at b
     . rename_i aV h aL;split at b
       . rename_i C aB aM;simp only [bu,N,bz] at b;obtain ⟨rfl,rfl⟩:=b;obtain ⟨a6,O,p,bm,bN,br⟩:=nY I ag H aV h aL ae w (λa=>(e[a]?).getD default) y (λa v f=>by have r:a<e.size:=ah;have z:=Y a v e[a] f ai;show aC ae v ((e[a]?).getD default);rw [show (e[a]?).getD default=e[a] by simp [r]];exact z);obtain ⟨J,W,l,S,ay,az⟩:=nY I B h C aB aM a6 w (λa=>(X[a]?).getD default) O (λa v f=>by have r:a<X.size:=ah;have z:=P a v X[a] f ai;show aC a6 v ((X[a]?).getD default);rw [show (X[a]?).getD default=X[a] by simp [r]];exact aC.aR z p);refine ⟨J,W,p.trans l (λd q=> .inl ((zx bm d).1 q)),ah,.fn ba aV C e X ab ab ?_ ?_⟩
         . intro a Z ad aP bS;have:=(br a Z aP).mono l.jO l.kH (ga:=eQ) ai
           grind
         grind
       grind
     grind
   | ptr id gen c aT d g a7 i k aO=>
     simp only [aZ] at b;split at b
     . rename_i bc a8 bx D T;split at b
       . rename_i aI;obtain ⟨rfl,bO⟩:=aI;split at b
         . rename_i B U;simp only [c1,c8] at b;split at b
           . rename_i C h E;simp only [bu,N,bz] at b;obtain ⟨rfl,rfl⟩:=b;obtain ⟨bG,bH,bh⟩:=y.obj _ _ T;obtain ⟨O,p,ak,bl⟩:=HS y (lo:=c) (n:=aT-c) T i bh.km ab aO;rw [show c+(aT-c)=aT by omega] at O;have bq:=wQ U;obtain ⟨J,W,l,S,ay,az⟩:=nY I B _ C h E _ w (λa=>(cellAt w d (c-g.s+a)).getD default) O (λa v f=>by
              have R:=f;rw [sh U] at R;split at R
              . obtain ⟨x,G,t,aq⟩:=ak (c+a) v ab ab R;rw [show c+a-g.s=c-g.s+a by omega] at G t;show aC _ v ((cellAt w d (c-g.s+a)).getD default);rw [t];exact aC.aR aq p
              grind)
             refine ⟨J,W,p.trans l (λd q=> .inl q),S,?_⟩;refine bt.b5 C 0 d (c-g.s) (λa=>(cellAt w d (c-g.s+a)).getD default) (λa f=> ?_) ab;have bk:a<B.length:=ab;have aJ:D[c+a]? =some B[a]:=by
              have:=sh U a
              grind
             obtain ⟨x,G,t,aq⟩:=ak (c+a) _ ab ab aJ;rw [show c+a-g.s=c-g.s+a by omega] at G t;rw [t];exact l.jO _ _ _ G
           grind
         grind
       grind
     grind
   | ref id gen c m ar aF d g a7 aE i k Y P aw aH aO=>
     simp only [aZ] at b;split at b
     . rename_i bc a8 bx D T;split at b
       . rename_i aI;obtain ⟨bj,bM⟩:=aI;split at b
         . rename_i B U;simp only [c1,c8] at b;split at b
           . rename_i C h E;simp only [rf,N,bz] at b;obtain ⟨rfl,rfl⟩:=b;obtain ⟨O,p,ak,bl⟩:=HS y (lo:=c) (n:=ar*m) T i bj k aO;have bq:=wQ U;obtain ⟨J,W,l,S,ay,az⟩:=nY I B _ C h E _ w (λa=>(cellAt w d (c-g.s+a)).getD default) O (λa v f=>by
              have R:=f;rw [sh U] at R;split at R
              . obtain ⟨x,G,t,aq⟩:=ak (c+a) v ab ab R;rw [show c+a-g.s=c-g.s+a by omega] at G t;show aC _ v ((cellAt w d (c-g.s+a)).getD default);rw [t];exact aC.aR aq p
              grind)
             refine ⟨J,W,p.trans l (λd q=> .inl q),S,?_⟩;have aX:C.length=ar*m:=ab;have bg: ∀a,a<ar*m->J.F d (c-g.s+a)=some ((cellAt w d (c-g.s+a)).getD default):=by
              intro a f;have bk:a<B.length:=ab;have aJ:D[c+a]? =some B[a]:=by
               have:=sh U a
               grind
              obtain ⟨x,G,t,aq⟩:=ak (c+a) _ ab ab aJ;rw [show c+a-g.s=c-g.s+a by omega] at G t;rw [t];exact l.jO _ _ _ G
             have bb:=bt.A (F:=J.F) (M:=J.M) (μ:=eQ) (chunk m ar C) aF (some ⟨d,c-g.s,none⟩) aE m d (c-g.s) (λa aQ=>(cellAt w d (c-g.s+(a*m+aQ))).getD default)
              (by rw [oG];exact aH) (by rw [oG];exact P) ai ai
              (λa bA aN=>(xG aX aN).2.1)
              (λa aQ f bL=>bg _ (by
               rw [oG] at f;have i:(a+1)*m<=ar*m:=fU m f
               grind))
              (λa aQ bA v aN L=>by
               obtain ⟨f,bP,bQ⟩:=xG aX aN
               grind)
             rw [oG] at bb;omega
           grind
         grind
       grind
     grind
   | map id d i=>
     simp only [aZ] at b;split at b
     . rename_i bJ aS aU T;simp only [c8] at b;split at b
       . rename_i aY h aL;split at b
         . rename_i a1 aB aM;simp only [bu,N,bz] at b;obtain ⟨rfl,rfl⟩:=b;obtain ⟨aW,j,aG,K⟩:=y.obj _ _ T;have q:aW=d:=by have:=K.at_;grind
           subst q;obtain ⟨O,p,bf⟩:=RX y T K;obtain ⟨J,W,l,S,ay,az⟩:=nY I aS _ aY h aL _ w (λa=>(j[a]?.map (·.key)).getD default) O (λa v f=>by
            have r:a<j.size:=by rw [<-K.jt];grind
            have:=K.keys a v j[a] f ai;show aC _ v ((j[a]?.map (·.key)).getD default);rw [show (j[a]?.map (·.key)).getD default=j[a].key by simp [r]];exact aC.aR this p)
           obtain ⟨bF,bs,ax,bn,bp,bR⟩:=nY I aU _ a1 aB aM _ w (λa=>(j[a]?.map (·.val)).getD default) W (λa v f=>by
            have r:a<j.size:=by rw [<-K.kK];grind
            have:=K.nd a v j[a] f ai;show aC _ v ((j[a]?.map (·.val)).getD default);rw [show (j[a]?.map (·.val)).getD default=j[a].val by simp [r]];exact aC.aR (aC.aR this p) l)
           refine ⟨bF,bs,(p.trans l (λd q=> .inl q)).trans ax (λd q=> .inl ((zx (S.trans rfl) d).1 q)),bn.trans S,?_⟩;refine bt.ck aY a1 aW j aG (ax.kH _ _ (l.kH _ _ bf)) (by rw [ay,K.jt]) (by rw [bp,K.kK]) ?_ ?_
           . intro a v bI L aK;have:=(az a v L).mono ax.jO ax.kH (ga:=eQ) ai
             grind
           grind
         grind
       grind
     grind
   |it id d i=>simp [aZ] at b
structure fJ (E:Env) (P:Program):Prop where
  Fx: ∀t i,E.T t=some i-> ∃z,i.zero=some z/\(s 2 z).cells.all J=true/\(s 2 z).cells.length=i.size
  T: ∀t i,E.T t=some i->P.info? t=some i
  fns: ∀f fn,E.fns f=some fn->P.funcs[f]? =some fn/\(fn.name== "runtime.NumGoroutine")=false
  nD: ∀t,E.nD t=true->P.stoodInHeld t=false/\P.eqGuardType P.depth t=false
  dH: ∀e u,E.dH e u=true-> ∀count,1<=count->liesAt P P.depth e count 0 u 1=true
def jD (E:Env) (ae:aF):Prop:= ∀b,bt ae.F ae.M eQ (E.G b) (.pointer (some ⟨b,0,none⟩))
def jD.aR {E:Env} {e:Nat->Prop} {ae b:aF} {w w':World} (d:jD E ae) (f:Fr e ae b w w'):jD E b:=
 λc=>(d c).mono f.jO f.kH ai
structure pF (ae:aF) (w:World) (b:Nat) (cs:List aa):Prop where
  dH: ∃c e lo a8,w.heap[b]? =some (.cells c e (lo,a8))/\c.size=cs.length/\(∀(i:Nat) (v:aa) (x:Value),cs[i]? =some v->c[i]? =some x->aC ae v x)/\ ∀o,o<c.size-> ¬(lo<=o/\o<a8)
def aA (ae:aF) (β:Nat->Option Nat) (tm:List aa):aa->Value->Prop
 | .cR c st g,d=>(∃e,d= .pointer (some ⟨e,g,none⟩)/\ ∀b,tm[c]? =some (.W st b)->β c=some e)/\ ∃f b,tm[c]? =some (.W f b)/\st<=f
 | .W _ _,_=>False
 |h,d=>aC ae h d
def FM (ae:aF) (w:World) (β:Nat->Option Nat) (tm:List aa) (i:Nat):aa->Value->Prop
 | .W _ d,c=> ∃b,β i=some b/\c= .pointer (some ⟨b,0,none⟩)/\pF ae w b d
 |e,c=>aA ae β tm e c
structure iY (loc:Nat->Bool) (ae:aF) (w:World) (β:Nat->Option Nat) (tm:List aa) (dT:Array Value):Prop where
  len:tm.length=dT.size
  val: ∀(i:Nat) (v:aa) (x:Value),tm[i]? =some v->dT[i]? =some x->FM ae w β tm i v x
  q6: ∀s b,β s=some b->b<w.heap.size/\ ¬ae.own b/\(∀o,ae.F b o=none)/\ae.M b=none
  uU: ∀s s' b,β s=some b->β s'=some b->s=s'
  tQ: ∀(i st:Nat) (cs:List aa),tm[i]? =some (.W st cs)->loc i=true
def k9 (tm:List aa) (i:Nat):M tm i=(tm[i]?).getD (.av []):=by
 induction tm generalizing i with
 |nil=>simp [M]
 |cons d c b=>cases i<;>simp [M,b]
def Eh (F:sw) (M:nj) (μ:lE): ∀d v,bt F M μ (s d v) v:=by
 intro d
 induction d with
 | zero=>
   intro v;cases v<;>first
    |exact .bad _
    |exact .bool _
    |exact .int _ _
    |exact .str _ _ _ rfl rfl
    |exact .eA
    |exact .dj
    |(rename_i a;cases a<;>first|exact .dz|exact .ef|exact .bad _)
    | (rename_i a c b;cases a with
       |some a=>exact .bad _
       | none=>cases c with
         | zero=>cases b with
           |zero=>exact .V
           |succ b=>exact .bad _
         |succ c=>exact .bad _)
 | succ d i=>
   intro v;cases v<;>first
    |exact .bool _
    |exact .int _ _
    |exact .str _ _ _ rfl rfl
    |exact .eA
    |exact .dj
    |(rename_i e;exact .agg _ _ ai λh v j f g=>by grind)
    |(rename_i e;exact .av _ _ ai λh v j f g=>by grind)
    |(rename_i k l;exact .iface _ _ _ (i _))
    |exact .bad _
    |(rename_i a;cases a<;>first|exact .dz|exact .ef|exact .bad _)
    | (rename_i a c b;cases a with
       |some a=>exact .bad _
       | none=>cases c with
         | zero=>cases b with
           |zero=>exact .V
           |succ b=>exact .bad _
         |succ c=>exact .bad _)
section
variable {E:Env} {P:Program} (aB:fJ E P) {loc:Nat->Bool} {ae:aF} {w:World} {β:Nat->Option Nat} {tm:List aa} {a:Act}
theorem aA.cA {v:aa} {x:Value} (b:aC ae v x):aA ae β tm v x:=by
 cases b<;>simp only [aA]<;>first
  |exact .bad _|exact .bool _|exact .int _ _|exact .dz|exact .V|exact .ef|exact .eA|exact .dj
  |(constructor<;>assumption)
theorem aA.iv {v:aa} {x:Value} (b:aA ae β tm v x) (c:aD v=true):aC ae v x:=by cases v<;>simp [aD] at c<;>exact b
theorem zv (f:iY loc ae w β tm a.tmps) (i:jD E ae) (x:Operand):aA ae β tm (B E tm x) (a.eval x):=by
 cases x with
 |const r=>exact aA.cA (Eh _ _ _ _ _)
 |global h=>exact aA.cA ((i h).n4)
 |func l=>exact aA.cA (.fn _ _ _ _ _ rfl rfl ai ai)
 | tmp b=>
   simp only [B,Act.eval];rw [k9];by_cases p:b<tm.length
   . have q:b<a.tmps.size:=by rw [<-f.len];omega
     have c:=f.val b tm[b] a.tmps[b] ai ai;have d:(tm[b]?).getD (.av [])=tm[b]:=ah;have e:a.tmps.getD b undef=a.tmps[b]:=de;rw [d,e]
     cases g:tm[b] with
     | W st k=>
       rw [g] at c;obtain ⟨j,m,n,o⟩:=c;simp only [aA]
       grind
     |_=>rw [g] at c;exact c
   . have d:(tm[b]?).getD (.av [])= .av []:=ah;have e:a.tmps.getD b undef=undef:=by
      have: ¬b<a.tmps.size:=by rw [<-f.len];omega
      grind
     rw [d,e];exact aA.cA (.av [] #[] rfl ai)
include aB in
theorem b3 {t:Nat} {d:TypeDesc} (h:aW E t=some d):P.underlying t=some d:=by
 unfold aW at h;split at h
 . rename_i i a8;have aS:=aB.T _ _ a8;unfold Program.underlying;rw [aS];split at h
   . rename_i n u aH;split at h
     . rename_i j gE;have bG:=aB.T _ _ gE;obtain ⟨d0⟩:=i
       grind
     grind
   grind
 grind
include aB in
theorem hX {t n:Nat} (h:bZ E t=some n): ∃i,P.info? t=some i/\i.size=n:=by
 unfold bZ at h;split at h
 . rename_i i a8;simp at h;exact ⟨i,aB.T _ _ a8,h⟩
 grind
include aB in
theorem Fw {t:Nat} {z:aa} (h:bN E t=some z):z.cells.all J=true/\ ∃i,P.info? t=some i/\z.cells.length=i.size:=by
 unfold bN at h;split at h
 . rename_i i a8;split at h
   . rename_i v aP;simp at h;subst h;obtain ⟨z,rn,aS,bG⟩:=aB.Fx _ _ a8;rw [aP] at rn;simp only [N] at rn;subst rn;exact ⟨aS,i,aB.T _ _ a8,bG⟩
   grind
 grind
include aB in
theorem qV {t:Nat} {z:aa} (h:bN E t=some z): ∃i v,P.info? t=some i/\i.zero=some v/\ ∀F M μ,bt F M μ z v:=by
 unfold bN at h;split at h
 . rename_i i a8;split at h
   . rename_i v aP;simp at h;subst h;exact ⟨i,v,aB.T _ _ a8,aP,λF M μ=>Eh _ _ _ _ _⟩
   grind
 grind
theorem ca {t:Nat} {d:TypeDesc} (b:P.underlying t=some d):(underlying t).run P w= .ok d w:=by simp [underlying,b]
theorem m2 {t:Nat} {i:TypeInfo} (b:P.info? t=some i):(typeInfo t).run P w= .ok i w:=by simp [typeInfo,b]
theorem gN {t:Nat} {i:TypeInfo} (b:P.info? t=some i):(sizeOf t).run P w= .ok i.size w:=by simp [sizeOf,m2 b]
theorem LO {t:Nat} {d:TypeDesc} (b:P.underlying t=some d):(isAgg t).run P w= .ok (jS d) w:=by simp only [isAgg,Sem.run_bind,ca b,Result.andThen_ok];cases d<;>rfl
theorem m3 {t:Nat} {i:TypeInfo} {v:Value} (b:P.info? t=some i) (c:i.zero=some v):(zeroValue t).run P w= .ok v w:=by simp [zeroValue,m2 b,c]
theorem sP (b o:Nat):w.cell? ⟨b,o,none⟩=cellAt w b o:=by
 unfold World.cell? cellAt
 grind
theorem ke (b o n:Nat):(⟨b,o,none⟩:Addr).add n=⟨b,o+n,none⟩:=by unfold Addr.add;simp
variable {H:af}
theorem Zr (z:Q ae H w) (u:iY loc ae w β tm a.tmps) {p:aa} {x:Value} (e:aA ae β tm p x) {cs:List aa} {off A:Nat}
  (c:gq tm H p=some (cs,off,A)):
  ∃b o,x= .pointer (some ⟨b,o,none⟩)/\ ∀(j:Nat) (v:aa),off+j<A->cs[off+j]? =some v-> ∃y,w.cell? ⟨b,o+j,none⟩=some y/\aC ae v y:=by
 cases p with
 | b5 i d=>
   simp only [gq,N,bz] at c;obtain ⟨rfl,rfl,rfl⟩:=c;simp only [aA] at e
   cases e with
   | b5 _ _ b o B k r=>
     refine ⟨b,_,rfl,λj v n f=>⟨B (d+j),?_,(r _ _ f).n4⟩⟩;rw [sP,show o+d+j=o+(d+j) by omega];exact z.aI _ _ _ (k _ n)
 | ptr id gen d aq=>
   simp only [gq] at c;split at c
   . rename_i af Z au i M;split at c
     . rename_i I;simp only [N,bz] at c;obtain ⟨rfl,rfl,rfl⟩:=c;simp only [aA] at e
       cases e with
       | ptr _ _ _ _ b h X k r O=>
         obtain ⟨U,V,D⟩:=z.obj _ _ M;obtain ⟨ag,C⟩:=D.cont _ _ _ _ I k;refine ⟨b,d-h.s,rfl,λj v n f=> ?_⟩;obtain ⟨y,S,T⟩:=C _ v ab ab f;rw [show d+j-h.s=d-h.s+j by omega] at S;exact ⟨y,by rw [sP];omega,T⟩
     grind
   grind
 | cR g st d=>
   simp only [gq] at c;rw [k9] at c;split at c
   . rename_i av i O;split at c
     . rename_i J;subst J;simp only [N,bz] at c;obtain ⟨rfl,rfl,rfl⟩:=c;have al:g<tm.length:=by grind
       have t:tm[g]? =some (.W st i):=by grind
       obtain ⟨⟨b,R,l⟩,_⟩:=e;have l:=l _ t;have an:g<a.tmps.size:=by rw [<-u.len];omega
       obtain ⟨Y,m,ao,L⟩:=u.val g _ a.tmps[g] t ai;rw [l] at m;simp only [N] at m;subst m;obtain ⟨q,ad,ar,ak,F,ah,G,aj⟩:=L.dH;refine ⟨b,d,R,λj v n f=> ?_⟩;have K:d+j<q.size:=ab;refine ⟨q[d+j],?_,G _ _ _ f ai⟩;rw [sP];simp [cellAt,F,K]
     grind
   grind
 |_=>simp [gq] at c
theorem N_ {l:List aa} {X:Nat->Value} (c: ∀(i:Nat) (v:aa),l[i]? =some v->aC ae v (X i)):aC ae (.agg l) (.agg ((List.range l.length).map X).toArray):=by refine .agg _ _ ai λi v f e b=> ?_;have d:i<l.length:=ah;simp [d] at b;subst b;exact c i v e
include aB in
theorem JZ (hw:Q ae H w) (lg:iY loc ae w β tm a.tmps) {t:Nat} {p v:aa} {x:Value} (bc:aA ae β tm p x) (h:dW E t p tm H=some v):
  ∃y,(Instr.loadAt t x).run P w= .ok y w/\aC ae v y:=by
 unfold dW at h;split at h
 . rename_i n d bO aH;obtain ⟨i,a8,rfl⟩:=hX aB bO;have hu:=b3 aB aH;unfold jY at h;split at h
   . rename_i cs off lim bh;obtain ⟨b,o,rfl,SM⟩:=Zr hw lg bc bh;split at h
     . rename_i hle;have hle:=er hle;simp only [Instr.loadAt,Instr.sureAddr,Sem.run_bind,Sem.run_pure,Result.andThen_ok,loadVar,LO hu];split at h
       . rename_i tc;simp only [tc,if_true,Sem.run_ite,Sem.run_bind,gN a8,Result.andThen_ok];unfold AR at h;split at h
         . rename_i l bB;simp only [bu,N] at h;subst h;have cQ:=wQ bB;have Ci:=sh bB;have bp: ∀j,j<i.size-> ∃y,w.cell? ⟨b,o+j,none⟩=some y/\ ∀v,l[j]? =some v->aC ae v y:=by grind
           rw [run_loadCells w ⟨b,o,none⟩ i.size (λj=>(w.cell? ⟨b,o+j,none⟩).getD default) (λj gE=>by obtain ⟨y,aS,_⟩:=bp j gE;rw [ke,aS];rfl)];simp only [Result.andThen_ok,Sem.run_pure];refine ⟨_,rfl,?_⟩;have:=N_ (ae:=ae) (l:=l) (X:=λj=>(w.cell? ⟨b,o+j,none⟩).getD default) ah
           grind
         grind
       . rename_i tc;simp only [tc,eJ,if_false,Sem.run_ite];split at h
         . rename_i IA;have IA:=gk IA;obtain ⟨y,aS,bG⟩:=SM 0 v ab ab
           simp_all
         grind
     grind
   grind
 grind
theorem F1 {p j:aa} {x:Value} {n:Nat} (e:aA ae β tm p x) (c:gT p n=some j):
  ∃b o,x= .pointer (some ⟨b,o,none⟩)/\aA ae β tm j (.pointer (some ⟨b,o+n,none⟩)):=by
 cases p with
 | b5 m d=>
   simp only [gT,c1,N] at c;subst c;simp only [aA] at e
   cases e with
   |b5 _ _ b o l g h=>exact ⟨b,_,rfl,aA.cA (by rw [rJ];exact bt.b5 m (d+n) b o l g h)⟩
 | ptr id gen d r=>
   simp only [gT,c1,N] at c;subst c;simp only [aA] at e
   cases e with
   | ptr _ _ _ _ b f k g h i=>
     have:=bt.ptr (F:=ae.F) (M:=ae.M) (μ:=ae.μ) id gen (d+n) r b f k g h ab;rw [show d+n-f.s=d-f.s+n by omega] at this;exact ⟨b,_,rfl,aA.cA this⟩
 | cR u st d=>
   simp only [gT,c1,N] at c;subst c;obtain ⟨⟨b,q,t⟩,i⟩:=e;exact ⟨b,d,q,ah,i⟩
 |_=>simp [gT] at c
include aB in
theorem RD {s f:Nat} {p v:aa} {x:Value} (bc:aA ae β tm p x) (h:jh E s p f=some v):
  ∃y,(Instr.fieldAt s x f).run P w= .ok y w/\aA ae β tm v y:=by
 unfold jh at h;split at h
 . rename_i ee aH;have hu:=b3 aB aH;split at h
   . rename_i fd cy;split at h
     . rename_i m hm;obtain ⟨i,a8,fQ⟩:=hX aB hm;obtain ⟨b,o,rfl,aP⟩:=F1 bc h;refine ⟨_,?_,aP⟩;simp only [Instr.fieldAt,Sem.run_bind,ca hu,Result.andThen_ok,cy,Instr.sureAddr,Sem.run_pure,fieldPlace,gN a8,fQ,Sem.run_ite];simp [ke]
     grind
   grind
 grind
theorem xr {i:aa} {x:Value} {n:Int} (c:aA ae β tm i x) (b:k1 i=some n): ∃k,x= .int k n:=by
 cases i with
 | int k d=>
   simp only [k1,N] at b;subst b;simp only [aA] at c
   cases c with
   |int=>simp
 |_=>simp [k1] at b
include aB in
theorem Tu {t :Nat} {p i v:aa} {x y:Value} (bc:aA ae β tm p x) (a8:aA ae β tm i y) (h:jR E t p i=some v):
  ∃z,(Instr.indexAt t x y).run P w= .ok z w/\aA ae β tm v z:=by
 unfold jR at h;split at h
 . rename_i len el n aH bO;have hu:=b3 aB aH;obtain ⟨k,rfl⟩:=xr a8 bO;split at h
   . rename_i c9 fQ;obtain ⟨info,ho,rfl⟩:=hX aB fQ;split at h
     . rename_i iH;obtain ⟨b,o,rfl,aP⟩:=F1 bc h;refine ⟨_,?_,aP⟩;have aS:(0:Int)<=Int.ofNat n/\Int.ofNat n<(len:Int):=ah;simp only [Instr.indexAt,asIntOf,Sem.run_bind,Sem.run_pure,Result.andThen_ok,ca hu,Instr.sureAddr,Sem.run_ite,if_pos aS,gN ho];simp [ke]
     grind
   grind
 . rename_i el n aH bO;have hu:=b3 aB aH;obtain ⟨k,rfl⟩:=xr a8 bO;split at h
   . rename_i rows clip c9 fQ;obtain ⟨info,ho,rfl⟩:=hX aB fQ;split at h
     . rename_i r bh;split at h
       . rename_i vy;simp only [N] at h;subst h;simp only [aA] at bc
         cases bc with
         | A _ _ acq cap qf b o X aS bG dS fO kr pY aeA=>
           have iH:n<rows.length:=ah;have p3:rows≠ []:=ah;have SE:=fO p3;subst SE;have dp:qf=info.size:=ah;subst dp;refine ⟨.pointer (some ⟨b,o+n*info.size,none⟩),?_,aA.cA ?_⟩
           . have aS:(0:Int)<=Int.ofNat n/\Int.ofNat n<(rows.length:Int):=ah;simp only [Instr.indexAt,asIntOf,Sem.run_bind,Sem.run_pure,Result.andThen_ok,ca hu,Sem.run_ite,if_pos aS,gN ho];simp [ke]
           . have:=bt.b5 (F:=ae.F) (M:=ae.M) (μ:=ae.μ) r 0 b (o+n*info.size) (λj=>X n j)
              ah ah
             exact this
       grind
     grind
   . rename_i id gen off qf len clip c9 fQ;obtain ⟨info,ho,rfl⟩:=hX aB fQ;split at h
     . rename_i bp;obtain ⟨rfl,iH⟩:=bp;simp only [c1,N] at h;subst h;simp only [aA] at bc
       cases bc with
       | ref _ _ _ _ _ _ b C L cap aS bG dS fO kr pY bB=>
         refine ⟨.pointer (some ⟨b,off-C.s+n*info.size,none⟩),?_,aA.cA ?_⟩
         . have aS:(0:Int)<=Int.ofNat n/\Int.ofNat n<(len:Int):=ah;simp only [Instr.indexAt,asIntOf,Sem.run_bind,Sem.run_pure,Result.andThen_ok,ca hu,Sem.run_ite,if_pos aS,gN ho];simp [ke]
         . rw [show off-C.s+n*info.size=off+n*info.size-C.s by omega];refine bt.ptr _ _ _ _ b C L aS ?_ ab;have:(n+1)*info.size<=len*info.size:=fU _ iH
           grind
     grind
   grind
 grind
include aB in
theorem wz {t off:Nat} {cs:List aa} {xs:Array Value} {v:aa} (bO:cs.length=xs.size)
  (bj: ∀(i:Nat) (v:aa) (x:Value),cs[i]? =some v->xs[i]? =some x->aC ae v x) (h:n7 E t cs off=some v):
  ∃y,(part t xs off).run P w= .ok y w/\aC ae v y:=by
 unfold n7 at h;split at h
 . rename_i n d bB aH;obtain ⟨i,a8,rfl⟩:=hX aB bB;have hu:=b3 aB aH;simp only [part,Sem.run_bind,LO hu,Result.andThen_ok];split at h
   . rename_i tc;split at h
     . rename_i l cQ;simp only [bu,N] at h;subst h;simp only [tc,if_true,Sem.run_bind,gN a8,Result.andThen_ok,Sem.run_pure];refine ⟨_,rfl,?_⟩;have aS:=wQ cQ;have bG:=sh cQ;obtain ⟨dS,_⟩:=E3 cQ;refine .agg _ _ ah λj u x hu mI=> ?_;rw [bG] at hu;split at hu
       . rename_i gE;refine bj (off+j) u x hu ?_
         grind
       grind
     grind
   . rename_i tc;have iH:off<xs.size:=ah;refine ⟨xs[off],?_,bj off v _ h ai⟩
     simp_all
 grind
include aB in
theorem RE {t f:Nat} {p v:aa} {x:Value} (bc:aA ae β tm p x) (h:pR E t p f=some v):
  ∃y,(Instr.field t x f).run P w= .ok y w/\aA ae β tm v y:=by
 unfold pR at h;split at h
 . rename_i ee cs aH;have hu:=b3 aB aH;split at h
   . rename_i fd cy;simp only [aA] at bc
     cases bc with
     | agg _ xs aS bG=>
       obtain ⟨y,gF,e5⟩:=wz aB (w:=w) aS bG h;refine ⟨y,?_,aA.cA e5⟩;simp [Instr.field,ca hu,cy,asAgg,gF]
   grind
 grind
end
section
variable {E:Env} {P:Program} (aB:fJ E P) {loc:Nat->Bool} {ae:aF} {w:World} {β:Nat->Option Nat} {tm:List aa} {H:af}
include aB in
theorem Tw {t:Nat} {p i v:aa} {x y:Value} (bc:aA ae β tm p x) (a8:aA ae β tm i y) (h:oU E t p i=some v):
  ∃z,(Instr.index t x y).run P w= .ok z w/\aA ae β tm v z:=by
 unfold oU at h;split at h
 . rename_i len num n aH bO;have hu:=b3 aB aH;obtain ⟨k,rfl⟩:=xr a8 bO;split at h
   . rename_i iH;simp only [c1,N] at h;subst h;simp only [aA] at bc
     cases bc with
     | str s _ _ aS bG=>
       subst aS;subst bG;have Ci:s[n]? =some s[n]:=ai;refine ⟨.int .u8 (s[n]).toNat,?_,aA.cA ?_⟩
       . simp only [Instr.index,asIntOf,Sem.run_bind,Sem.run_pure,Result.andThen_ok,ca hu]
         simp_all
       . have dg:en (et s) n=(s[n]).toNat:=by unfold et;rw [Gp _ _ de];rfl
         rw [dg];exact .int _ _
   grind
 . rename_i len el cs n aH bO;have hu:=b3 aB aH;obtain ⟨k,rfl⟩:=xr a8 bO;split at h
   . rename_i c9 fQ;obtain ⟨info,ho,rfl⟩:=hX aB fQ;split at h
     . rename_i iH;simp only [aA] at bc
       cases bc with
       | agg _ xs aS bG=>
         obtain ⟨z,nQ,lh⟩:=wz aB (w:=w) aS bG h;refine ⟨z,?_,aA.cA lh⟩;have aS:(0:Int)<=Int.ofNat n/\Int.ofNat n<(len:Int):=ah;simp only [Instr.index,asIntOf,Sem.run_bind,Sem.run_pure,Result.andThen_ok,ca hu,Sem.run_ite,if_pos aS,gN ho]
         grind
     grind
   grind
 grind
def fH (ae:aF) (β:Nat->Option Nat) (tm:List aa):Option aa->Option Value->Prop
 |none,none=>True
 |some a,some b=>aA ae β tm a b
 |_,_=>False
theorem AZ {v:aa} {x:Value} {d n:Nat} (c:aA ae β tm v x) (a:ey d (some v)=some n): ∃k,x= .int k (n:Int):=by
 unfold ey at a;split at a
 . grind
 . rename_i k e b;simp only [N] at b;subst b;simp only [N] at a;subst a;simp only [aA] at c
   cases c with
   |int=>simp
 grind
theorem run_sliceBound {k:IntKind} {n y:Nat} (b:n<=y) (c:BoundsCode):(Instr.sliceBound (.int k (n:Int)) y c).run P w= .ok n w:=by have a:(0:Int)<=(n:Int)/\(n:Int)<=(y:Int):=ab;simp only [Instr.sliceBound,asIntOf,Sem.run_bind,Sem.run_pure,Result.andThen_ok,Sem.run_ite,if_pos a];rfl
theorem pK {lo d mx:Option aa} {f e eR:Option Value} (h:fH ae β tm lo f) (g:fH ae β tm d e) (i:fH ae β tm mx eR) (x:Bool) {len cap l c m:Nat}
  (k:ey 0 lo=some l) (n:ey len d=some c) (o:ey cap mx=some m) (A:mx.isSome->d.isSome) (t:l<=c) (u:c<=m) (v:m<=cap):
  (Instr.sliceBounds x len cap f e eR).run P w= .ok (l,c,m) w:=by
 have j:(f=none/\l=0)\/ ∃a,f=some (.int a (l:Int)):=by
  cases lo with
  | none=>cases f with
    |none=>simp [ey] at k;grind
    |some _=>simp [fH] at h
  | some r=>cases f with
    |none=>simp [fH] at h
    |some s=>obtain ⟨a,rfl⟩:=AZ h k;simp
 have p:(e=none/\c=len/\d=none)\/ ∃a,e=some (.int a (c:Int)):=by
  cases d with
  | none=>cases e with
    |none=>simp [ey] at n;grind
    |some _=>simp [fH] at g
  | some r=>cases e with
    |none=>simp [fH] at g
    |some s=>obtain ⟨a,rfl⟩:=AZ g n;simp
 have z:(eR=none/\m=cap)\/ ∃a,eR=some (.int a (m:Int))/\d.isSome:=by
  cases mx with
  | none=>cases eR with
    |none=>simp [ey] at o;grind
    |some _=>simp [fH] at i
  | some r=>cases eR with
    |none=>simp [fH] at i
    |some s=>obtain ⟨a,rfl⟩:=AZ i o;grind
 have C: ∀(a:IntKind) (b:BoundsCode),(Instr.sliceBound (.int a (l:Int)) c b).run P w= .ok l w:=λa b=>run_sliceBound t b;have D: ∀(a:IntKind) (b:BoundsCode),(Instr.sliceBound (.int a (c:Int)) m b).run P w= .ok c w:=λa b=>run_sliceBound u b;have F: ∀(a:IntKind) (b:BoundsCode),(Instr.sliceBound (.int a (m:Int)) cap b).run P w= .ok m w:=λa b=>run_sliceBound v b;unfold Instr.sliceBounds;rcases z with ⟨rfl,rfl⟩|⟨a,rfl,B⟩
 . rcases p with ⟨rfl,rfl,_⟩|⟨y,rfl⟩
   . rcases j with ⟨rfl,rfl⟩|⟨q,rfl⟩
     all_goals simp_all
   . rcases j with ⟨rfl,rfl⟩|⟨q,rfl⟩
     all_goals simp_all
 . rcases p with ⟨rfl,rfl,rfl⟩|⟨y,rfl⟩
   . grind
   . rcases j with ⟨rfl,rfl⟩|⟨q,rfl⟩
     all_goals simp_all
theorem w8 {eR:Option Value} (a:fH ae β tm none eR):eR=none:=by
 cases eR with
 |none=>rfl
 |some _=>simp [fH] at a
theorem AY (d a:Nat) (v:aa):ey d (some v)=ey a (some v):=by
 cases v with
 |int b n=>cases n<;>rfl
 |_=>rfl
theorem Z_ {rows:Y} {c:Bool} {x:Value} {lo D mx:Option aa} {n m eR:Option Value} {v:aa} {t el:Nat} {j:TypeInfo} (ag:P.underlying t=some (.slice el)) (V:P.info? el=some j)
  (W:r7 j.size rows=true) (J:aC ae (.A rows c) x) (G:fH ae β tm lo n) (C:fH ae β tm D m) (q:fH ae β tm mx eR)
  (b:qJ rows c lo D mx=some v): ∃z,(Instr.slice t x n m eR).run P w= .ok z w/\aC ae v z:=by
 unfold aC at J
 cases J with
 | A _ _ f e r O o L ao aq ar T U au av=>
   have K: ∀(a b d:Nat) (k:Bool),(Instr.sliceBounds true rows.length e n m eR).run P w= .ok (a,b,d) w->a<=b->b<=rows.length->b<=d->d<=e->(k=true->d=b)->
     ∃z,(Instr.slice t (.slice f rows.length e) n m eR).run P w= .ok z w/\aC ae (.A ((rows.drop a).take (b-a)) k) z:=by
    intro a b d k h az ay ax aA aw;have Z:((rows.drop a).take (b-a)).length=b-a:=ah;have aE: ∀i,((rows.drop a).take (b-a))[i]? =if i<b-a then rows[a+i]? else none:=by grind
    refine ⟨.slice (if d=a then f else f.map (·.add (a*j.size))) (b-a) (d-a),?_,?_⟩
    . simp [Instr.slice,ca ag,h,gN V]
    . have X:rows≠ []->r=j.size:=by
       intro af
       cases rows with
       |nil=>grind
       | cons al aG=>
         have:=gk W;rw [<-this];exact (U 0 al rfl).symm
      have y:=bt.A (F:=ae.F) (M:=ae.M) (μ:=ae.μ) ((rows.drop a).take (b-a)) k (if d=a then f else f.map (·.add (a*j.size))) (d-a) r O (o+a*r) (λi aj=>L (a+i) aj)
       ab ah
       (by
        intro Q;split at Q
        all_goals simp_all)
       (by
        intro af;have aD:0<b-a:=by grind
        have I:rows≠ []:=ah;rw [if_neg ab,T I,X I];simp [ke])
       (by grind)
       (by grind)
       (by grind)
      rw [Z] at y;exact y
   unfold qJ at b;split at b
   . rename_i a B s u;split at b
     . have ad:=w8 q;subst ad;split at b
       . rename_i p;obtain ⟨g,l⟩:=p;simp only [bu,mz,N] at b;subst b;have h:=pK (P:=P) (w:=w) G C q true (len:=rows.length) (cap:=e) s u rfl ai g ab ab;refine K a B e _ h g l ab ab ?_
         simp_all
       grind
     . rename_i ak;split at b
       . rename_i d aF R;split at b
         . rename_i p;obtain ⟨g,l,an⟩:=p;simp only [bu,mz,N] at b;subst b;have S:ey e (some ak)=some d:=by rw [AY e 0];exact R
           have h:=pK (P:=P) (w:=w) G C q true (len:=rows.length) (cap:=e) s u S ai g l ab;exact K a B d _ h g ab l ab ai
         grind
       grind
   grind
theorem Z9 {id y off k len:Nat} {c:Bool} {x:Value} {lo R mx:Option aa} {n l eR:Option Value} {v:aa} {t el:Nat} {m:TypeInfo} (O:P.underlying t=some (.slice el)) (K:P.info? el=some m)
  (ar:m.size=k) (S:aC ae (.ref id y off k len c) x) (L:fH ae β tm lo n) (J:fH ae β tm R l) (B:fH ae β tm mx eR)
  (a:l4 id y off k len c lo R mx=some v): ∃z,(Instr.slice t x n l eR).run P w= .ok z w/\aC ae v z:=by
 unfold aC at S
 cases S with
 | ref _ _ _ _ _ _ g C W e af aE ag aF aj aG aI=>
   obtain ⟨f,ak⟩: ∃f,f=off-C.s:=⟨_,rfl⟩;rw [<-ak];have T: ∀(b a d:Nat) (i:Bool),(Instr.sliceBounds true len e n l eR).run P w= .ok (b,a,d) w->b<=a->a<=len->a<=d->d<=e->(i=true->d=a)->(i=false->d=e/\c=false)->
     (b=0\/b<d)->
     ∃z,(Instr.slice t (.slice (some ⟨g,f,none⟩) len e) n l eR).run P w= .ok z w/\aC ae (.ref id y (off+b*k) k (a-b) i) z:=by
    intro b a d i h au aq ao aw al an av;refine ⟨.slice (some ⟨g,f+b*m.size,none⟩) (a-b) (d-b),?_,?_⟩
    . simp only [Instr.slice,Sem.run_bind,ca O,h,Result.andThen_ok,gN K,Sem.run_pure];rcases av with rfl|aH
      . simp [ke]
      . rw [if_neg ab];simp [ke]
    . rw [ar];have r:(a:Nat)*k<=len*k:=fU k aq;have u:b*k+(a-b)*k=a*k:=by rw [<-iK];grind
      rw [show f+b*k=off+b*k-C.s by omega];refine .ref id y _ k (a-b) i g C W (d-b) af ab ag ah (λX=> ?_) ab ab;obtain ⟨D,Z⟩:=an X;have aA:=aj Z;have aD:b*k+(d-b)*k=e*k:=by rw [<-iK];grind
      omega
   have U: ∀(b a d:Nat) (i:Bool),(Instr.sliceBounds true len e n l eR).run P w= .ok (b,a,d) w->b=a->a<=d->d<=e->(i=true->d=a)->
     ∃z,(Instr.slice t (.slice (some ⟨g,f,none⟩) len e) n l eR).run P w= .ok z w/\aC ae (.A [] i) z:=by
    intro b a d i h au ao aw al;refine ⟨.slice (if d=b then some ⟨g,f,none⟩ else some ⟨g,f+b*m.size,none⟩) (a-b) (d-b),?_,?_⟩
    . simp only [Instr.slice,Sem.run_bind,ca O,h,Result.andThen_ok,gN K,Sem.run_pure];split<;>simp [ke]
    . have ad:=bt.A (F:=ae.F) (M:=ae.M) (μ:=ae.μ) [] i (if d=b then some ⟨g,f,none⟩ else some ⟨g,f+b*m.size,none⟩) (d-b) 1 g 0 (λ_ _=> .nilIface)
       ai ah ah ai ai ai ai
      rw [show a-b=([]:Y).length by simp;omega];exact ad
   unfold l4 at a;split at a
   . rename_i b o r u;split at a
     . have ax:=w8 B;subst ax;split at a
       . rename_i p;obtain ⟨j,I,Q⟩:=p;have h:=pK (P:=P) (w:=w) L J B true (len:=len) (cap:=e) r u rfl ai j ab ab;split at a
         . rename_i q;obtain ⟨ay,az⟩:=q;simp only [N] at a;subst a;exact U b o e c h ab ab ab ah
         . rename_i q;simp only [c1,N] at a;subst a;exact T b o e c h j I ab ab ah ai ab
       grind
     . rename_i V;split at a
       . rename_i d aJ D;split at a
         . rename_i p;obtain ⟨j,I,Q⟩:=p;have G:ey e (some V)=some d:=by rw [AY e 0];exact D
           have h:=pK (P:=P) (w:=w) L J B true (len:=len) (cap:=e) r u G ai j ab ab;split at a
           . rename_i q;obtain ⟨ay,az⟩:=q;simp only [N] at a;subst a;exact U b o d true h ab ab ab ab
           . rename_i q;simp only [c1,N] at a;subst a;exact T b o d true h j ab ab ab ab ai ab
         . split at a
           . rename_i p;obtain ⟨j,I,Q⟩:=p;simp only [N] at a;subst a;have G:ey e (some V)=some d:=by rw [AY e 0];exact D
             have h:=pK (P:=P) (w:=w) L J B true (len:=len) (cap:=e) r u G ai j ab ab;refine ⟨.slice (if d=b then some ⟨g,f,none⟩ else some ⟨g,f+b*m.size,none⟩) (o-b) (d-b),?_,.bad _⟩;simp only [Instr.slice,Sem.run_bind,ca O,h,Result.andThen_ok,gN K,Sem.run_pure];split<;>simp [ke]
           grind
       grind
   grind
include aB in
theorem Z7 {t:Nat} {p v:aa} {x:Value} {lo a8 mx:Option aa} {we bj eR:Option Value} (hw:Q ae H w) (bc:aA ae β tm p x) (cQ:fH ae β tm lo we) (nN:fH ae β tm a8 bj) (hm:fH ae β tm mx eR)
  (h:hC E t p lo a8 mx H=some v): ∃z,(Instr.slice t x we bj eR).run P w= .ok z w/\aC ae v z:=by
 unfold hC at h;split at h
 case h_2=>cases h
 rename_i el aH;have hu:=b3 aB aH;split at h
 case h_2=>cases h
 rename_i c9 id gen off k len fQ;obtain ⟨info,ho,rfl⟩:=hX aB fQ;split at h
 case h_2=>cases h
 rename_i l tb g d r cs fc kn jl;split at h
 case isFalse=>cases h
 rename_i bp;obtain ⟨rfl,rfl,g3,g4⟩:=bp;simp only [c1,N] at h;subst h;simp only [aA] at bc;have Cm:=w8 hm;subst Cm
 cases bc with
 | ref _ _ _ _ _ _ b C L cap aS bG dS fO kr pY bB=>
   obtain ⟨xt,w_,ld⟩:=hw.obj _ _ jl;have e:=ld.at_;rw [aS] at e;simp only [N,bz] at e;obtain ⟨rfl,rfl,rfl⟩:=e;have p6:=ld.room;have kr:=kr rfl;have ym:tb<=cap:=by have:tb*info.size<=cap*info.size:=ab;exact Nat.le_of_mul_le_mul_right this dS
   have dg:=pK (P:=P) (w:=w) cQ nN (mx:=none) (eR:=none) trivial true (len:=len) (cap:=cap) fc kn rfl ai ab ym ab;refine ⟨.slice (some ⟨b,off-C.s+l*info.size,none⟩) (tb-l) (cap-l),?_,?_⟩
   . simp only [Instr.slice,Sem.run_bind,ca hu,dg,Result.andThen_ok,gN ho,Sem.run_pure];rw [if_neg ab];simp [ke]
   . have kn:l*info.size+(tb-l)*info.size=tb*info.size:=by rw [<-iK];grind
     have Ha:l*info.size+(cap-l)*info.size=cap*info.size:=by rw [<-iK];grind
     rw [show off-C.s+l*info.size=off+l*info.size-C.s by omega];exact .ref id gen _ info.size (tb-l) false b C cs.length (cap-l) aS ab dS ai ab ab ab
include aB in
theorem Z8 {t:Nat} {p v:aa} {x:Value} {lo a8 mx:Option aa} {we bj eR:Option Value} (bc:aA ae β tm p x) (cQ:fH ae β tm lo we) (nN:fH ae β tm a8 bj) (hm:fH ae β tm mx eR)
  (h:gO E t p lo a8 mx=some v): ∃z,(Instr.slice t x we bj eR).run P w= .ok z w/\aC ae v z:=by
 unfold gO at h;split at h
 ·
  rename_i aH;have hu:=b3 aB aH;split at h
  . rename_i len num;unfold m8 at h;split at h
    . rename_i l Iy fc kn;split at h
      . rename_i bp;obtain ⟨aS,bG⟩:=bp;simp only [c1,N] at h;subst h;simp only [aA] at bc
        cases bc with
        | str s _ _ S_ Cr=>
          subst S_;subst Cr;have Cm:=w8 hm;subst Cm;have dg:=pK (P:=P) (w:=w) cQ nN (mx:=none) (eR:=none) trivial false (len:=s.size) (cap:=s.size) fc kn rfl ai aS bG ab;refine ⟨.string (s.extract l Iy),?_,.str _ _ _ de (Yh s l Iy)⟩;simp only [Instr.slice,Sem.run_bind,ca hu,Result.andThen_ok];simp [dg]
      grind
    grind
  grind
 ·
  rename_i el aH;have hu:=b3 aB aH;split at h
  . rename_i c9 fQ;obtain ⟨info,ho,rfl⟩:=hX aB fQ;simp only [aA] at bc;cases bc;unfold zS at h;split at h
    . rename_i fc kn pN;split at h
      . grind
      . rename_i bO;simp only [N] at h;subst h;have dg:=pK (P:=P) (w:=w) cQ nN hm true (len:=0) (cap:=0) fc kn pN (by intro bB;cases a8<;>simp_all) ab ab ab;refine ⟨.slice none 0 0,?_,.V⟩;simp [Instr.slice,ca hu,dg,gN ho]
    grind
  . rename_i c9 rows c fQ;obtain ⟨info,ho,rfl⟩:=hX aB fQ;split at h
    . rename_i dp;simp only [aA] at bc;exact Z_ hu ho dp bc cQ nN hm h
    grind
  . rename_i c9 id gen off k len c fQ;obtain ⟨info,ho,rfl⟩:=hX aB fQ;split at h
    . rename_i dp;simp only [aA] at bc;exact Z9 hu ho de bc cQ nN hm h
    grind
  grind
 grind
end
section
variable {E:Env} {P:Program} (aB:fJ E P) {loc:Nat->Bool} {ae:aF} {w:World} {β:Nat->Option Nat} {tm:List aa} {H:af}
theorem QX {d m:Nat} {xs h:Array Value} {as e:List aa} (p:as.length=xs.size) (s:e.length=h.size) (aB:fJ E P)
  (q: ∀(i:Nat) (v:aa) (x:Value),as[i]? =some v->xs[i]? =some x->aC ae v x) (u: ∀(i:Nat) (v:aa) (x:Value),e[i]? =some v->h[i]? =some x->aC ae v x)
  (l: ∀(t:Nat) (c v:aa) (x y:Value) (r:Bool),aC ae c x->aC ae v y->eF E d t c v=some r->(Op.equalIn m t x y).run P w= .ok r w):
  ∀ (b : List Field) (r:Bool),b.foldr (λf r=>if f.name≠ "_" then
         match n7 E f.type as f.offset,n7 E f.type e f.offset with
         | some c,some v=>match eF E d f.type c v with
           |some true=>r
           |some false=>some false
           |none=>none
         |_,_=>none
       else r) (some true)=some r->(Op.eqFields m xs h b).run P w= .ok r w:=by
 intro b
 induction b with
 |nil=>intro r a;simp at a;subst a;rfl
 | cons f b C=>
   intro r a;simp only [yM] at a;simp only [Op.eqFields,Sem.run_ite];split at a
   . rename_i z;rw [if_pos z];split at a
     . rename_i c v n o;obtain ⟨x,A,j⟩:=wz aB (w:=w) p q n;obtain ⟨y,B,k⟩:=wz aB (w:=w) s u o;simp only [Sem.run_bind,A,B,Result.andThen_ok];split at a
       . rename_i g;rw [l _ _ _ _ _ _ j k g];simp only [Result.andThen_ok,alI,eJ,if_false]
         grind
       . rename_i g;rw [l _ _ _ _ _ _ j k g]
         simp_all
       grind
     grind
   grind
include aB in
theorem xN : ∀(d m t:Nat) (u v:aa) (x y:Value) (r:Bool),d<=m->aC ae u x->aC ae v y->eF E d t u v=some r->(Op.equalIn m t x y).run P w= .ok r w:=by
 intro d
 induction d with
 |zero=>intro m t u v x y r _ _ _ h;simp [eF] at h
 | succ d ff=>
   intro m t u v x y r hm hu aP h;obtain ⟨m,rfl⟩: ∃k,m=k+1:=⟨m-1,ab⟩;unfold aC at hu aP;simp only [eF] at h;split at h
   . rename_i aH;have aH:=b3 aB aH;cases hu;cases aP;simp at h;subst h;simp [Op.equalIn,ca aH]
   . rename_i aH;have aH:=b3 aB aH;cases hu;cases aP;split at h
     . rename_i e;subst e;simp at h;subst h;simp [Op.equalIn,ca aH]
     grind
   . rename_i aH;have aH:=b3 aB aH
     cases hu with
     | str s _ _ aS bG=>cases aP with
       | str s' _ _ dS fO=>
         subst aS;subst bG;subst dS;subst fO;simp only [N] at h;subst h;simp only [Op.equalIn,Sem.run_bind,ca aH,Result.andThen_ok,Sem.run_pure];rw [beq_toListBytes,KM]
   . rename_i ee as O1 aH;have aH:=b3 aB aH
     cases hu with
     | agg _ xs aS bG=>cases aP with
       | agg _ bI dS fO=>
         split at h
         . rename_i heq;have cy:P.fieldsOf t=ee:=by simp [Program.fieldsOf,aH]
           rw [run_equalIn_struct w m t xs bI ah (aB.nD _ heq).1,cy];exact QX aS dS aB bG fO ah ee.toList r h
         grind
   all_goals first
    |(rename_i aH;have aH:=b3 aB aH;cases hu;cases aP;simp at h;subst h;simp [Op.equalIn,ca aH];done)
    |skip
   case h_11 ms aH=>
    have aH:=b3 aB aH;cases hu;cases aP;split at h
    . simp at h;subst h;simp [Op.equalIn,ca aH]
    grind
   case h_22=>grind
   case h_5 el a b c l uR jJ Gr wc aH=>
    have aH:=b3 aB aH;split at h
    case h_2=>grind
    rename_i n bO;obtain ⟨i,a8,aeG⟩:=hX aB bO;split at h
    case isFalse=>grind
    rename_i e;obtain ⟨rfl,rfl⟩:=e
    cases hu with
    | ptr _ _ _ _ B C L aS bG dS=>cases aP with
      | ptr _ _ _ _ acj qW ov g1 g2 g3=>
        rw [aS] at g1;simp only [N,bz] at g1;obtain ⟨rfl,rfl,rfl⟩:=g1;simp only [N] at h;subst h;simp only [Op.equalIn,Sem.run_bind,ca aH,Result.andThen_ok,gN a8];rw [if_pos ab];simp only [sameAddr,beq_self_eq_true,if_true,Sem.run_pure,Result.ok.injEq,and_true];rw [jU];simp only [beq_iff_eq,Addr.mk.injEq,true_and,and_true,lU];omega
theorem Ca (op:BinOp) (t:Nat) (x y:Operand) (a b:Value) (d: ¬(a= .nilIface/\b= .nilIface)) (e: ∀xs c,¬(a= .agg xs/\b= .agg c)):
  (eqGuard op t x y a b).run P w= .ok () w:=by
 unfold eqGuard
 simp_all
theorem BG {d t:Nat} {a v:aa} {r:Bool} (b:eF E (d+1) t a v=some r):
  a≠ .bad/\v≠ .bad/\(a= .dj->v= .dj-> ∃ms,aW E t=some (.interface ms)/\ms.size=0)/\(∀as c,a= .agg as->v= .agg c->E.nD t=true):=by
 simp only [eF] at b;split at b
 case h_4=>
  grind
 case h_11 ms e=>
  grind
 case h_22=>grind
 all_goals simp
theorem QZ {d t:Nat} {b v:aa} {r:Bool} (a:eF E (d+1) t b v=some r):aD b=true/\aD v=true:=by
 simp only [eF] at a;split at a
 case h_22=>grind
 all_goals exact ⟨rfl,rfl⟩
theorem aC.nilIface {v:aa} (a:aC ae v .nilIface):v= .bad\/v= .dj:=by unfold aC at a;cases a<;>simp
theorem aC.F4 {v:aa} {xs:Array Value} (a:aC ae v (.agg xs)):v= .bad\/ ∃as,v= .agg as:=by unfold aC at a;cases a<;>simp
include aB in
theorem Hg {t:Nat} {u v:aa} {x y:Value} {r:Bool} (X Y:Operand) (op:BinOp) (hu:aC ae u x) (aP:aC ae v y) (h:eF E 20 t u v=some r):
  (eqGuard op t X Y x y).run P w= .ok () w/\(Op.equal t x y).run P w= .ok r w:=by
 have aS:=xN aB 20 Op.maxDepth t u v x y r (by simp [Op.maxDepth]) hu aP h (w:=w);refine ⟨?_,aS⟩;obtain ⟨ln,nZ,tW,wi⟩:=BG (d:=19) h;by_cases bO:x= .nilIface/\y= .nilIface
 . obtain ⟨rfl,rfl⟩:=bO;obtain ⟨ms,aH,aeL⟩:=tW (hu.nilIface.resolve_left ln) (aP.nilIface.resolve_left nZ);have aH:=b3 aB aH;obtain rfl:ms= #[]:=ah;have kx:(Op.eqGuardIn Op.maxDepth t .nilIface .nilIface).run P w= .ok false w:=by show (Op.eqGuardIn (9999+1) t .nilIface .nilIface).run P w= .ok false w;rw [Op.eqGuardIn];simp [ca aH]
   simp only [eqGuard,Sem.run_bind,Sem.run_ite,Sem.run_pure,kx,Result.andThen_ok,eJ,if_false,ite_self]
 . by_cases eO: ∃xs bI,x= .agg xs/\y= .agg bI
   . obtain ⟨xs,bI,rfl,rfl⟩:=eO;obtain ⟨as,fc⟩:=hu.F4.resolve_left ln;obtain ⟨O1,kn⟩:=aP.F4.resolve_left nZ;exact run_eqGuard_agg w op t X Y xs bI (aB.nD _ ah).2
   . exact Ca op t X Y x y bO ah
theorem Gq: ∀(l m:List UInt8),js l.length (cV l) m.length (cV m)=Op.bytesLess l m:=by
 intro l
 induction l with
 |nil=>intro m;cases m<;>simp [js,Op.bytesLess]
 | cons a l j=>
   intro m
   cases m with
   |nil=>simp [js,Op.bytesLess]
   | cons b m=>
     have h:a.toNat<256:=a.toNat_lt;have i:b.toNat<256:=b.toNat_lt;simp only [cl,js,cV,Op.bytesLess];rw [show (a.toNat+256*cV l)%256=a.toNat by omega,show (b.toNat+256*cV m)%256=b.toNat by omega,
      show (a.toNat+256*cV l)/256=cV l by omega,show (b.toNat+256*cV m)/256=cV m by omega]
     by_cases d:a=b
     . grind
     . have f:a.toNat≠b.toNat:=λc=>d (UInt8.toNat_inj.1 c);rw [if_neg f];have g:(a==b)=false:=by simp [d]
       rw [g,yH,Bool.or_false]
       cases e:Nat.blt a.toNat b.toNat with
       | true=>
         have:a.toNat<b.toNat:=er e;exact (decide_eq_true (UInt8.lt_iff_toNat_lt.2 this)).symm
       | false=>
         have: ¬a.toNat<b.toNat:=λc=>by
          have:=h_ c;rw [show Nat.blt a.toNat b.toNat=Nat.ble (a.toNat+1) b.toNat from rfl] at e
          grind
         exact (decide_eq_false (λc=>this (UInt8.lt_iff_toNat_lt.1 c))).symm
theorem OK {op:BinOp} {k h:IntKind} {a b:Int} {v:aa} (t:Nat) (c:jb op k h a b=some v):
  ∃z,(binOp op t (.int k a) (.int h b)).run P w= .ok z w/\aC ae v z:=by
 have i: ∀ {f:Bool} {g:aa},some (aa.bool f)=some g-> ∃z,(Sem.pure (Value.bool f):Sem Value).run P w= .ok z w/\aC ae g z:=by intro f g e;simp at e;subst e;exact ⟨_,rfl,.bool _⟩
 unfold jb at c;split at c
 . split at c
   . rename_i d;simp at c;subst c;refine ⟨_,?_,.int _ _⟩;simp only [binOp,Op.shift];rw [if_neg ab];rfl
   grind
 . split at c
   . rename_i d;simp at c;subst c;refine ⟨_,?_,.int _ _⟩;simp only [binOp,Op.shift];rw [if_neg ab];rfl
   grind
 . rename_i j l;split at c
   . rename_i e;subst e;unfold kh at c;split at c
     case h_4=>
      split at c
      . grind
      . rename_i d;simp at c;subst c;refine ⟨_,?_,.int _ _⟩;simp [binOp,Op.intDiv,d]
     case h_5=>
      split at c
      . grind
      . rename_i d;simp at c;subst c;refine ⟨_,?_,.int _ _⟩;simp [binOp,Op.intDiv,d]
     case h_16=>grind
     all_goals
      simp only [pQ,mz,N] at c;subst c
      first
       |(refine ⟨_,?_,.int _ _⟩;simp only [binOp,Op.intArith];rw [if_neg ai];rfl)
       |(refine ah;simp only [binOp,Op.intBits];rw [if_neg ai];rfl)
       |exact ⟨_,by simp [binOp,Op.intCmp],.bool _⟩
   grind
theorem OP {op:BinOp} {s s':ByteArray} {v:aa} (t:Nat) (a:mn op s.size (et s) s'.size (et s')=some v):
  ∃z,(binOp op t (.string s) (.string s')).run P w= .ok z w/\aC ae v z:=by
 have b:=KM s s';have c:js s.size (et s) s'.size (et s')=Op.bytesLess s.toList s'.toList:=by rw [<-size_data,<-size_data,ByteArray.toList_eq,ByteArray.toList_eq];exact Gq _ _
 unfold mn at a;split at a
 case h_1=>
  split at a
  . rename_i d;simp at a;subst a;refine ⟨.string (s++s'),?_,.str _ _ _ ai (Yg s s')⟩;simp only [binOp,Op.stringOp];rw [if_neg]
    . rfl
    . have f:ht=9223372036854775807:=rfl;have e:IntKind.i64.max=9223372036854775807:=al;omega
  grind
 case h_8=>grind
 all_goals
  simp only [mz,N] at a;subst a;refine ⟨_,?_,.bool _⟩;simp [binOp,Op.stringOp,b,c]
theorem binOp_eql (t:Nat) {x y:Value} (d: ∀k a c b,¬(x= .int k a/\y= .int c b)) (e: ∀a b,¬(x= .string a/\y= .string b)) (f: ∀k a,x≠ .float k a) (g: ∀k a b,x≠ .complex k a b):
  binOp .eql t x y=(do pure (.bool (<-Op.equal t x y)))/\binOp .neq t x y=(do pure (.bool (!(<-Op.equal t x y)))):=by
 cases x<;>cases y<;>first
  |exact ⟨rfl,rfl⟩
  |grind
  |grind
  |grind
  |grind
theorem Hj {f v:aa} {x y:Value} (e:aC ae f x) (g:aC ae v y) (i:f≠ .bad) (j:v≠ .bad) (m1: ∀k a h b,f= .int k a->v= .int h b->False) (m2: ∀a b c d,f= .str a b->v= .str c d->False) (t:Nat):
  binOp .eql t x y=(do pure (.bool (<-Op.equal t x y)))/\binOp .neq t x y=(do pure (.bool (!(<-Op.equal t x y)))):=by
 unfold aC at e g;apply binOp_eql
 . rintro k a h b ⟨rfl,rfl⟩;cases e<;>first|exact absurd rfl i|skip
   cases g<;>first|grind|grind
 . rintro a b ⟨rfl,rfl⟩;cases e<;>first|exact absurd rfl i|skip
   cases g<;>first|grind|grind
 . rintro k a rfl;cases e;grind
 . rintro k a b rfl;cases e;grind
include aB in
theorem ON {op:BinOp} {t:Nat} {u v r:aa} {x y:Value} (X Y:Operand) (hu:aA ae β tm u x) (aP:aA ae β tm v y) (h:b4 E op t u v=some r):
  ∃z,(do eqGuard op t X Y x y;binOp op t x y:Sem Value).run P w= .ok z w/\aC ae r z:=by
 unfold b4 at h;split at h
 . rename_i k a qf b;simp only [aA] at hu aP;cases hu;cases aP;obtain ⟨z,nQ,lh⟩:=OK (P:=P) (w:=w) (ae:=ae) t h;exact ⟨z,by simp [Ca,nQ],lh⟩
 . simp only [aA] at hu aP
   cases hu with
   | str s _ _ aS bG=>cases aP with
     | str s' _ _ dS fO=>
       subst aS;subst bG;subst dS;subst fO;obtain ⟨z,nQ,lh⟩:=OP (P:=P) (w:=w) (ae:=ae) t h;exact ⟨z,by simp [Ca,nQ],lh⟩
 . rename_i ln nZ;have gi: ∀ {u v:aa} {b:Bool},eF E 20 t u v=some b->aD u=true/\aD v=true:=by intro u v b h;have:=QZ (d:=19) h;omega
   unfold xu at h;split at h
   . split at h
     . rename_i b dg;simp only [N] at h;subst h;obtain ⟨l1,l2⟩:=gi dg;obtain ⟨g1,g2⟩:=Hg aB (w:=w) X Y .eql (hu.iv l1) (aP.iv l2) dg;obtain ⟨nu,sH,_,_⟩:=BG (d:=19) dg;have bc:=Hj (hu.iv l1) (aP.iv l2) nu sH ln nZ t;refine ⟨.bool b,?_,.bool _⟩
       simp_all
     grind
   . split at h
     . rename_i b dg;simp only [mz,N] at h;subst h;obtain ⟨l1,l2⟩:=gi dg;obtain ⟨g1,g2⟩:=Hg aB (w:=w) X Y .neq (hu.iv l1) (aP.iv l2) dg;obtain ⟨nu,sH,_,_⟩:=BG (d:=19) dg;have bc:=Hj (hu.iv l1) (aP.iv l2) nu sH ln nZ t;refine ⟨.bool (!b),?_,.bool _⟩
       simp_all
     grind
   grind
theorem abG {op:UnOp} {c r:aa} {x:Value} (b:aA ae β tm c x) (a:nc op c=some r): ∃z,(Op.unary op x).run P w= .ok z w/\aC ae r z:=by
 unfold nc at a;split at a
 . simp only [aA] at b;cases b;simp at a;subst a;exact ⟨_,rfl,.bool _⟩
 . simp only [aA] at b;cases b;simp at a;subst a;refine ⟨_,rfl,?_⟩;simp;exact .int _ _
 . simp only [aA] at b;cases b;simp only [pQ,N] at a;subst a;exact ⟨_,rfl,.int _ _⟩
 grind
end
def RV (off:Nat): ∀(vs:List Value) (k:Nat) (b:Array Value),
    let r:=(vs.zipIdx k).foldl (λd (c:Value×Nat)=>d.setIfInBounds (off+c.2) c.1) b
    r.size=b.size/\ ∀a,r[a]? =if off+k<=a/\a<off+k+vs.length/\a<b.size then vs[a-(off+k)]? else b[a]? :=by
 intro vs
 induction vs with
 |nil=>intro k b;refine ⟨rfl,λa=> ?_⟩;simp;omega
 | cons f vs e=>
   intro k b;simp only [List.zipIdx_cons,amL]
   grind
def RU (off:Nat) (vs b:Array Value):
    let r:=vs.zipIdx.foldl (λd (c:Value×Nat)=>d.setIfInBounds (off+c.2) c.1) b
    r.size=b.size/\ ∀a,r[a]? =if off<=a/\a<off+vs.size/\a<b.size then vs[a-off]? else b[a]? :=by
 have:=RV off vs.toList 0 b;rw [<-Array.foldl_toList,Array.toList_zipIdx]
 grind
section
variable {E:Env} {P:Program} (aB:fJ E P) {loc:Nat->Bool} {ae:aF} {w:World} {β:Nat->Option Nat} {tm:List aa} {H:af}
def dU (ae:aF) (cs:List aa) (xs:Array Value):Prop:=cs.length=xs.size/\ ∀(a:Nat) (b:aa) (c:Value),cs[a]? =some b->xs[a]? =some c->aC ae b c
theorem xE {v:aa} {x:Value} (a:aA ae β tm v x) (c:v.cells.all J=true):dU ae v.cells x.cells/\ ∀(i:Nat) (y:Value),x.cells[i]? =some y->y.oneCell'=true:=by
 have k:aD v=true:=by cases v<;>simp [aa.cells,J,aD] at c|-
 have a:=a.iv k;have f: ∀ {e:aa} {y:Value},aC ae e y->J e=true->y.oneCell'=true:=by intro e y d m;unfold aC at d;cases d<;>first|rfl|simp [J] at m
 cases v with
 | agg g=>
   unfold aC at a
   cases a with
   | agg _ o h j=>
     refine ⟨⟨h,j⟩,λi y b=> ?_⟩;have n:i<g.length:=by rw [h];exact (qg.1 b).1
     refine f (j i g[i] y ai b) ?_;simp only [aa.cells,ba] at c
     grind
 | _ =>
   have l:x.cells= #[x]:=by unfold aC at a;cases a<;>first|rfl|simp [aa.cells,J] at c
   rw [l];refine ⟨⟨rfl,λi e y d b=> ?_⟩,λi y b=> ?_⟩
   . cases i with
     |zero=>simp [aa.cells] at d b;grind
     |succ i=>grind
   . cases i with
     |zero=>simp at b;subst b;exact f a (by simpa [aa.cells] using c)
     |succ i=>grind
theorem uD {cs c vs:List aa} {off:Nat} (a:cB cs off vs=some c):off+vs.length<=cs.length/\c.length=cs.length/\ ∀i:Nat,c[i]? =if off<=i/\i<off+vs.length then vs[i-off]? else cs[i]? :=by
 unfold cB at a;split at a
 all_goals grind
theorem BO {pl wA:Nat->Option (Nat×Nat)} (G: ∀i r,pl i=some r->wA i=some r):
  ∀ (d:List (Nat×aa)) (a:List (Nat×Value)) (cs c:List aa) (xs:Array Value),d.length=a.length->
    (∀(j:Nat) p q,d[j]? =some p->a[j]? =some q->p.1=q.1/\aA ae β tm p.2 q.2)->dU ae cs xs->(∀(i:Nat) (y:Value),xs[i]? =some y->y.oneCell'=true)->hn pl cs d=some c->
    ∃l,Instr.fill wA xs a=some l/\dU ae c l/\ ∀(i:Nat) (y:Value),l[i]? =some y->y.oneCell'=true:=by
 intro d
 induction d with
 | nil=>
   intro a cs c xs C _ e o b
   cases a with
   |nil=>simp [hn] at b;subst b;exact ⟨xs,rfl,e,o⟩
   |cons q a=>grind
 | cons p d M=>
   intro a cs c xs C u e o b
   cases a with
   |nil=>grind
   | cons q a=>
     obtain ⟨i,N⟩:=p;obtain ⟨X,h⟩:=q;obtain ⟨n,z⟩:=u 0 _ _ rfl rfl;simp only at n;subst n;simp only [hn] at b;split at b
     . grind
     . rename_i g v t;split at b
       . rename_i A;obtain ⟨S,F⟩:=A;split at b
         . rename_i x I;simp only [bu] at b;obtain ⟨⟨L,V⟩,W⟩:=xE z F;obtain ⟨U,J,K⟩:=uD I;simp only [Instr.fill,G _ _ t];have T:h.cells.size=v:=ah;have D: ¬(h.cells.size≠v||decide (g+h.cells.size>xs.size))=true:=by rw [<-e.1];grind
           rw [if_neg D];obtain ⟨O,B⟩:=RU g h.cells xs;refine M a x c _ ah (λj p q t R=>u (j+1) p q ah ah) ⟨by rw [J,e.1];omega,λj Y y k f=> ?_⟩ (λj y f=> ?_) b
           . rw [K] at k;rw [B] at f;have Q:j<xs.size:=by grind
             by_cases m:g<=j/\j<g+N.cells.length
             . grind
             . rw [if_neg m] at k;rw [if_neg (by rw [<-L];exact λs=>m ⟨s.1,s.2.1⟩)] at f;exact e.2 _ _ _ k f
           grind
         grind
       grind
theorem KR {a:Act} (b: ∀x,aA ae β tm (B E tm x) (a.eval x)) (parts:Array (Nat×Operand)):
  (parts.toList.map λp=>(p.1,B E tm p.2)).length=(parts.map λp=>(p.1,a.eval p.2)).toList.length/\
  ∀(j:Nat) (p:Nat×aa) (q:Nat×Value),(parts.toList.map λp=>(p.1,B E tm p.2))[j]? =some p->(parts.map λp=>(p.1,a.eval p.2)).toList[j]? =some q->p.1=q.1/\aA ae β tm p.2 q.2:=by
 grind
theorem uI {z:aa} {v:Value} (a: ∀F M μ,bt F M μ z v) (b:z.cells.all J=true):dU ae z.cells v.cells/\ ∀(i:Nat) (y:Value),v.cells[i]? =some y->y.oneCell'=true:=
 xE (β:=λ_=>none) (tm:= []) (aA.cA (a _ _ _)) b
theorem mapM_some {α β:Type} (f:α->Option β) (g:α->β): ∀l:List α,(∀x∈l,f x=some (g x))->l.mapM f=some (l.map g):=by
 intro l
 induction l with
 |nil=>simp
 | cons x l a=>
   grind
include aB in
theorem Pa {t:Nat} {gm:List (Nat×aa)} {l2:Array (Nat×Value)} {v:aa} (cQ:gm.length=l2.toList.length)
  (yu: ∀(j:Nat) (p:Nat×aa) (q:Nat×Value),gm[j]? =some p->l2.toList[j]? =some q->p.1=q.1/\aA ae β tm p.2 q.2)
  (oS: ∀z,bN E t=some z->z.cells.all J=true) (h:oE E t gm=some v): ∃z,(Instr.build t l2).run P w= .ok z w/\aC ae v z:=by
 unfold oE at h;split at h
 . rename_i ee z aH cq;have hu:=b3 aB aH;obtain ⟨info,eM,ho,iI,mJ⟩:=qV aB cq;obtain ⟨rq,Cd⟩:=uI (ae:=ae) mJ (oS _ cq);split at h
   . rename_i mC;split at h
     . rename_i cs cy;simp only [N] at h;subst h;have aeU:ee.toList.mapM (λf=>(P.info? f.type).map λi=>(f.offset,i.size))=some (ee.toList.map λf=>(f.offset,((P.info? f.type).map (·.size)).getD 0)):=by
        refine mapM_some _ _ _ λf cy=> ?_;have:=ba.1 mC f cy;obtain ⟨n,bO⟩:=Option.isSome_iff_exists.1 this;obtain ⟨i,a8,rfl⟩:=hX aB bO
        grind
       obtain ⟨bI,gF,e5,_⟩:=BO (ae:=ae) (β:=β) (tm:=tm) (wA:=λi=>((ee.toList.map λf=>(f.offset,((P.info? f.type).map (·.size)).getD 0)).toArray)[i]?) (λi r bh=>by
        split at bh
        . rename_i f aeD;split at bh
          . rename_i n bO;simp only [N] at bh;subst bh;obtain ⟨ae3,kv,rfl⟩:=hX aB bO
            grind
          grind
        grind) gm l2.toList z.cells cs eM.cells cQ yu rq Cd cy
       refine ⟨.agg bI,?_,.agg _ _ e5.1 e5.2⟩;refine run_build w t l2 bI ?_;unfold Program.built
       grind
     grind
   grind
 . rename_i len el z aH cq;have hu:=b3 aB aH;obtain ⟨info,eM,ho,iI,mJ⟩:=qV aB cq;obtain ⟨rq,Cd⟩:=uI (ae:=ae) mJ (oS _ cq);split at h
   . rename_i n bO;obtain ⟨IM,aeF,rfl⟩:=hX aB bO;split at h
     . rename_i cs cy;simp only [N] at h;subst h;obtain ⟨bI,gF,e5,_⟩:=BO (ae:=ae) (β:=β) (tm:=tm) (wA:=λi=>some (i*IM.size,IM.size)) ai gm l2.toList z.cells cs eM.cells cQ yu rq Cd cy;refine ⟨.agg bI,?_,.agg _ _ e5.1 e5.2⟩;refine run_build w t l2 bI ?_;unfold Program.built
       grind
     grind
   grind
 grind
theorem pg {t:Nat} {d:TypeDesc} {x:Value} (ty:Nat) (g:P.underlying t=some d):
  (Builtin.len_ #[t] ty #[x]).run P w=(match d,x with
 | .string,.string s=>(pure (goInt s.size):Sem Value)
 | .array n _,_=>pure (goInt n)
 | .pointer a,_=>do
   let .array n _<-underlying a|stuck "len: pointer to array expected"
   pure (goInt n)
 | .slice _,.slice _ n _=>pure (goInt n)
 | .map _ _,.map none| .chan _ _,.chan none=>pure (goInt 0)
 | .map _ _,.map (some r)=>do
   let .map c _<-getObj r|stuck "len: map expected"
   pure (goInt c.size)
 | .chan _ _,.chan (some r)=>do
   let .chan _ b _ _ _ e<-getObj r|stuck "len: channel expected"
   pure (goInt (if e then 0 else b.size))
 |_,_=>stuck "len: string, array, pointer to array, slice, map or channel expected").run P w:=by
 have f:(Builtin.len_ #[t] ty #[x]).run P w=((underlying t).run P w).andThen (λd w=>(match d,x with
 | .string,.string s=>(pure (goInt s.size):Sem Value)
 | .array n _,_=>pure (goInt n)
 | .pointer a,_=>do
   let .array n _<-underlying a|stuck "len: pointer to array expected"
   pure (goInt n)
 | .slice _,.slice _ n _=>pure (goInt n)
 | .map _ _,.map none| .chan _ _,.chan none=>pure (goInt 0)
 | .map _ _,.map (some r)=>do
   let .map c _<-getObj r|stuck "len: map expected"
   pure (goInt c.size)
 | .chan _ _,.chan (some r)=>do
   let .chan _ b _ _ _ e<-getObj r|stuck "len: channel expected"
   pure (goInt (if e then 0 else b.size))
 |_,_=>stuck "len: string, array, pointer to array, slice, map or channel expected").run P w):=by rw [<-Sem.run_bind];rfl
 rw [f,ca g];rfl
theorem run_getObj_map {b:Nat} {a:Array MapEntry} {c:Nat} (d:w.heap[b]? =some (.map a c)):(getObj b).run P w= .ok (.map a c) w:=by simp [getObj,Sem.run,d]
include aB in
theorem V3 {t ty:Nat} {u v:aa} {x:Value} (hw:Q ae H w) (hu:aA ae β tm u x) (h:fE E t u H=some v):
  ∃z,(Builtin.len_ #[t] ty #[x]).run P w= .ok z w/\aC ae v z:=by
 unfold fE at h;split at h
 . rename_i aH;have aH:=b3 aB aH;simp only [aA] at hu
   cases hu with
   | str s _ _ aS bG=>
     simp only [N] at h;subst h;subst aS;exact ⟨_,by rw [pg ty aH];rfl,.int _ _⟩
 . rename_i aH;have aH:=b3 aB aH;simp only [N] at h;subst h;exact ⟨_,by rw [pg ty aH];rfl,.int _ _⟩
 . rename_i a aH;have aH:=b3 aB aH;split at h
   . rename_i vr;have vr:=b3 aB vr;simp only [N] at h;subst h;refine ⟨_,?_,.int _ _⟩;rw [pg ty aH];simp [ca vr,goInt]
   grind
 . rename_i aH;have aH:=b3 aB aH;simp only [aA] at hu;cases hu;simp only [N] at h;subst h;exact ⟨_,by rw [pg ty aH];rfl,.int _ _⟩
 . rename_i aH;have aH:=b3 aB aH;simp only [aA] at hu;cases hu;simp only [c1,N] at h;subst h;exact ⟨_,by rw [pg ty aH];rfl,.int _ _⟩
 . rename_i aH;have aH:=b3 aB aH;simp only [aA] at hu;cases hu;simp only [N] at h;subst h;exact ⟨_,by rw [pg ty aH];rfl,.int _ _⟩
 . rename_i aH;have aH:=b3 aB aH;simp only [aA] at hu;cases hu;simp only [N] at h;subst h;exact ⟨_,by rw [pg ty aH];rfl,.int _ _⟩
 . rename_i ks vs aH;have aH:=b3 aB aH;simp only [aA] at hu
   cases hu with
   | ck _ _ b es clock aS bG dS fO kr=>
     simp only [c1,N] at h;subst h;refine ⟨.int .i64 es.size,?_,by rw [bG];exact .int _ _⟩;rw [pg ty aH];simp [run_getObj_map (hw.gK _ _ aS),goInt]
 . rename_i id aH;have aH:=b3 aB aH;split at h
   . rename_i aI ks vs b9;simp only [c1,N] at h;subst h;obtain ⟨b,es,clock,hm⟩:=hw.obj _ _ b9;simp only [aA] at hu
     cases hu with
     | map _ jJ aS=>
       have:=hm.at_;rw [aS] at this;simp at this;subst this;refine ⟨.int .i64 es.size,?_,by rw [hm.jt];exact .int _ _⟩;rw [pg ty aH];simp [run_getObj_map hm.dH,goInt]
   grind
 grind
theorem zL {t:Nat} {d:TypeDesc} {x:Value} (ty:Nat) (b:P.underlying t=some d) (n:Nat) (c:(∃e,d= .array n e)\/(∃e a l,d= .slice e/\x= .slice a l n)):
  (Builtin.cap_ #[t] ty #[x]).run P w= .ok (goInt n) w:=by
 simp only [Builtin.cap_];rcases c with ⟨e,rfl⟩|⟨e,a,l,rfl,rfl⟩
 . simp [ca b]
 . simp [ca b]
include aB in
theorem PH {t ty:Nat} {u v:aa} {x:Value} (hu:aA ae β tm u x) (h:q_ E t u=some v):
  ∃z,(Builtin.cap_ #[t] ty #[x]).run P w= .ok z w/\aC ae v z:=by
 unfold q_ at h;split at h
 . rename_i n e aH;have aH:=b3 aB aH;simp only [N] at h;subst h;exact ⟨_,zL ty aH n ai,.int _ _⟩
 . rename_i aH;have aH:=b3 aB aH;simp only [aA] at hu;cases hu;simp only [N] at h;subst h;exact ⟨_,zL ty aH 0 ai,.int _ _⟩
 . rename_i aH;have aH:=b3 aB aH;simp only [aA] at hu
   cases hu with
   | A rows _ a cap k b o X aS bG=>
     simp only [c1,N] at h;subst h;rw [bG rfl];exact ⟨_,zL ty aH _ ai,.int _ _⟩
 . rename_i aH;have aH:=b3 aB aH;simp only [aA] at hu
   cases hu with
   | ref _ _ _ _ _ _ b C L cap aS bG dS fO=>
     simp only [N] at h;subst h;rw [fO rfl];exact ⟨_,zL ty aH _ ai,.int _ _⟩
 grind
end
section
variable {E:Env} {P:Program} (aB:fJ E P) {loc:Nat->Bool} {ae:aF} {w:World} {β:Nat->Option Nat} {tm:List aa} {H:af}
include aB in
theorem DE (em:Bool): ∀(d m t:Nat) (v:aa) (x:Value),d<=m->aC ae v x->hr E d t v=true->(Instr.checkKey em m t x).run P w= .ok () w:=by
 intro d
 induction d with
 |zero=>intro m t v x _ _ h;simp [hr] at h
 | succ d ff=>
   intro m t v x hm aP h;obtain ⟨m,rfl⟩: ∃k,m=k+1:=⟨m-1,ab⟩;unfold aC at aP;simp only [hr] at h;split at h
   . rename_i aH;have aH:=b3 aB aH;cases aP;simp [Instr.checkKey,ca aH]
   . rename_i aH;have aH:=b3 aB aH;cases aP;simp [Instr.checkKey,ca aH]
   . rename_i aH;have aH:=b3 aB aH;cases aP;simp [Instr.checkKey,ca aH]
   . rename_i ee cs aH;have aH:=b3 aB aH
     cases aP with
     | agg _ xs aS bG=>
       simp only [Instr.checkKey,Sem.run_bind,ca aH,Result.andThen_ok];rw [<-Array.forIn_toList];generalize ee.toList=l at h
       have key: ∀l:List Field,(l.all λf=>if f.name≠ "_" then (match n7 E f.type cs f.offset with
         |some u=>hr E d f.type u
         |none=>false) else true)=true->
         (forIn l PUnit.unit λf _=>(if f.name≠ "_" then do
          Instr.checkKey em m f.type (<-part f.type xs f.offset)
          pure (ForInStep.yield PUnit.unit) else pure (ForInStep.yield PUnit.unit):Sem (ForInStep PUnit))).run P w= .ok PUnit.unit w:=by
        intro l
        induction l with
        |nil=>simp
        | cons f l ae2=>
          intro cQ;simp only [aO,br] at cQ;obtain ⟨tg,Cl⟩:=cQ;simp only [List.forIn_cons,Sem.run_bind,Sem.run_ite];split at tg
          . rename_i p3;rw [if_pos p3];split at tg
            . rename_i u hu;obtain ⟨y,gF,e5⟩:=wz aB (w:=w) aS bG hu;simp only [gF,Result.andThen_ok,ff m f.type u y ab e5 tg,Sem.run_pure]
              grind
            grind
          simp_all
       have dp:=key l h
       simp_all
   grind
theorem LU {t d:Nat} {b v:aa} {x y:Value} {a:TypeDesc} {r e:Bool} (h:P.underlying t=some a) (i:aC ae b x) (j:aC ae v y) (f:eF E (d+1) t b v=some r) (aB:fJ E P)
  (g:Instr.sameNow a x y=some e):e=r:=by
 have c:=xN aB (d+1) (d+1) t b v x y r ab i j f (w:=default);rw [Op.equalIn] at c;simp only [Sem.run_bind,ca h,Result.andThen_ok] at c;cases a<;>cases x<;>cases y<;>simp only [Instr.sameNow] at g<;>first
  |simp_all
  |simp_all
  |simp_all
def oo (ae:aF) (ks vs:List aa) (d:List MapEntry):Prop:=
 ks.length=d.length/\vs.length=d.length/\(∀(b:Nat) (c:aa) (a:MapEntry),ks[b]? =some c->d[b]? =some a->aC ae c a.key)/\(∀(b:Nat) (c:aa) (a:MapEntry),vs[b]? =some c->d[b]? =some a->aC ae c a.val)
theorem oo.tail {k v:aa} {ks vs:List aa} {e:MapEntry} {c:List MapEntry} (a:oo ae (k::ks) (v::vs) (e::c)):aC ae k e.key/\aC ae v e.val/\oo ae ks vs c:=
 ⟨a.2.2.1 0 _ _ rfl rfl,a.2.2.2 0 _ _ rfl rfl,by simpa using a.1,by simpa using a.2.1,λb v e f d=>a.2.2.1 (b+1) v e ah ah,λb v e f d=>a.2.2.2 (b+1) v e ah ah⟩
def uM (ae:aF):Option (Nat×aa)->Option (Nat×Value)->Prop
 |none,none=>True
 |some (a,c),some (b,d)=>a=b/\aC ae c d
 |_,_=>False
include aB in
theorem RN {t:Nat} {k:aa} {x:Value} (dp:aC ae k x): ∀(ks vs:List aa) (es:List MapEntry) (i:Nat) (r:Option (Nat×aa)),oo ae ks vs es->ji E 20 t k ks vs i=some r->
  ∃fX,(Instr.findAsking t x es i).run P w= .ok fX w/\uM ae r fX:=by
 intro ks
 induction ks with
 | nil=>
   intro vs es i r he h
   cases vs with
   | nil=>cases es with
     |nil=>simp [ji] at h;subst h;exact ⟨none,rfl,trivial⟩
     |cons e es=>have:=he.1;grind
   |cons v vs=>simp [ji] at h
 | cons a ks ff=>
   intro vs es i r he h
   cases vs with
   |nil=>simp [ji] at h
   | cons v vs=>cases es with
     |nil=>have:=he.1;grind
     | cons e es=>
       obtain ⟨aS,bG,dS⟩:=he.tail;simp only [ji] at h;split at h
       . rename_i dg;have:=xN aB 20 Op.maxDepth t k a x e.key true (by simp [Op.maxDepth]) dp aS dg (w:=w);simp only [N] at h;subst h;exact ⟨some (i,e.val),by simp [Instr.findAsking,Op.equal,this],rfl,bG⟩
       . rename_i dg;have:=xN aB 20 Op.maxDepth t k a x e.key false (by simp [Op.maxDepth]) dp aS dg (w:=w);obtain ⟨fX,oR,mH⟩:=ff vs es (i+1) r dS h;exact ⟨fX,by simp [Instr.findAsking,Op.equal,this,oR],mH⟩
       grind
theorem RO {t:Nat} {k:aa} {x:Value} {m:TypeDesc} (aB:fJ E P) (j:P.underlying t=some m) (l:aC ae k x):
  ∀(ks vs:List aa) (b:List MapEntry) (i:Nat) (r:Option (Nat×aa)) (q:Option (Nat×Value)),oo ae ks vs b->ji E 20 t k ks vs i=some r->Instr.findNow m x b i=some q->uM ae r q:=by
 intro ks
 induction ks with
 | nil=>
   intro vs b i r q e a c
   cases vs with
   | nil=>cases b with
     |nil=>simp [ji] at a;subst a;simp [Instr.findNow] at c;subst c;trivial
     |cons n b=>have:=e.1;grind
   |cons p vs=>simp [ji] at a
 | cons s ks v=>
   intro vs b i r q e a c
   cases vs with
   |nil=>simp [ji] at a
   | cons p vs=>cases b with
     |nil=>have:=e.1;grind
     | cons n b=>
       obtain ⟨h,o,u⟩:=e.tail;simp only [ji] at a;simp only [Instr.findNow] at c;split at a
       . rename_i f;simp only [N] at a;subst a;split at c
         . simp only [N] at c;subst c;exact ⟨rfl,o⟩
         . rename_i g;have:=LU (d:=19) j l h f aB g;grind
         grind
       . rename_i f;split at c
         . rename_i g;have:=LU (d:=19) j l h f aB g;grind
         all_goals grind
       grind
include aB in
theorem x7 {t:Nat} {k:aa} {x:Value} {fD:TypeDesc} (aH:P.underlying t=some fD) (dp:aC ae k x) {ks vs:List aa} {es:List MapEntry} {r:Option (Nat×aa)} (he:oo ae ks vs es) (h:ji E 20 t k ks vs 0=some r):
  ∃fX,(Instr.findKey t x es).run P w= .ok fX w/\uM ae r fX:=by
 simp only [Instr.findKey,Sem.run_bind,ca aH,Result.andThen_ok];split
 . rename_i q kx;exact ⟨q,rfl,RO aB aH dp ks vs es 0 r q he h kx⟩
 . exact RN aB dp ks vs es 0 r he h
theorem JF {d t:Nat} {v:aa} (a:hr E (d+1) t v=true): ∃b,aW E t=some b:=by
 simp only [hr] at a
 grind
theorem Wn (o:Q ae H w) {m:aa} {x:Value} {ks vs:List aa} (i:aA ae β tm m x) (d:mapOf H m=some (ks,vs)):
  (x= .map none/\ks= []/\vs= [])\/ ∃b h c,x= .map (some b)/\w.heap[b]? =some (.map h c)/\oo ae ks vs h.toList:=by
 unfold mapOf at d;split at d
 . simp only [aA] at i;cases i
   grind
 . simp only [aA] at i
   cases i with
   | ck _ _ b h l n u v p q=>
     simp only [N,bz] at d;obtain ⟨rfl,rfl⟩:=d;exact .inr ⟨b,h,l,rfl,o.gK _ _ n,ab,ab,λf g a e k=>(p f g a e (by simpa using k)).n4,λf g a e k=>(q f g a e (by simpa using k)).n4⟩
 . split at d
   . rename_i t y z r;simp only [N,bz] at d;obtain ⟨rfl,rfl⟩:=d;obtain ⟨b,h,l,j⟩:=o.obj _ _ r;simp only [aA] at i
     cases i with
     | map _ s n=>
       have:=j.at_;rw [n] at this;simp at this;subst this;exact .inr ⟨_,h,l,rfl,j.dH,by simpa using j.jt,by simpa using j.kK,λf g a e k=>j.keys f g a e ah,λf g a e k=>j.nd f g a e ah⟩
   grind
 grind
include aB in
theorem Wj (hw:Q ae H w) {t:Nat} {m k v:aa} {x y:Value} {ok:Bool} (hm:aA ae β tm m x) (dp:aA ae β tm k y) (h:iM E t m k ok H=some v):
  ∃z,(Instr.lookup t x y ok).run P w= .ok z w/\aC ae v z:=by
 unfold iM at h;split at h
 . rename_i amX el aH;have aH:=b3 aB aH;split at h
   . rename_i ks vs z SY cq;obtain ⟨info,eM,ho,iI,mJ⟩:=qV aB cq;unfold zf at h;split at h
     . rename_i ry;have SV:aD k=true:=by cases k<;>first|rfl|(simp only [hr] at ry;grind)
       have ys:=dp.iv SV;obtain ⟨fD,oP⟩:=JF (d:=19) ry;have oP:=b3 aB oP;have main: ∃es:List MapEntry,oo ae ks vs es/\ ∀fX,(Instr.findKey amX y es).run P w= .ok fX w->(Instr.lookup t x y ok).run P w= .ok (if ok then .tuple #[(fX.map (·.2)).getD eM,.bool fX.isSome] else (fX.map (·.2)).getD eM) w:=by
        rcases Wn hw hm SY with ⟨rfl,rfl,rfl⟩|⟨b,es,c,rfl,dg,he⟩
        . refine ⟨[],⟨rfl,rfl,ai,ai⟩,λfX bh=> ?_⟩;simp only [Instr.lookup,Sem.run_bind,ca aH,Result.andThen_ok,Sem.run_pure];rw [show (#[]:Array MapEntry).isEmpty=true from rfl];rw [DE aB true 20 10000 amX k y ab ys ry];simp only [Result.andThen_ok,bh]
          cases fX with
          |none=>simp [m3 ho iI]
          |some p=>simp
        . refine ⟨es.toList,he,λfX bh=> ?_⟩;simp only [Instr.lookup,Sem.run_bind,ca aH,Result.andThen_ok,run_getObj_map dg,Sem.run_pure];rw [DE aB es.isEmpty 20 10000 amX k y ab ys ry];simp only [Result.andThen_ok,bh]
          cases fX with
          |none=>simp [m3 ho iI]
          |some p=>simp
       obtain ⟨es,he,gY⟩:=main;split at h
       . rename_i i u cy;obtain ⟨fX,oR,mH⟩:=x7 aB (w:=w) oP ys he cy;rw [gY _ oR]
         cases fX with
         |none=>simp [uM] at mH
         | some p=>
           obtain ⟨j,ahH⟩:=p;obtain ⟨_,aP⟩:=mH
           cases ok with
           | true=>
             simp at h;subst h;exact ⟨_,rfl,.av _ _ rfl λn a b eO dg=>by
              match n with
              |0=>simp at eO dg;subst eO;subst dg;exact aP
              |1=>simp at eO dg;subst eO;subst dg;exact .bool _
              |n+2=>grind⟩
           |false=>grind
       . rename_i cy;obtain ⟨fX,oR,mH⟩:=x7 aB (w:=w) oP ys he cy;rw [gY _ oR]
         cases fX with
         |some p=>simp [uM] at mH
         | none=>
           cases ok with
           | true=>
             simp at h;subst h;exact ⟨_,rfl,.av _ _ rfl λn a b eO dg=>by
              match n with
              |0=>grind
              |1=>simp at eO dg;subst eO;subst dg;exact .bool _
              |n+2=>grind⟩
           |false=>simp at h;subst h;exact ⟨_,rfl,mJ _ _ _⟩
       grind
     grind
   grind
 grind
end
def HL {k:Nat}: ∀ {rows:Y},(∀r∈rows,r.length=k)->rows.flatten.length=rows.length*k:=by
 intro rows
 induction rows with
 |nil=>simp
 | cons r rows a=>
   grind
def RS {k:Nat}: ∀ {rows:Y},(∀r∈rows,r.length=k)-> ∀(i j:Nat) (a:List aa),rows[i]? =some a->j<k->rows.flatten[i*k+j]? =a[j]? :=by
 intro rows
 induction rows with
 |nil=>simp
 | cons r rows f=>
   intro c i j a d e;have b:=c r ai;simp only [iJ]
   cases i with
   | zero=>
     grind
   | succ i=>
     simp only [tA] at d;rw [vP (by rw [b,ql];omega),b]
     grind
section
variable {E:Env} {P:Program} (aB:fJ E P) {loc:Nat->Bool} {ae:aF} {w:World} {β:Nat->Option Nat} {tm:List aa} {H:af}
theorem Xt {b:aa} {y:Value} (a:aC ae b y) (c:J b=true):y.oneCell'=true:=by unfold aC at a;cases a<;>first|rfl|simp [J] at c
theorem dU.one {cs:List aa} {xs:Array Value} (a:dU ae cs xs) (d:cs.all J=true): ∀(i:Nat) (y:Value),xs[i]? =some y->y.oneCell'=true:=by
 intro i y b;have c:i<cs.length:=by rw [a.1];grind
 exact Xt (a.2 i cs[i] y ai b) ah
theorem JY {b o n:Nat} {cs:List aa} (h:n<=cs.length) (e: ∀(i:Nat) (c:aa),i<n->cs[i]? =some c-> ∃y,cellAt w b (o+i)=some y/\aC ae c y):
  ∃d,(loadCells ⟨b,o,none⟩ n).run P w= .ok d w/\dU ae (cs.take n) d:=by
 refine ⟨_,run_loadCells w ⟨b,o,none⟩ n (λa=>(cellAt w b (o+a)).getD default) (λa f=> ?_),ah,λi l m j k=> ?_⟩
 . obtain ⟨y,g,_⟩:=e a cs[a] f (by simp [show a<cs.length by omega]);rw [ke,sP,g];rfl
 grind
def NO (ae:aF) (w:World) (P:Program) (k:Nat) (cs:List aa) (n:Nat) (x:Value):Prop:=
 cs.length=n*k/\(Builtin.lenOf x).run P w= .ok n w/\((∃c d,x= .slice c n d)\/ ∃e,x= .string e)/\
 ∀a,a<=n-> ∃b,(Builtin.firstCells k a x).run P w= .ok b w/\dU ae (cs.take (a*k)) b
theorem rb (V:Q ae H w) {k:Nat} {v:aa} {x:Value} {cs:List aa} {n:Nat} (e:aA ae β tm v x) (d:e4 k H v=some (cs,n)):NO ae w P k cs n x:=by
 unfold e4 at d;split at d
 . simp only [N,bz] at d;obtain ⟨rfl,rfl⟩:=d;simp only [aA] at e;cases e;refine ⟨ai,rfl,ai,λf h=>⟨#[],rfl,ai,ai⟩⟩
 . split at d
   . rename_i aH;simp only [N,bz] at d;obtain ⟨rfl,rfl⟩:=d;simp only [aA] at e;rename_i X af;have u: ∀g∈X,g.length=k:=ah
     cases e with
     | A _ _ F ad a p o Z l q ag I J K L=>
       refine ⟨HL u,rfl,ai,λf h=> ?_⟩
       cases X with
       | nil=>
         have:f=0:=ah;subst this
         cases F with
         |none=>grind
         |some F=>exact ⟨#[],by simp [Builtin.firstCells,loadCells,loadCellsFrom],ai,ai⟩
       | cons g j=>
         have t:a=k:=by rw [<-J 0 g rfl];grind
         subst t;have aj:=I ai;subst aj;have aJ:=HL u;have an:f*a<=(g::j).length*a:=fU _ h;obtain ⟨D,z,B⟩:=JY (P:=P) (ae:=ae) (w:=w) (b:=p) (o:=o) (n:=f*a) (cs:=(g::j).flatten) ab (λc av r y=>by
          have R:0<a:=by grind
          have M:c/a*a+c%a=c:=by rw [rK];exact yU c a
          have aq:c/a<(g::j).length:=by rw [yV R];omega
          have S:=tF c R;have T:(g::j)[c/a]? =some ((g::j)[c/a]):=ai;have O:=RS u (c/a) (c%a) _ T S;rw [M,y] at O;refine ⟨Z (c/a) (c%a),?_,(L _ _ _ _ T O.symm).n4⟩;have:=K (c/a) (c%a) aq S;rw [M] at this;exact V.aI _ _ _ this)
         exact ⟨D,z,B⟩
   grind
 . rename_i id aF au a aN af;split at d
   . rename_i aE aD aO aC ao;split at d
     . rename_i m;obtain ⟨al,rfl⟩:=m;split at d
       . rename_i G U;simp only [N,bz] at d;obtain ⟨rfl,rfl⟩:=d;simp only [aA] at e
         cases e with
         | ref _ _ _ _ _ _ p Y ay ad l q ag I J K aL=>
           obtain ⟨aw,ax,ak⟩:=V.obj _ _ ao;obtain ⟨L,aG⟩:=ak.cont _ _ _ _ al l;have ar:=wQ U;refine ⟨ar,rfl,ai,λf h=> ?_⟩;have an:=fU k h;obtain ⟨D,z,B⟩:=JY (P:=P) (ae:=ae) (w:=w) (b:=p) (o:=au-Y.s) (n:=f*k) (cs:=G) ab (λc av r y=>by
            rw [sh U] at y
            grind)
           exact ⟨D,z,B⟩
       grind
     grind
   grind
 . split at d
   . rename_i t;subst t;simp only [N,bz] at d;obtain ⟨rfl,rfl⟩:=d;simp only [aA] at e
     cases e with
     | str C _ _ l q=>
       subst l;subst q;refine ⟨?_,rfl,ai,λf h=>⟨_,rfl,?_⟩⟩
       . unfold et;rw [<-size_data,di,Ff];simp
       . unfold et;rw [<-size_data,Ff];have aM:C.data.toList.length=C.data.size:=ai;have aK:f<=C.data.size:=h;refine ⟨?_,λc v x e W=> ?_⟩
         . simp
         . rw [CX] at e;split at e
           . rename_i r;rw [tG] at r;simp only [tB,hO,tH] at e;obtain ⟨G,m,rfl⟩:=e;simp only [ByteArray.data_extract,yF,Array.getElem?_extract,tH] at W;obtain ⟨az,i,rfl⟩:=W;rw [CN] at m;split at i
             . simp only [gH] at i;rw [m] at i;simp only [N] at i;subst i;exact .int _ _
             omega
           grind
   grind
 grind
theorem RT: ∀(cs:List aa) (xs:List Value) (q:Nat),cs.length=xs.length->(∀(i:Nat) (v:aa) (x:Value),cs[i]? =some v->xs[i]? =some x->aC ae v x)->
  cs.foldr (λc r=>match c,r with
   | .int .u8 (.ofNat b),some q=>if b<256 then bC (b+256*q) λq=>some q else none
   |_,_=>none) (some 0)=some q->
  ∃d:List Int,xs=d.map (Value.int .u8)/\cV (d.map λn=>UInt8.ofNat n.toNat)=q:=by
 intro cs
 induction cs with
 | nil=>intro xs q h _ a;cases xs with
   |nil=>simp at a;subst a;exact ⟨[],rfl,rfl⟩
   |cons x xs=>grind
 | cons c cs k=>
   intro xs q h f a
   cases xs with
   |nil=>grind
   | cons x xs=>
     simp only [yM] at a;split at a
     . rename_i b l g;split at a
       . rename_i m;simp only [c1,N] at a;subst a;obtain ⟨d,rfl,j⟩:=k xs l ah (λi v x o p=>f (i+1) v x ah ah) g;have e:=f 0 _ _ rfl rfl;unfold aC at e;cases e;refine ⟨(b:Int)::d,rfl,?_⟩;simp only [fS,cV,j]
         simp_all
       grind
     grind
theorem foldl_push: ∀(a:List Int) (s:ByteArray),(a.foldl (λr n=>r.push (UInt8.ofNat n.toNat)) s).data.toList=s.data.toList++a.map λn=>UInt8.ofNat n.toNat:=by
 intro a
 induction a with
 |nil=>simp
 | cons n a b=>
   simp_all
theorem QT {k:Nat} {v:aa} {t:ByteArray} {r:List aa×Nat} (c:aA ae β tm v (.string t)) (d:e4 k H v=some r): ∃a b,v= .str a b:=by
 cases v with
 |str a b=>simp
 |V=>simp only [aA] at c;cases c
 |A=>simp only [aA] at c;cases c
 |ref=>simp only [aA] at c;cases c
 |_=>simp [e4] at d
include aB in
theorem Qs (hw:Q ae H w) {s d:Nat} {u v:aa} {x:Value} (hu:aA ae β tm u x) (h:jg E s d u H=some v):
  ∃z,(convert s d x).run P w= .ok z w/\aC ae v z:=by
 unfold jg at h;split at h
 . rename_i ds k qf n mD ks;have mD:=b3 aB mD;have ks:=b3 aB ks;simp only [aA] at hu;cases hu;simp only [pQ,N] at h;subst h;refine ⟨_,?_,.int _ _⟩;simp [convert,ca mD,ca ks,Conv.intToInt]
 . rename_i ds a b mD ks;have mD:=b3 aB mD;have ks:=b3 aB ks;simp only [aA] at hu
   cases hu with
   | str t _ _ aS bG=>
     simp only [N] at h;subst h;refine ⟨.string t,?_,.str _ _ _ aS bG⟩;cases ds<;>simp [convert,ca mD,ca ks]
 . rename_i e mD ks aeP;have mD:=b3 aB mD;have ks:=b3 aB ks;split at h
   . rename_i he;have he:=b3 aB he;split at h
     . rename_i cs n yq;split at h
       . rename_i q kx;simp only [N] at h;subst h;obtain ⟨cQ,hlen,SU,mC⟩:=rb (P:=P) hw hu yq;have bj: ∃a cap,x= .slice a n cap:=by
          rcases SU with aS|⟨t,rfl⟩
          . exact aS
          . obtain ⟨a,b,e⟩:=QT hu yq
            grind
         obtain ⟨a,cap,rfl⟩:=bj;obtain ⟨bI,gF,e5⟩:=mC n (aT _);rw [fT (by rw [cQ];exact aT _)] at e5;obtain ⟨rS,aeR,IB⟩:=RT (ae:=ae) cs bI.toList q (by simpa using e5.1) (λi v x aP bj=>e5.2 i v x aP ah) kx;have Ti:bI=(rS.map (Value.int .u8)).toArray:=ah;rw [run_convert_bytes_string w s d e a n cap mD he ks]
         cases a with
         | none=>
           simp only [Builtin.firstCells,Sem.run_pure,Result.ok.injEq,and_true] at gF;subst gF;have S2:rS= []:=by simp_all
           subst S2;simp only [rG,cV] at IB;subst IB;have Iz:n=0:=by have:=e5.1;grind
           subst Iz;exact ⟨.string .empty,rfl,.str _ _ _ rfl rfl⟩
         | some a=>
           simp only [Builtin.firstCells,tG] at gF;rw [Ti] at gF;refine ⟨_,run_bytesToString w a n cap rS gF,.str _ _ _ ?_ ?_⟩
           . rw [<-size_data,foldl_push];have:=e5.1
             simp_all
           . unfold et;rw [foldl_push];simp_all
       grind
     grind
   grind
 grind
theorem LQ (aB:fJ E P) {t:Nat} {z:aa} (b:bN E t=some z): ∃a,(zeroValue t).run P w= .ok a w/\ ∀F M μ,bt F M μ z a:=by obtain ⟨g,f,c,e,d⟩:=qV aB b;exact ⟨f,m3 c e,d⟩
theorem E8 {e:aa} {x:Value} {b:Bool} (f:aC ae e x):aC ae (.av [e,.bool b]) (.tuple #[x,.bool b]):=
 .av _ _ rfl λd g h a c=>by
  match d with
  |0=>simp at a c;subst a;subst c;exact f
  |1=>simp at a c;subst a;subst c;exact .bool _
  |d+2=>grind
include aB in
theorem Ow {u v:aa} {x:Value} {ss t:Nat} {ok:Bool} (hu:aA ae β tm u x) (h:sD E u ss t ok=some v):
  ∃z,(Instr.typeAssert x ss t ok).run P w= .ok z w/\aC ae v z:=by
 unfold sD at h;split at h
 . grind
 . rename_i d S1 aH;have yp:=b3 aB aH;simp only [aA] at hu;cases hu;split at h
   . rename_i mG;subst mG;split at h
     . rename_i z cq;simp only [dn,N] at h;subst h;obtain ⟨eM,nQ,lh⟩:=LQ (w:=w) aB cq;refine ⟨.tuple #[eM,.bool false],?_,E8 (lh _ _ _)⟩;simp only [Instr.typeAssert,Sem.run_bind,ca yp,Result.andThen_ok]
       simp_all
     grind
   grind
 . rename_i d Mt gr S1 aH;have yp:=b3 aB aH;simp only [aA] at hu
   cases hu with
   | iface _ _ y dh=>
     split at h
     . rename_i e;subst e;have gY:(Instr.typeAssert (.iface Mt y) ss Mt ok).run P w= .ok (if ok then .tuple #[y,.bool true] else y) w:=by simp only [Instr.typeAssert,Sem.run_bind,ca yp,Result.andThen_ok];simp
       rw [gY]
       cases ok with
       |true=>simp at h;subst h;exact ⟨_,rfl,E8 dh⟩
       |false=>simp at h;subst h;exact ⟨_,rfl,dh⟩
     . rename_i p3;split at h
       . rename_i mG;subst mG;split at h
         . rename_i z cq;simp only [dn,N] at h;subst h;obtain ⟨eM,nQ,lh⟩:=LQ (w:=w) aB cq;refine ⟨.tuple #[eM,.bool false],?_,E8 (lh _ _ _)⟩;simp only [Instr.typeAssert,Sem.run_bind,ca yp,Result.andThen_ok]
           simp_all
         grind
       grind
 grind
end
def iC (w:World) (o:Go.Obj) (b:Nat):(w.alloc o).heap[b]? =if b=w.heap.size then some o else w.heap[b]? :=by
 simp only [World.alloc,vL]
def AS {w:World} {o:Go.Obj} {b:Nat} {x:Go.Obj} (a:w.heap[b]? =some x):(w.alloc o).heap[b]? =some x:=by
 rw [iC]
 grind
def GF {w:World} {b o:Nat} {x:Value} (a:cellAt w b o=some x):b<w.heap.size:=by
 unfold cellAt at a
 grind
def xD {w:World} {c:Go.Obj} {b o:Nat} {x:Value} (a:cellAt w b o=some x):cellAt (w.alloc c) b o=some x:=by
 have d:=GF a;unfold cellAt at a|-;rw [iC,if_neg ab];exact a
def Bp (w:World) (c:Array Value) (e:TypeId) (a:Nat×Nat) (i:Nat):cellAt (w.alloc (.cells c e a)) w.heap.size i=c[i]? :=by
 unfold cellAt;rw [iC,if_pos rfl]
def aF.FG {ae:aF} {H:af} {w:World} (c:Q ae H w) {b o:Nat} {v:Value} (a:ae.F b o=some v):b<w.heap.size:=GF (c.aI _ _ _ a)
def aF.NQ {ae:aF} {H:af} {w:World} (c:Q ae H w) {b:Nat} {v:Go.Obj} (a:ae.M b=some v):b<w.heap.size:=(qg.1 (c.gK _ _ a)).1
def q1.carry {ae c:aF} {id:Nat} {w w':World} {o:Obj} (d:q1 ae id w o) (hF: ∀b o v,ae.F b o=some v->c.F b o=some v) (I: ∀b v,ae.M b=some v->c.M b=some v)
    (R: ∀i g y,ae.μ i g=some y->c.μ i g=some y) (e: ∀g,c.μ id g=ae.μ id g)
    (m: ∀g b C L,ae.μ id g=some (b,C,L)->w'.heap[b]? =w.heap[b]?)
    (H: ∀g b C L,ae.μ id g=some (b,C,L)-> ∀o,ae.F b o=none->c.F b o=none) (t: ∀g b C L,ae.μ id g=some (b,C,L)->ae.M b=none->c.M b=none):
    q1 c id w' o:=by
 have s: ∀v f,aC ae v f->aC c v f:=λv f d=>bt.mono d hF I R
 cases o with
 | cells g V aa U=>
   obtain ⟨b,C,a⟩:=d;refine ⟨b,C,by rw [e];exact a.at_,a.room,a.sle,?_,λi v j k=>let ⟨f,W⟩:=a.nK i v j k;ah,?_,?_,λn N=>by rw [e];exact a.last n N,a.km,a.pO.of_eq (m _ _ _ _ a.at_)⟩
   . obtain ⟨B,h,S,q,j,k⟩:=a.free;exact ⟨B,h,S,q,by rw [m _ _ _ _ a.at_];exact j,k⟩
   . intro n A x z J u;rw [e] at u;obtain ⟨j,k⟩:=a.cont n A x z J u;refine ⟨j,λi v r q l=> ?_⟩;obtain ⟨f,P,Q⟩:=k i v r q l;refine ⟨f,?_,s _ _ Q⟩;unfold cellAt at P|-
     grind
   . exact λo O G r=>H _ _ _ _ a.at_ _ (a.wr o O G r)
 | map aI X ab=>
   obtain ⟨b,E,D,a⟩:=d;exact ⟨b,E,D,by rw [e];exact a.at_,by rw [m _ _ _ _ a.at_];exact a.dH,a.jt,a.kK,λi v h l p=>s _ _ (a.keys i v h l p),λi v h l p=>s _ _ (a.nd i v h l p),λK=>t _ _ _ _ a.at_ (a.free K)⟩
 | iter Y num Z=>
   obtain ⟨b,T,a⟩:=d;exact ⟨b,T,by rw [e];exact a.at_,by rw [m _ _ _ _ a.at_];exact a.dH,a.size,a.num,t _ _ _ _ a.at_ a.free⟩
 |gone=>trivial
 |uj=>exact λg=>by rw [e];exact d g
def Q.alloc {ae:aF} {H:af} {w:World} (a:Q ae H w) (i:Go.Obj):Q ae H (w.alloc i):=by
 refine ⟨λc d j b=>xD (a.aI _ _ _ b),λc d b=>AS (a.gK _ _ b),a.hR,a.len,λid d b=> ?_,a.hI,λid g c e f b=> ?_,a.sep⟩
 . refine (a.obj _ _ b).carry ai ai ai ai (λg c e f h=> ?_) ai ai;rw [iC,if_neg];have:=a.e3 _ _ _ _ _ h;omega
 . have:=a.e3 _ _ _ _ _ b;simp;omega
def Fr.alloc {ae:aF} {w:World} (a:Go.Obj):Fr ae.own ae ae w (w.alloc a):=
 ⟨ai,λb c _=>by rw [iC,if_neg ab],ai,ah,ai,ah,ah,ai,rfl,rfl,rfl⟩
def Q.rr {ae:aF} {H:af} {w w':World} (a:Q ae H w) (e:w'.heap=w.heap):Q ae H w':=by
 have f: ∀c d,cellAt w' c d=cellAt w c d:=λc d=>by unfold cellAt;rw [e]
 refine ⟨λc d j b=>by rw [f];exact a.aI _ _ _ b,λc d b=>by rw [e];exact a.gK _ _ b,a.hR,a.len,λid d b=> ?_,a.hI,λid i c g h b=>by rw [e];exact a.e3 _ _ _ _ _ b,a.sep⟩;exact (a.obj _ _ b).carry ai ai ai ai ah ai ai
def Fr.rr {ae:aF} {w w':World} (e:w'.heap=w.heap) (a:w'.os=w.os) (b:w'.output=w.output) (c:w'.tape=w.tape):Fr ae.own ae ae w w':=
 ⟨ah,ah,ai,ah,ai,ah,ah,ai,a,b,c⟩
def aF.ch (ae:aF) (id g:Nat) (r:Nat×jB×Nat):aF:= {ae with μ:=λb a=>if b=id/\a=g then some r else ae.μ b a}
def Kj {ae:aF} {H:af} {w:World} (c:Q ae H w) (o:Obj) (j:Go.Obj) (C:jB) (L:Nat) (g0:Nat)
    (K:q1 (ae.ch H.n g0 (w.heap.size,C,L)) H.n (w.alloc j) o):
    Q (ae.ch H.n g0 (w.heap.size,C,L)) (H.push o) (w.alloc j)/\Fr ae.own ae (ae.ch H.n g0 (w.heap.size,C,L)) w (w.alloc j)/\(ae.ch H.n g0 (w.heap.size,C,L)).μ H.n g0=some (w.heap.size,C,L):=by
 have J: ∀b,ae.μ H.n b=none:=λb=>by
  cases a:ae.μ H.n b with
  |none=>rfl
  |some d=>have:=c.hI _ _ _ a;omega
 have p: ∀e b d,ae.μ e b=some d->(ae.ch H.n g0 (w.heap.size,C,L)).μ e b=some d:=by
  intro e b d a;simp only [aF.ch]
  grind
 have x:(ae.ch H.n g0 (w.heap.size,C,L)).μ H.n g0=some (w.heap.size,C,L):=by simp [aF.ch]
 have g: ∀e b d,(ae.ch H.n g0 (w.heap.size,C,L)).μ e b=some d->(e=H.n/\b=g0/\d=(w.heap.size,C,L))\/ae.μ e b=some d:=by
  intro e b d a;simp only [aF.ch] at a
  grind
 refine ⟨⟨λf o O a=>xD (c.aI _ _ _ a),λf o a=>AS (c.gK _ _ a),c.hR,af.KY _ _ c.len,λid N a=> ?_,λid b d a=> ?_,λid b f r s a=> ?_,?_⟩,?_,x⟩
 . rw [af.Ia _ c.len] at a;split at a
   . grind
   . rename_i I;refine (c.obj _ _ a).carry (λ_ _ _ a=>a) (λ_ _ a=>a) p (λb=> ?_) (λb f C L v=> ?_) (λ_ _ _ _ _ _ a=>a) (λ_ _ _ _ _ a=>a)
     . simp only [aF.ch];grind
     . rw [iC,if_neg];have:=c.e3 _ _ _ _ _ v;omega
 . simp only [af.push];rcases g _ _ _ a with ⟨rfl,_,_⟩|h
   . omega
   . have:=c.hI _ _ _ h;omega
 . rcases g _ _ _ a with ⟨_,_,k⟩|h
   . simp at k;simp;omega
   . have:=c.e3 _ _ _ _ _ h;simp;omega
 . intro id b f z B M F A D u m;rcases g _ _ _ u with ⟨E,_,y⟩|l
   . rcases g _ _ _ m with ⟨t,_,q⟩|i
     . grind
     . simp at y;have:=c.e3 _ _ _ _ _ i;omega
   . rcases g _ _ _ m with ⟨t,_,q⟩|i
     . simp at q;have:=c.e3 _ _ _ _ _ l;omega
     . exact c.sep _ _ _ _ _ _ _ _ _ l i
 . refine ⟨ai,λf G _=>by rw [iC,if_neg ab],λ_ _ _ a=>a,λ_ _ _ a=> .inl a,λ_ _ a=>a,λ_ _ a=> .inl a,?_,p,rfl,rfl,rfl⟩;rintro f ⟨e,b,r,s,a⟩;rcases g _ _ _ a with ⟨_,_,k⟩|h
   . grind
   . exact .inl ⟨_,_,_,_,h⟩
def Ki {ae:aF} {H:af} {w:World} (c:Q ae H w) (o:Obj) (a:Go.Obj) (C:jB) (L:Nat)
    (b:q1 (ae.ch H.n 0 (w.heap.size,C,L)) H.n (w.alloc a) o):
    Q (ae.ch H.n 0 (w.heap.size,C,L)) (H.push o) (w.alloc a)/\Fr ae.own ae (ae.ch H.n 0 (w.heap.size,C,L)) w (w.alloc a)/\(ae.ch H.n 0 (w.heap.size,C,L)).μ H.n 0=some (w.heap.size,C,L):=
 Kj c o a C L 0 b
def aF.Eb {ae:aF} {H:af} {w:World} (b:Q ae H w) (o:Nat):ae.F w.heap.size o=none:=by
 cases a:ae.F w.heap.size o with
 |none=>rfl
 |some c=>have:=aF.FG b a;omega
def aF.Ea {ae:aF} {H:af} {w:World} (b:Q ae H w):ae.M w.heap.size=none:=by
 cases a:ae.M w.heap.size with
 |none=>rfl
 |some c=>have:=aF.NQ b a;omega
def D7 {ae:aF} {H:af} {w:World} (d:Q ae H w) (cs:List aa) (c:Array Value) (e:TypeId) (m:cs.length<=c.size)
    (l: ∀(i:Nat) (v:aa) (x:Value),cs[i]? =some v->c[i]? =some x->aC ae v x) (g0:Nat) (hty: ∀t,ev g0=t+1->e=t):
    let f:=ae.ch H.n g0 (w.heap.size,⟨c.size,0⟩,cs.length)
    Q f (H.push (.cells g0 g0 0 cs)) (w.alloc (.cells c e))/\Fr ae.own ae f w (w.alloc (.cells c e))/\f.μ H.n g0=some (w.heap.size,⟨c.size,0⟩,cs.length):=by
 have z: ∀b,ae.μ H.n b=none:=λb=>by
  cases a:ae.μ H.n b with
  |none=>rfl
  |some p=>have:=d.hI _ _ _ a;omega
 refine Kj d (.cells g0 g0 0 cs) (.cells c e) ⟨c.size,0⟩ cs.length g0 ⟨w.heap.size,⟨c.size,0⟩,by simp [aF.ch],m,ai,⟨c,e,0,0,by rw [iC,if_pos rfl],ai,ab⟩,ai,?_,λC _ _ _=>aF.Eb d _,?_,ai,λt A=>⟨c,(0,0),by rw [iC,if_pos rfl];simp_all⟩⟩
 . intro b k h j _ a;have:b=g0/\(k,h,j)=(w.heap.size,⟨c.size,0⟩,cs.length):=by
    simp only [aF.ch] at a
    grind
   obtain ⟨_,g⟩:=this;simp only [bz] at g;obtain ⟨rfl,rfl,rfl⟩:=g;refine ⟨ai,λi v _ u o=> ?_⟩;have y:i<c.size:=ab;refine ⟨c[i],by rw [Nat.sub_zero,Bp];simp,?_⟩;refine bt.mono (l i v c[i] o ai) (λ_ _ _ a=>a) (λ_ _ a=>a) λB q p r=> ?_;simp only [aF.ch]
   grind
 . intro b s;simp only [aF.ch]
   grind
def WM {ae:aF} {H:af} {w:World} (g:Q ae H w) (cs:List aa) (c:Array Value) (e:TypeId) (d:cs.length<=c.size)
    (b: ∀(i:Nat) (v:aa) (x:Value),cs[i]? =some v->c[i]? =some x->aC ae v x):
    let a:=ae.ch H.n 0 (w.heap.size,⟨c.size,0⟩,cs.length)
    Q a (H.push (.cells 0 0 0 cs)) (w.alloc (.cells c e))/\Fr ae.own ae a w (w.alloc (.cells c e))/\a.μ H.n 0=some (w.heap.size,⟨c.size,0⟩,cs.length):=
 D7 g cs c e d b 0 (λh f=>by simp [ev] at f)
def wM (b:Nat): ∀(vs:List Value) (o:Nat) (w:World) (c:Array Value) (e:TypeId) (a:Nat×Nat),w.heap[b]? =some (.cells c e a)->
    ∃d,(w.setCells b o vs).heap[b]? =some (.cells d e a)/\d.size=c.size/\ ∀i,d[i]? =if o<=i/\i<o+vs.length/\i<c.size then vs[i-o]? else c[i]? :=by
 intro vs
 induction vs with
 |nil=>intro o w c e a f;exact ⟨c,f,rfl,ah⟩
 | cons g vs k=>
   intro o w c e a f;have h:(w.setCell ⟨b,o,none⟩ g).heap[b]? =some (.cells (c.setIfInBounds o g) e a):=by simp [World.setCell,vK,f]
   obtain ⟨d,j,l,m⟩:=k (o+1) _ _ e a h;refine ⟨d,j,ah,λi=> ?_⟩
   grind
def um (b:Nat): ∀(vs:List Value) (o:Nat) (w:World) (a:Nat),a≠b->(w.setCells b o vs).heap[a]? =w.heap[a]? :=by
 intro vs
 induction vs with
 |nil=>intro o w a _;rfl
 | cons e vs d=>
   intro o w a c;simp only [World.setCells];rw [d _ _ _ c];simp only [World.setCell,vK]
   grind
def zO (b:Nat): ∀(vs:List Value) (o:Nat) (w:World),(w.setCells b o vs).heap.size=w.heap.size/\(w.setCells b o vs).os=w.os/\(w.setCells b o vs).output=w.output/\(w.setCells b o vs).tape=w.tape:=by
 intro vs
 induction vs with
 |nil=>intro o w;exact ⟨rfl,rfl,rfl,rfl⟩
 | cons g vs f=>
   intro o w;obtain ⟨a,c,d,e⟩:=f (o+1) (w.setCell ⟨b,o,none⟩ g);exact ⟨by rw [World.setCells,a];simp,c,d,e⟩
def GG {b a o i:Nat} {vs:List Value} {w:World} (c:a≠b):cellAt (w.setCells b o vs) a i=cellAt w a i:=by
 unfold cellAt;rw [um b vs o w a c]
section
variable {P:Program} {ae:aF} {H:af} {w:World}
theorem EO {b C o:Nat} (g:HR w b C) (xs:Array Value) (p:o+xs.size<=C) (e: ∀(i:Nat) (y:Value),xs[i]? =some y->y.oneCell'=true):
  (storeCells ⟨b,o,none⟩ xs.toList).run P w= .ok () (w.setCells b o xs.toList):=by
 obtain ⟨d,m,q,h,c,n,f⟩:=g;have:=run_storeCells_cells (P:=P) b o xs.toList 0 w (λa j=> ?_) (λa j=> ?_) (λr l=> ?_)
 . omega
 . have k:a<xs.size:=ab;have:o+a<d.size:=ab;simp [World.cell?,c,this]
 . have k:a<xs.size:=ab;have:=f (o+a) ab;simp only [World.frozen?,c]
   grind
 . obtain ⟨i,h,rfl⟩:=List.getElem_of_mem l;exact e i _ ai
theorem Ml (e:Q ae H w) {id g J ro b o xK g':Nat} {C:jB} {cs cs':List aa} {xs:Array Value} (az:H.get id=some (.cells g J ro cs)) (k:Ax ae id g J ro cs w b C)
  (a7:ro<=o+C.s) (a6:o+C.s+xs.size<=C.c) (f:aF) (hF:f.F=ae.F) (S:f.M=ae.M) (E: ∀i a y,ae.μ i a=some y->f.μ i a=some y) (B: ∀i,i≠id-> ∀a,f.μ i a=ae.μ i a)
  (ay: ∀a y,f.μ id a=some y->ae.μ id a=some y\/ ∃h,y=(b,C,h))
  (al:f.μ id g'=some (b,C,cs'.length)) (aB:cs'.length<=C.c) (aq:xK<=g') (hty:ev g'=ev g) (au: ∀a,g'<a->f.μ id a=none)
  (a1: ∀(i:Nat) (v:aa),i<C.s->cs'[i]? =some v-> ∃x,aC ae v x)
  (aZ: ∀a d l h,xK<=a->f.μ id a=some (d,l,h)->h<=cs'.length/\ ∀(i:Nat) (v:aa),l.s<=i->i<h->cs'[i]? =some v-> ∃x,cellAt (w.setCells b o xs.toList) d (i-l.s)=some x/\aC ae v x):
  Q f (H.set id (.cells g' xK ro cs')) (w.setCells b o xs.toList)/\Fr ae.own ae f w (w.setCells b o xs.toList):=by
 have ar:=af.gW az;obtain ⟨c,K,X,V,T,aX,an⟩:=k.free;obtain ⟨ad,U,aY,ao⟩:=wM b xs.toList o w c K (X,V) T;obtain ⟨aK,aL,aM,aN⟩:=zO b xs.toList o w;have ba: ∀v x,aC ae v x->aC f v x:=λv x a=>bt.mono a ah ah E;have aA: ∀d,f.own d->ae.own d:=by
  rintro d ⟨i,a,l,h,j⟩;by_cases z:i=id
  . subst z;rcases ay _ _ j with n|⟨Z,n⟩
    . exact ⟨_,_,_,_,n⟩
    . simp only [bz] at n;rw [n.1];exact ⟨_,_,_,_,k.at_⟩
  . rw [B i z] at j;exact ⟨_,_,_,_,j⟩
 have a8: ∀i a d l h,ae.μ i a=some (d,l,h)->i≠id->d≠b:=by rintro i a d l h j D rfl;exact D (e.sep _ _ _ _ _ _ _ _ _ j k.at_).1
 refine ⟨⟨?_,?_,by rw [S];exact e.hR,af.r_ _ _ _ e.len,?_,?_,?_,?_⟩,?_⟩
 ·
  intro d aH v m;rw [hF] at m;by_cases q:d=b
  . subst q;have p:=e.aI _ _ _ m;unfold cellAt at p|-;rw [T] at p;rw [U];simp only at p|-;rw [ao,if_neg]
    . exact p
    . rintro ⟨A,t,bb⟩;have:=k.wr (aH+C.s) ab ah ab
      grind
  . rw [GG q];exact e.aI _ _ _ m
 . intro d aJ m;rw [S] at m;have p:=e.gK _ _ m;by_cases q:d=b
   . subst q;obtain ⟨aU,aT,L⟩:=e.hR _ _ m
     grind
   . rw [um b _ _ _ _ q];exact p
 . intro aG aJ r;rw [af.k_ _ e.len _ _ ar] at r;split at r
   . rename_i ak;subst ak;simp only [N] at r;subst r;refine ⟨b,C,al,aB,k.sle,⟨ad,K,X,V,U,ab,an⟩,ah,?_,by rw [hF];exact k.wr,au,aq,λaO aD=>by
      obtain ⟨aS,aV,aW⟩:=k.pO aO (hty▸aD)
      grind⟩
     grind
   . rename_i D;refine (e.obj _ _ r).carry ah ah E (B aG D) (λa d l h j=> ?_) ah ah;exact um b _ _ _ _ ah
 . intro i a y j;rw [af.m7];by_cases z:i=id
   . omega
   . rw [B i z] at j;exact e.hI _ _ _ j
 . intro i a d l h j;rw [aK];obtain ⟨aE,n,aP,Z,av⟩:=aA d ⟨_,_,_,_,j⟩;exact e.e3 _ _ _ _ _ av
 . intro i a d u I aE n aQ aR aw W;have G: ∀i a u I,f.μ i a=some (d,u,I)->(i=id/\d=b/\u=C)\/ ∃Y,ae.μ i a=some (d,u,Y):=by grind
   rcases G _ _ _ _ aw with ⟨L,ag,aj⟩|⟨_,A⟩
   . rcases G _ _ _ _ W with ⟨O,_,R⟩|⟨_,t⟩
     . grind
     . rw [L,aj];rw [ag] at t;exact e.sep _ _ _ _ _ _ _ _ _ k.at_ t
   . rcases G _ _ _ _ W with ⟨O,ai,R⟩|⟨_,t⟩
     . rw [O,R];rw [ai] at A;exact e.sep _ _ _ _ _ _ _ _ _ A k.at_
     . exact e.sep _ _ _ _ _ _ _ _ _ A t
 . refine ⟨ab,λd _ ax=> ?_,ah,ah,ah,ah,ah,E,aL,aM,aN⟩;refine um b _ _ _ _ ?_;rintro rfl;exact ax ⟨_,_,_,_,k.at_⟩
theorem wO {loc:Nat->Bool} {β:Nat->Option Nat} {tm:List aa} (A:Q ae H w) {id h off B n:Nat} {vs:List aa} {x:Value} {xs:Array Value} {v:aa} {L:List aa} {H':af}
  (u:aC ae (.ptr id h off B) x) (k:dU ae vs xs) (O: ∀(i:Nat) (y:Value),xs[i]? =some y->y.oneCell'=true) (M:vs.length=n) (e:hD id h off B n vs tm H= .ok v L H'):
  v= .av []/\L=tm/\ ∃b o,x= .pointer (some ⟨b,o,none⟩)/\(storeCells ⟨b,o,none⟩ xs.toList).run P w= .ok () (w.setCells b o xs.toList)/\Q ae H' (w.setCells b o xs.toList)/\Fr ae.own ae ae w (w.setCells b o xs.toList):=by
 unfold aC at u
 cases u with
 | ptr _ _ _ _ b d ag m au aE=>
   unfold hD at e;split at e
   . rename_i ar aq aH D t;split at e
     . rename_i F;obtain ⟨rfl,aD,aB⟩:=F;split at e
       . rename_i ao S;simp only [bu,c8,bf.ok.injEq] at e;obtain ⟨rfl,rfl,rfl⟩:=e;obtain ⟨al,ad,a⟩:=A.obj _ _ t;have f:=a.at_;rw [m] at f;simp only [N,bz] at f;obtain ⟨rfl,rfl,rfl⟩:=f;obtain ⟨aI,X,Y⟩:=uD S;have T:xs.size=n:=by rw [<-k.1];exact M
         have K:off-d.s+d.s+xs.size<=d.c:=by rw [T];have:=a.room;omega
         refine ⟨rfl,rfl,b,off-d.s,rfl,EO a.free.lo xs ab O,?_⟩;refine Ml A t a ab K ae rfl rfl ai ai ah ah (by rw [X];exact a.room) ab rfl a.last (λi v q g=>a.nK i v q ah) ?_;intro l ak Z aj az j;have p:l=h:=by
          rcases qk h l with r|p
          . rw [a.last _ r] at j;grind
          . omega
         subst p;rw [m] at j;simp only [N,bz] at j;obtain ⟨rfl,rfl,rfl⟩:=j;refine ⟨ab,λi v R q g=> ?_⟩;obtain ⟨aG,W⟩:=a.cont l b d D.length a.km m;obtain ⟨C,f,V,J,E,aw,ax⟩:=a.free;obtain ⟨an,G,ay,I⟩:=wM b xs.toList (off-d.s) w C f (V,J) E;rw [Y] at g;unfold cellAt;rw [G];simp only;rw [I];simp only [vM];split at g
         . rename_i z;rw [if_pos ⟨ab,by rw [<-k.1];omega,by have:=a.room;omega⟩];have r:i-off<xs.size:=ab;refine ⟨xs[i-off],ah,k.2 _ _ _ g ai⟩
         . rename_i z;rw [if_neg (by rw [<-k.1];exact λaA=>z ⟨ab,ab⟩)];obtain ⟨y,U,aF⟩:=W i v R ab g;unfold cellAt at U
           grind
       grind
     grind
   grind
end
def m6 (tm:List aa) (i:Nat) (v:aa):(r tm i v).length=tm.length:=by
 induction tm generalizing i with
 |nil=>rfl
 |cons c b a=>cases i<;>simp [r,a]
def hW (tm:List aa) (i j:Nat) (v:aa):(r tm i v)[j]? =if i=j/\j<tm.length then some v else tm[j]? :=by
 induction tm generalizing i j with
 |nil=>simp [r]
 | cons c b a=>
   cases i with
   | zero=>cases j with
     |zero=>simp [r]
     |succ j=>simp [r]
   | succ i=>cases j with
     |zero=>simp [r]
     |succ j=>simp only [r,tA,a,cl];simp
section
variable {E:Env} {P:Program} {loc:Nat->Bool} {ae pz:aF} {w w':World} {β:Nat->Option Nat} {tm:List aa} {c4:Array Value} {H:af}
theorem sA {i:Nat} {v:aa} {x:Value} (a: ∀st cs,v≠ .W st cs):FM ae w β tm i v x=aA ae β tm v x:=by cases v<;>first|rfl|grind
theorem aA.mono {v:aa} {x:Value} (a:aA ae β tm v x) (c: ∀b y,aC ae b y->aC pz b y):aA pz β tm v x:=by cases v<;>first|exact c _ _ a|exact a
theorem pF.carry {b:Nat} {cs:List aa} (e:pF ae w b cs) (m: ∀a y,aC ae a y->aC pz a y) (l:w'.heap[b]? =w.heap[b]?):pF pz w' b cs:=by obtain ⟨c,d,i,h,j,f,k,g⟩:=e.dH;exact ⟨c,d,i,h,ah,f,ah,g⟩
theorem iY.aR (b:iY loc ae w β tm c4) (f:Fr ae.own ae pz w w'):iY loc pz w' β tm c4:=by
 have l: ∀i j,aC ae i j->aC pz i j:=λi j a=>aC.aR a f;refine ⟨b.len,λt d v r s=> ?_,λA c p=> ?_,b.uU,b.tQ⟩
 . have h:=b.val t d v r s
   cases d with
   | W st x=>
     obtain ⟨c,k,m,n⟩:=h;obtain ⟨e,g,_⟩:=b.q6 _ _ k;exact ⟨c,k,m,n.carry l (f.bS c e g)⟩
   | _=>
     rw [sA ai] at h|-;exact aA.mono h l
 . obtain ⟨e,g,y,z⟩:=b.q6 _ _ p;refine ⟨yX e f.size,λq=>(f.iP _ q).elim g ab,λu=> ?_,?_⟩
   . cases hF:pz.F c u with
     |none=>rfl
     | some d=>
       rcases f.s6 _ _ _ hF with a|a|a
       all_goals grind
   . cases o:pz.M c with
     |none=>rfl
     | some d=>
       rcases f.tV _ _ o with a|a|a
       all_goals grind
theorem iY.put (f:iY loc ae w β tm c4) {d:Nat} {v:aa} {x:Value} (F:aA ae β tm v x) (p:nX (loc d) v=true):iY loc ae w β (r tm d v) (c4.setIfInBounds d x):=by
 have o: ∀e a,v≠ .W e a:=by rintro e a rfl;exact F
 have I:loc d=false:=by
  cases A:loc d with
  |false=>rfl
  | true=>
    rw [A] at p;cases v<;>first|(exact absurd rfl (o _ _))|simp [nX] at p
 have J: ∀e a,tm[d]? ≠some (.W e a):=λe a b=>by have:=f.tQ _ _ _ b;grind
 have K: ∀ {g:aa} {i:Value},aA ae β tm g i->aA ae β (r tm d v) g i:=by
  intro g i c
  cases g with
  | cR k e L=>
    obtain ⟨⟨q,t,u⟩,G,a,y,z⟩:=c;have D:d≠k:=ah;have l:(r tm d v)[k]? =tm[k]? :=by rw [hW,if_neg (λb=>D b.1)]
    exact ⟨⟨q,t,λs b=>u s (by rw [<-l];exact b)⟩,G,a,by rw [l];exact y,z⟩
  |_=>exact c
 refine ⟨by rw [m6];simpa using f.len,λj g i c h=> ?_,f.q6,f.uU,λj e a b=> ?_⟩
 . rw [hW] at c;rw [CM] at h;split at c
   . rename_i n;obtain ⟨rfl,B⟩:=n;simp only [N] at c;subst c;rw [if_pos rfl,if_pos (by rw [<-f.len];exact B)] at h;simp only [N] at h;subst h;rw [sA o];grind
   . rename_i n;have C:d≠j:=by grind
     rw [if_neg C] at h;have m:=f.val j g i c h
     cases g with
     |W e a=>exact m
     | _=>
       rw [sA ai] at m|-
       grind
 . rw [hW] at b;split at b
   . grind
   . exact f.tQ _ _ _ b
theorem iY.YD (f:iY loc ae w β tm c4) {d st b:Nat} {cs:List aa} (T:loc d=true) (G:d<tm.length) (J: ∀h cs',tm[d]? =some (.W h cs')->h<st) (D:pF ae w b cs) (S:b<w.heap.size)
  (L: ¬ae.own b) (O: ∀o,ae.F b o=none) (Q:ae.M b=none) (R: ∀s,β s≠some b):
  iY loc ae w (λi=>if i=d then some b else β i) (r tm d (.W st cs)) (c4.setIfInBounds d (.pointer (some ⟨b,0,none⟩))):=by
 have U: ∀ {e:aa} {k:Value},aA ae β tm e k->aA ae (λi=>if i=d then some b else β i) (r tm d (.W st cs)) e k:=by
  intro e k c
  cases e with
  | cR s Y V=>
    obtain ⟨⟨j,l,q⟩,h,B,m,C⟩:=c;by_cases p:d=s
    . subst p;have K:=J _ _ m;have n:(r tm d (.W st cs))[d]? =some (.W st cs):=by rw [hW,if_pos ⟨rfl,G⟩]
      refine ⟨⟨j,l,λcs' a=> ?_⟩,st,cs,n,ab⟩
      grind
    . have n:(r tm d (.W st cs))[s]? =tm[s]? :=by rw [hW,if_neg (λa=>p a.1)]
      refine ⟨⟨j,l,λcs' a=> ?_⟩,h,B,by rw [n];exact m,C⟩
      grind
  |_=>exact c
 refine ⟨by rw [m6];simpa using f.len,λi e k c g=> ?_,λs A u=> ?_,λs X A y z=> ?_,λi h cs' a=> ?_⟩
 . rw [hW] at c;rw [CM] at g;split at c
   . rename_i v;obtain ⟨rfl,I⟩:=v;simp only [N] at c;subst c;rw [if_pos rfl,if_pos (by rw [<-f.len];exact I)] at g;simp only [N] at g;subst g;exact ⟨b,if_pos rfl,rfl,D⟩
   . rename_i v;have x:d≠i:=by omega
     rw [if_neg x] at g;have t:=f.val i e k c g
     cases e with
     | W h cs'=>
       obtain ⟨j,l,q,m⟩:=t;exact ⟨j,by show (if i=d then some b else β i)=some j;rw [if_neg (λa=>x a.symm)];exact l,q,m⟩
     | _=>
       rw [sA ai] at t|-
       grind
 . split at u
   . grind
   . exact f.q6 _ _ u
 . split at y
   . grind
   . split at z
     . grind
     . exact f.uU _ _ _ y z
 . rw [hW] at a;split at a
   . grind
   . exact f.tQ _ _ _ a
theorem Q.beside (c:Q ae H w) {b:Nat} (e: ∀a,a≠b->w'.heap[a]? =w.heap[a]?) (l:w'.heap.size=w.heap.size) (j: ¬ae.own b) (m: ∀o,ae.F b o=none) (n:ae.M b=none):Q ae H w':=by
 refine ⟨λa o p d=> ?_,λa o d=> ?_,c.hR,c.len,λid o d=> ?_,c.hI,λid i a g h d=>by rw [l];exact c.e3 _ _ _ _ _ d,c.sep⟩
 . have f:a≠b:=ah;have:=c.aI _ _ _ d;unfold cellAt at this|-
   grind
 . have f:a≠b:=ah;rw [e _ f];exact c.gK _ _ d
 . refine (c.obj _ _ d).carry ai ai ai ai (λi a g h k=> ?_) ai ai;refine e _ ?_;rintro rfl;exact j ⟨_,_,_,_,k⟩
theorem aav (c:iY loc ae w β tm c4) (aB:Q ae H w) {a st off:Nat} {vs:List aa} {x:Value} {xs:Array Value} {v:aa} {L:List aa} {H':af} (az:aA ae β tm (.cR a st off) x)
  (z:dU ae vs xs) (ay: ∀(i:Nat) (y:Value),xs[i]? =some y->y.oneCell'=true) (f:m9 a st off vs tm H= .ok v L H'):
  v = .av []/\H'=H/\ ∃b,x= .pointer (some ⟨b,off,none⟩)/\(storeCells ⟨b,off,none⟩ xs.toList).run P w= .ok () (w.setCells b off xs.toList)/\Q ae H (w.setCells b off xs.toList)/\iY loc ae (w.setCells b off xs.toList) β L c4/\
    β a=some b/\ ∀e,e≠b->(w.setCells b off xs.toList).heap[e]? =w.heap[e]? :=by
 unfold m9 at f;rw [k9] at f;split at f
 . rename_i aV X aM;split at f
   . rename_i n;subst n;split at f
     . rename_i h d;simp only [bu,bf.ok.injEq] at f;obtain ⟨rfl,rfl,rfl⟩:=f;have aw:a<tm.length:=by grind
       have u:tm[a]? =some (.W st X):=by grind
       obtain ⟨⟨b,al,an⟩,_⟩:=az;have p:=an _ u;have aN:a<c4.size:=by rw [<-c.len];omega
       obtain ⟨e,D,aC,ar⟩:=c.val a _ c4[a] u ai;rw [p] at D;simp only [N] at D;subst D;obtain ⟨q,n,J,o,R,ao,aL,aq⟩:=ar.dH;obtain ⟨aK,ad,ag,aj⟩:=c.q6 _ _ p;obtain ⟨aI,aW,aJ⟩:=uD d;have au:off+xs.size<=q.size:=by rw [<-z.1,ao];exact aI
       obtain ⟨V,aE,aO,aF⟩:=wM b xs.toList off w q n (J,o) R;obtain ⟨aG,aR,aS,aU⟩:=zO b xs.toList off w;have G: ∀e,e≠b->(w.setCells b off xs.toList).heap[e]? =w.heap[e]? :=λe F=>um b _ _ _ _ F;refine ⟨rfl,rfl,b,al,EO ⟨q,n,J,o,R,aT _,aq⟩ xs au ay,aB.beside G aG ad ag aj,?_,p,G⟩;have ax:pF ae (w.setCells b off xs.toList) b h:=by
        refine ⟨V,n,J,o,aE,ab,λi v x I A=> ?_,ah⟩;rw [aJ] at I;rw [aF] at A;simp only [vM] at A;have o:i<q.size:=by grind
        split at I
        . rename_i S;rw [if_pos ⟨S.1,by rw [<-z.1];omega,o⟩] at A;exact z.2 _ _ _ I ah
        . rename_i S;rw [if_neg (by rw [<-z.1];omega)] at A
          grind
       have aP: ∀ {g:aa} {y:Value},aA ae β tm g y->aA ae β (r tm a (.W st h)) g y:=by
        intro g y d
        cases g with
        | cR C U aQ=>
          obtain ⟨⟨m,k,B⟩,aH,Z,l,T⟩:=d;by_cases M:a=C
          . subst M;have s:(r tm a (.W st h))[a]? =some (.W st h):=by rw [hW,if_pos ⟨rfl,aw⟩]
            rw [u] at l;simp only [N,aa.W.injEq] at l;refine ⟨⟨m,k,λK O=> ?_⟩,st,h,s,ab⟩
            grind
          . have s:(r tm a (.W st h))[C]? =tm[C]? :=by rw [hW,if_neg (λf=>M f.1)]
            exact ⟨⟨m,k,λK O=>B K (by rw [<-s];exact O)⟩,aH,Z,by rw [s];exact l,T⟩
        |_=>exact d
       refine ⟨by rw [m6];exact c.len,λi g y d aD=> ?_,λC m ak=> ?_,c.uU,λi U Y j=> ?_⟩
       . rw [hW] at d;split at d
         . rename_i t;obtain ⟨rfl,_⟩:=t;simp only [N] at d;subst d;have:y=c4[a]:=by grind
           exact ⟨b,p,by rw [this];exact aC,ax⟩
         . rename_i t;have F:a≠i:=ab;have j:=c.val i g y d aD
           cases g with
           | W U Y=>
             obtain ⟨m,k,B,l⟩:=j;refine ⟨m,k,B,l.carry ai (G _ ?_)⟩;rintro rfl;exact F (c.uU _ _ _ p k)
           | _=>
             rw [sA ai] at j|-
             grind
       . obtain ⟨k,B,l,T⟩:=c.q6 _ _ ak
         grind
       . rw [hW] at j;split at j
         . rename_i t;rw [<-t.1];exact c.tQ _ _ _ u
         . exact c.tQ _ _ _ j
     grind
   grind
 grind
end
end Go.aj
