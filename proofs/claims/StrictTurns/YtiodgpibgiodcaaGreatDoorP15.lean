/- A part of the proof. -/
import Derived.Test.YtiodgpibgiodcaaGreatDoorP00
import Derived.Test.YtiodgpibgiodcaaGreatDoorP07
import Derived.Test.YtiodgpibgiodcaaGreatDoorP12
import Derived.Test.YtiodgpibgiodcaaGreatDoorP13
import Derived.Test.YtiodgpibgiodcaaGreatDoorP14
set_option linter.all false
set_option maxHeartbeats 4000000
namespace Go.aj
open Go Go.Proofs.Tryz
set_option maxRecDepth 100000
theorem Il {u:Sub} {a:Nat} (ag: ∀p∈u,p.1≠a):h2 u a=false:=by unfold h2;rw [DU ag];rfl
def KU {u:Sub} {a:Nat} (ag: ∀p∈u,p.1<a):gl u a=u.length:=by
 unfold gl;rw [CV.2 λp b=>by simpa using ag p b]
theorem KV {u:Sub} {a:Nat} (ag: ∀p∈u,a<p.1):gl u a=0:=by unfold gl;rw [yJ.2 λp b=>by have:=ag p b;simp;omega];rfl
def x_ {u:Sub} {a:Nat} (ag: ∀p∈u,p.1<a):oq a u:=⟨Il λp b=>Nat.ne_of_lt (ag p b),.inl (KU ag)⟩
def s7 {u:Sub} {a:Nat} (ag: ∀p∈u,a<p.1):oq a u:=⟨Il λp b=>Nat.ne_of_gt (ag p b),.inr (KV ag)⟩
def IP {u:Sub} {a:Nat} {t} (ag: ∀p∈u,p.1<a):gj u a t=u++ [(a,t)]:=by unfold gj;rw [KU ag];simp
def IQ {u:Sub} {a:Nat} {t} (ag: ∀p∈u,a<p.1):gj u a t=(a,t)::u:=by unfold gj;rw [KV ag];simp
def pr {a c d:Nat} (f:T c d) (g:c<4611686018427387904) (e:a<10):aN (c_ a c d):=by
 have h: ∀a<10,(cz a).2<256^(cz a).1/\(cz a).1<3:=by decide+kernel
 obtain ⟨b,j⟩:=h a e;exact .mk (ky:= []) (i:= []) ⟨rfl,b,f,ab,g,.inl ⟨rfl,rfl⟩,.inl ⟨rfl,rfl⟩,al,al⟩ (λ_ ag=>by cases ag) (λ_ ag=>by cases ag)
abbrev gS:=List (Nat×Nat×Nat)
def gv (L:gS):Y:=L.map λa=>c_ a.1 a.2.1 a.2.2
structure jG (L:gS):Prop where
  st:L.Pairwise (·.1< ·.1)
  lt: ∀q∈L,2<=q.1/\q.1<10
  wf: ∀q∈L,T q.2.1 q.2.2/\q.2.1<4611686018427387904
def jG.len {L} (ag:jG L):L.length<=10:=by
 have j: ∀(d:Nat) (c:gS),c.Pairwise (·.1< ·.1)->(∀a∈c,d<=a.1/\a.1<10)->c.length+d<=10\/c= []:=by
  intro d c
  induction c generalizing d with
  |nil=>intro _ _;exact .inr rfl
  | cons e m i=>
    intro b f;obtain ⟨g,h⟩:=hq.1 b;obtain ⟨k,l⟩:=f e (dF ..);refine .inl ?_;rcases i (e.1+1) h λa b=>⟨g a b,(f a (h8 _ b)).2⟩ with ag|rfl
    . simp only [cl];omega
    . simp only [cl,h5];omega
 rcases j 0 L ag.st λa b=>⟨fV _,(ag.lt a b).2⟩ with ag|rfl
 . omega
 . simp
def k2 (L:gS) (b:Y):Sub:=(L.zip b).map λa=>(a.1.1,a.2)
section
variable (kN jv rop j3:Y)
def pj (L:gS) (c:Y) (i:Nat) (u:Sub):Option Sub:=match L[i]?,c[i]? with
 |some a,some b=>fx kN jv rop j3 a.1 a.2.1 a.2.2 b u
 |_,_=>none
def ly (l m:Nat) (L:gS) (t:List aa) (u:Sub):Option Sub:=match t with
 | [.int _ b,_,.str c d,_,a,_]=>if (5:Int)=b/\(l=c/\m=d) then (if L.length=(f a).length then fZ (pj kN jv rop j3 L (f a)) L.length u else none) else none
 |_=>none
def AB (L:gS) (i:Nat) (u:Sub):Prop:= ∀b∈u,∀a,L[i]? =some a->b.1<a.1
end
def LL {kN jv rop j3:Y} {L:gS} (l:jG L) {b:Y} {u:Sub} (n: ∀p∈u,∀q∈L,p.1<q.1): ∀(i:Nat) {f},i<=L.length->fZ (pj kN jv rop j3 L b) i u=some f->f=u++(k2 L b).take i/\i<=b.length
 |0,f,_,ag=>by cases ag;exact ⟨ai,fV _⟩
 | i + 1, f, D, ag=>by
   cases g:fZ (pj kN jv rop j3 L b) i u with
   |none=>simp only [fZ,g,Option.bind_none] at ag;cases ag
   | some B =>
     simp only [fZ,g,nT] at ag;obtain ⟨k,C⟩:=LL l n i ab g;unfold pj at ag
     cases d:L[i]? with
     |none=>rw [d] at ag;cases ag
     | some q =>
       cases e:b[i]? with
       |none=>rw [d,e] at ag;cases ag
       | some o =>
         rw [d,e] at ag;simp only [fx] at ag;split at ag
         . simp only [N] at ag;have y:(k2 L b)[i]? =some (q.1,o):=by unfold k2;rw [hO,(ahO (z:=(q,o))).2 ⟨d,e⟩];rfl
           have A: ∀p∈B,p.1<q.1:=λp c=>by
            rw [k] at c;rcases cr.1 c with c|c
            . exact n p c q (aV d)
            . obtain ⟨j,a⟩:=jo c;have m:j<i:=by have:=(e6.1 a).1;rw [h6] at this;omega
              rw [List.getElem?_take_of_lt m] at a;unfold k2 at a;rw [hO] at a
              cases h:(L.zip b)[j]? with
              |none=>rw [h] at a;cases a
              | some E=>
                rw [h] at a;simp only [jV,N] at a;obtain ⟨x,-⟩:=ahO.1 h;rw [<-a];obtain ⟨r,t⟩:=e6.1 x;obtain ⟨v,w⟩:=e6.1 d;have:=qj.1 l.st j i r v m;rw [t,w] at this;exact this
           rw [IP A] at ag;refine ⟨?_,by have:=(e6.1 e).1;omega⟩;rw [<-ag,k,od y,fu]
         . cases ag
def zW {kN jv rop j3:Y} {l m:Nat} {L:gS} (c:jG L) {t:List aa} {u b:Sub} (h: ∀p∈u,∀q∈L,p.1<q.1) (ag:ly kN jv rop j3 l m L t u=some b):
    ∃k n w y z,t= [.int k 5,n,.str l m,w,y,z]/\L.length=(f y).length/\b=u++k2 L (f y):=by
 unfold ly at ag;split at ag
 . rename_i i k n j o w y z;split at ag
   . rename_i e;obtain ⟨rfl,rfl,rfl⟩:=e;split at ag
     . rename_i g;obtain ⟨a,-⟩:=LL c h _ (aT _) ag;have d:(k2 L (f y)).length<=L.length:=by unfold k2;rw [di,List.length_zip];omega
       rw [fT d] at a;exact ⟨_,_,_,_,_,rfl,g,a⟩
     . cases ag
   . cases ag
 . cases ag
section
variable {ax:aa} {s:List aa} {kN jv rop j3 aJ:Y} (ag:dO ax s kN jv rop j3 aJ)
include ag
theorem xM {a c d:Nat} (j:a<10) {t:List aa} (m:aN t) {D:Sub->Prop} (i: ∀u,c7 u->D u->oq a u):mb ax (c_ a c d) t D (fx kN jv rop j3 a c d t):=by obtain ⟨p,l⟩:=Vj ag m;exact ⟨p,λq r g h u v f e b o k n=>l q r g h u v f a c d e b o j (i u b k) n⟩
omit ag in
theorem se {a c d:Nat} (eO:a<10) {t:List aa} (lg:aN t) {u gr:Sub} (hu:c7 u) (cy:oq a u) (e:fx kN jv rop j3 a c d t u=some gr):c7 gr/\gr=gj u a t:=by
 unfold fx at e;split at e
 . cases e;exact ⟨hu.ins eO lg cy.1,rfl⟩
 . cases e
theorem Hb {l m:Nat} {L:gS} (n:jG L) {py:aa} (ah:F py (gv L)) {t:List aa} (aj:aN t):mb ax (cm l m py) t (λu=> ∀p∈u,∀q∈L,p.1<q.1) (ly kN jv rop j3 l m L t):=by
 have aD:=n.len;have M:(gv L).length=L.length:=di ..
 obtain ⟨x,P,y,z,S,T,Q,R,k,az,aq,C,aC⟩:=aj.ea;obtain ⟨rfl,K,ak⟩:=aq.c;have an: ∀G∈gv L,aN G:=λG E=>by obtain ⟨q,e,rfl⟩:=cd.1 E;exact pr (n.wf q e).1 (n.wf q e).2 (n.lt q e).2
 have H: ∀g u,c7 u->AB L g u-> ∀q,L[g]? =some q->oq q.1 u:=λg u o i q e=>x_ λp b=>i p b q e;have O:=DA ag (kp:=5) (np:=0) (pl:=l) (pm:=m) (n8:=0) (n9:=0) (py:=py) (m0:= .V) (pk:=gv L) (fk:= []) (kt:=x) (mV:=P) (tl:=y) (tm:=z) (ul:=S) (nb:=T) (ty:=Q) (tz:=R) (tk:=k) (uz:=az)
  (.inl rfl) ah (.inl ⟨rfl,rfl⟩) an (λ_ ag=>by cases ag) ab ai K ak C (AB L) (pj kN jv rop j3 L k) (λg p q b e=>by
   unfold gv at b;rw [hO] at b
   cases r:L[g]? with
   |none=>rw [r] at b;cases b
   | some f=>
     rw [r] at b;simp only [jV,N] at b;subst b;have j:=aV r;have:=xM ag (a:=f.1) (c:=f.2.1) (d:=f.2.2) (n.lt f j).2 (C q (aV e)) (D:=AB L g) λu o i=>H g u o i f r;have h:pj kN jv rop j3 L k g=fx kN jv rop j3 f.1 f.2.1 f.2.2 q:=by funext u;unfold pj;rw [r,e]
     rw [h];exact this) (λG E=>by simp at E) (λg u aE I o i h=>by
   simp only [h5,vU,M] at I;unfold pj at h;obtain ⟨f,j⟩:=bA I;rw [j] at h
   cases e:k[g]? with
   |none=>rw [e] at h;cases h
   | some q=>
     rw [e] at h;have au:=aV j;obtain ⟨A,B⟩:=se (n.lt f au).2 (C q (aV e)) o (H g u o i f j) h;refine ⟨A,λp b aB ar=> ?_⟩;rw [B,IP λp b=>i p b f j] at b;have J:f.1<aB.1:=by obtain ⟨W,X⟩:=e6.1 j;obtain ⟨Z,ad⟩:=e6.1 ar;have:=qj.1 n.st g (g+1) W Z ab;rw [X,ad] at this;exact this
     rcases cr.1 b with b|b
     . exact Nat.lt_trans (i p b f j) J
     . rw [bs.1 b];exact J)
 have h:(λu:Sub=>if (5:Int)=x/\(l=y/\m=z) then (if (gv L).length<=k.length/\(([]:Y).length≠0\/(gv L).length=k.length) then fZ (pj kN jv rop j3 L k) ((gv L).length+([]:Y).length) u else none) else none)=ly kN jv rop j3 l m L [.int .i64 x,.int .i64 P,.str y z,.str S T,Q,R]:=by
  funext u;simp only [ly,bm K,M,h5,vU];by_cases v:(5:Int)=x/\(l=y/\m=z)
  . rw [if_pos v,if_pos v];by_cases w:L.length=k.length
    . rw [if_pos w,if_pos ⟨ab,.inr w⟩]
    . rw [if_neg w,if_neg];rintro ⟨-,ag|ag⟩
      . exact ag rfl
      . exact w ag
  . rw [if_neg v,if_neg v]
 rw [h] at O;obtain ⟨av,af⟩:=O;refine ⟨av,λaw ay A B u aA ae U o ao i al=>af aw ay A B u aA ae U o ao (λp b q e=>i p b q (aV e)) al⟩
end
def hh (args:Y):gS:=args.mapIdx λa d=>match d with
 | [.str b c]=>(a+2,b,c)
 |_=>(a+2,0,0)
theorem Al {args:Y} (k:b8 args) (q:args.length<=8):jG (hh args)/\gv (hh args)=cp args:=by
 have l: ∀(a:Nat) b,args[a]? =some b-> ∃c d,b= [.str c d]/\(hh args)[a]? =some (a+2,c,d)/\T c d/\c<4611686018427387904:=λa b e=>by obtain ⟨c,d,rfl,g,j⟩:=k b ah;exact ⟨c,d,rfl,by unfold hh;grind,g,j⟩
 have r:(hh args).length=args.length:=C2;have t: ∀f∈hh args,∃a c d,f=(a+2,c,d)/\a<args.length/\T c d/\c<4611686018427387904:=λf h=>by
  obtain ⟨a,i⟩:=jo h;have o:=(e6.1 i).1;obtain ⟨b,e⟩: ∃b,args[a]? =some b:=de
  grind
 refine ⟨⟨qj.2 λa m i p n=> ?_,λf h=> ?_,λf h=> ?_⟩,?_⟩
 . obtain ⟨b,e⟩: ∃b,args[a]? =some b:=de;obtain ⟨v,u⟩: ∃b,args[m]? =some b:=ah
   grind
 . grind
 . grind
 . unfold gv cp;refine CT λa=> ?_;rw [hO,yO]
   cases e:args[a]? with
   | none=>
     grind
   | some b=>
     obtain ⟨c,d,rfl,g,-⟩:=l a b e;rw [g];rfl
def Lk {y:aa} {rows:Y} (a:F y rows) (c: ∀r∈rows,aN r) (b:rows.length<4611686018427387904) (n:Nat):aN (j2 y n):=
 .mk (ky:=rows.drop n) (i:= []) ⟨rfl,by unfold T;decide,by unfold T;decide,al,al,BB a n,.inl ⟨rfl,rfl⟩,ah,al⟩ ah ai
section
variable (kN jv rop j3:Y)
def sd (l m:Nat) (L:gS) (t:List aa) (u:Sub):Option Sub:=match t with
 | [.int _ b,_,.str d e,_,a,_]=>if (7:Int)=b/\(0=d/\0=e) then (match f a with
   |c::_=>(ly kN jv rop j3 l m L c u).bind (fx kN jv rop j3 0 4 1953720652 (j2 a 1))
   | []=>none) else none
 |_=>none
end
def wP:c7 []:=⟨ai,ai,ai⟩
def zX {kN jv rop j3:Y} {l m:Nat} {L:gS} (b:jG L) {t:List aa} (x:aN t) {u h:Sub} (f:c7 u) (y: ∀p∈u,∀q∈L,p.1<q.1) (e:ly kN jv rop j3 l m L t u=some h):c7 h/\ ∀p∈h,p∈u\/2<=p.1:=by
 obtain ⟨G,I,S,T,r,rfl,w,rfl⟩:=zW b y e;obtain ⟨H,J,K,M,Q,R,N,O,o,P,k,D,E⟩:=x.ea;have j:=k.eq;simp only [jn,and_true] at j;obtain ⟨-,-,-,-,rfl,-⟩:=j;rw [bm k.dh] at w|-;have i: ∀p∈k2 L o,∃q∈L,p.1=q.1/\p.2∈o:=λp a=>by unfold k2 at a;obtain ⟨r,n,rfl⟩:=cd.1 a;exact ⟨r.1,(C5 n).1,rfl,(C5 n).2⟩
 refine ⟨⟨rH.2 ⟨f.st,?_,λp a q F=> ?_⟩,λp a=> ?_,λp a=> ?_⟩,λp a=> ?_⟩
 . unfold k2;rw [List.pairwise_map];refine qj.2 λz A B C v=> ?_;simp only [List.getElem_zip];exact qj.1 b.st z A _ _ v
 . grind
 . rcases cr.1 a with a|a
   . exact f.lt p a
   . obtain ⟨g,d,c,-⟩:=i p a;rw [c];exact (b.lt g d).2
 . rcases cr.1 a with a|a
   . exact f.i0 p a
   grind
 . rcases cr.1 a with a|a
   . grind
   . obtain ⟨g,d,c,-⟩:=i p a;rw [c];exact .inr (b.lt g d).1
def zH:F cM [c_ 0 4 1953720652]:= .inr ⟨true,rfl⟩
def rQ:T 4 1953720652/\4<4611686018427387904:=⟨by unfold T;decide,al⟩
section
variable {ax:aa} {s:List aa} {kN jv rop j3 aJ:Y} (ag:dO ax s kN jv rop j3 aJ)
include ag
theorem QR {l m:Nat} {L:gS} (h:jG L) (K:T l m/\l<4611686018427387904) {py:aa} (O:F py (gv L)) {t:List aa} (ad:aN t):mb ax (eX (.A [cm l m py] true) cM) t (λu=>u= []) (sd kN jv rop j3 l m L t):=by
 obtain ⟨o,R,q,r,V,W,v,U,g,ar,an,y,ay⟩:=ad.ea;obtain ⟨rfl,-,-,-,-,z,ae,ab,-⟩:=an;have az:=h.len;have aj: ∀G∈gv L,aN G:=λG n=>by obtain ⟨k,j,rfl⟩:=cd.1 n;exact pr (h.wf k j).1 (h.wf k j).2 (h.lt k j).2
 have aA:aN (cm l m py):= .mk (ky:=gv L) (i:= []) ⟨rfl,K.1,by unfold T;decide,K.2,al,O,.inl ⟨rfl,rfl⟩,by unfold gv;grind,al⟩ aj ai;have aB:aN (c_ 0 4 1953720652):=pr rQ.1 rQ.2 al;have P:=λC=>Lk z y ab C
 let H:Nat->Sub->Prop:=λe u=>match e with
  |0=>u= []
  |1=> ∀p∈u,0<p.1
  |_=>True
 let I:Nat->Sub->Option Sub:=λe u=>match e,g with
  |0,k::_=>ly kN jv rop j3 l m L k u
  |1,_=>fx kN jv rop j3 0 4 1953720652 (j2 v 1) u
  |_,_=>none
 have Q:=DA ag (kp:=7) (np:=0) (pl:=0) (pm:=0) (n8:=0) (n9:=0) (py:= .A [cm l m py] true) (m0:=cM) (pk:= [cm l m py]) (fk:= [c_ 0 4 1953720652]) (kt:=o) (mV:=R) (tl:=q) (tm:=r) (ul:=V) (nb:=W) (ty:=v) (tz:=U) (tk:=g) (uz:=ar)
  (.inr rfl) (.inr ⟨_,rfl⟩) zH ah ah ai ai z ae y H I (λe p k M j=>by
   obtain rfl:e=0:=ah;simp only [mM,N] at M;subst M
   cases g with
   |nil=>grind
   | cons E S=>
     simp only [mM,N] at j;subst j;obtain ⟨ao,Z⟩:=Hb ag (l:=l) (m:=m) h O (y E (dF ..));exact ⟨ao,λaq C w x u av Y X B ak b af=>Z aq C w x u av Y X B ak ah af⟩) (λG n _=>by
   simp only [mM,N] at n;subst n;exact xM ag (a:=0) (c:=4) (d:=1953720652) al (P 1) (D:=H 1) λu _ b=>s7 b) (λe u au aw B b f=>by
   match e with
   | 0 =>
     cases g with
     |nil=>cases f
     | cons E S=>
       have b:u= []:=b;subst b;obtain ⟨w,x⟩:=zX (u:= []) h ah wP ai f
       grind
   | 1=>
     have f:fx kN jv rop j3 0 4 1953720652 (j2 v 1) u=some au:=f;have b: ∀p∈u,0<p.1:=b;obtain ⟨w,x⟩:=se (a:=0) al (P 1) B (s7 b) f
     grind
   |e+2=>grind)
 have f:(λu:Sub=>if (7:Int)=o/\(0=q/\0=r) then (if [cm l m py].length<=g.length/\([c_ 0 4 1953720652].length≠0\/ [cm l m py].length=g.length) then fZ I ([cm l m py].length+ [c_ 0 4 1953720652].length) u else none) else none)=sd kN jv rop j3 l m L [.int .i64 o,.int .i64 R,.str q r,.str V W,v,U]:=by
  funext u;simp only [sd,bm z,cl,h5];by_cases J:(7:Int)=o/\(0=q/\0=r)
  . rw [if_pos J,if_pos J]
    cases g with
    |nil=>simp
    | cons E S=>
      rw [if_pos ⟨ai,.inl al⟩];simp only [fZ,nT];rfl
  grind
 rw [f] at Q;exact Q
theorem I3 {p t:List aa} {st:Sub->Option Sub} (k:aN p) (l:aN t) (i:mb ax p t (λu=>u= []) st):bo λad n=> ∀(a:Bool) H,Tidy H->
  ∃v,ka (st []) v/\ ∀tm,az G (X G R ad n) 50 [ax,.A [[.V]] a,.agg p,.agg t] H tm= .ok v tm H:=by
 obtain ⟨w,j⟩:=i;obtain ⟨x,y,z,B,ah,ai⟩:=ag.val;refine ⟨w+1,λad n O P a H c=> ?_⟩;obtain ⟨n,rfl⟩:=bY n;obtain ⟨v,b,d⟩:=j ad n ab ab [] .V a H wP (.inl ⟨rfl,rfl⟩) rfl c;obtain ⟨o,q,r⟩:=b.aI 19;generalize st []=C at*;obtain ⟨Q,ae,D,E,F,I,aj,an,T,Y,rfl,e,f⟩:=k.t;obtain ⟨S,af,K,L,M,N,al,ao,W,Z,rfl,g,h⟩:=l.t;refine hg (aL.at (m:=11) rfl rfl rfl rfl rfl (by simp only [aO,z];rfl) rfl rfl ?_);simp only [go_sem,e.J,f.J,g.J,h.J,x,y,B,d,r,q,dX];exact ak.mk b o c (U.refl _)
end
def DS (u:Sub) (l m:Nat):List aa:=((u.find? λa=>(cz a.1).1==l&&(cz a.1).2==m).map (·.2)).getD eb
def V8 {u:Sub} (l:c7 u) {a:Nat} (i:a<10):DS u (cz a).1 (cz a).2=(dw u a).getD eb:=by
 unfold DS dw;congr 2;have: ∀(c:Sub),(∀b∈c,b.1<10)->c.find? (λb=>(cz b.1).1==(cz a).1&&(cz b.1).2==(cz a).2)=c.find? λb=>b.1==a:=by
  intro c g
  induction c with
  |nil=>rfl
  | cons b c m=>
    have d:((cz b.1).1==(cz a).1&&(cz b.1).2==(cz a).2)=(b.1==a):=by
     have j:=g b (dF ..);by_cases e:b.1=a
     . rw [e];simp
     . have:cz b.1≠cz a:=λd=>e (WQ _ j _ i d);have h:(b.1==a)=false:=by simpa using e
       rw [h]
       cases f:((cz b.1).1==(cz a).1&&(cz b.1).2==(cz a).2) with
       |false=>rfl
       | true=>
         simp only [br,beq_iff_eq] at f;exact absurd (Prod.ext f.1 f.2) this
    simp only [yK,d,m λn k=>g n (h8 _ k)]
 exact this u l.lt
def cj (u:Sub):Nat->List aa->List aa
 |0,_=>eb
 | a+1,g=>match g with
   | [.int .i64 b,_,.str c d,_,h,i]=>if b=6 then DS u c d else [.int .i64 b,.int .i64 0,.str c d,.str 0 0,dk ((f h).map (cj u a)++(f i).flatMap λe=>f (M (cj u a e) 4)),.V]
   |_=>eb
theorem BN {u:Sub} (f:c7 u) {d a c e:Nat} (b:a<10):cj u (d+1) (c_ a c e)=(dw u a).getD eb:=by rw [<-V8 f b];unfold c_ cn;rw [cj];exact if_pos rfl
def BM (u:Sub) (d:Nat) {k:Int} (n:Int) {l1 m1:Nat} (e g:Nat) {y z:aa} {ky i:Y} (a:k≠6) (b:F y ky) (c:F z i):cj u (d+1) [.int .i64 k,.int .i64 n,.str l1 m1,.str e g,y,z]= [.int .i64 k,.int .i64 0,.str l1 m1,.str 0 0,dk (ky.map (cj u d)++i.flatMap λq=>f (M (cj u d q) 4)),.V]:=by
 rw [<-bm b,<-bm c];exact if_neg a
def iB:Nat->List aa->Prop
 |0,_=>False
 |f+1,c=>(∃e h i,c=c_ e h i/\e<10/\aN c)\/ ∃g n j l k m o p a b,kX c g n j l k m o p a b/\g≠6/\a.length<=8/\b.length<=1/\(∀d∈a,iB f d)/\ ∀d∈b,iB f d
def iB.i0: ∀ {d r},iB d r->aN r
 |0,_,a=>a.elim
 | d+1,r,a=>by
   rcases a with ⟨_,_,_,-,-,a⟩|⟨g,n,j,l,k,m,o,p,h,i,a,-,-,-,e,f⟩
   . exact a
   . exact .mk a (λc b=>(e c b).i0) λc b=>(f c b).i0
def AN (u:Sub):Prop:= ∀a∈u,(f (M a.2 4)).length<=100000
def w7:aN eb:= .mk (ky:= []) (i:= []) ⟨rfl,by unfold T;decide,by unfold T;decide,al,al,.inl ⟨rfl,rfl⟩,.inl ⟨rfl,rfl⟩,al,al⟩ (λ_ a=>by cases a) (λ_ a=>by cases a)
def VS {r:List aa} (a:aN r): ∀x∈f (M r 4),aN x:=by
 obtain ⟨e,m,i,k,j,l,d,n,g,h,a,b,-⟩:=a.ea;obtain ⟨rfl,-,-,-,-,c,-⟩:=a;show∀x∈f d,aN x;rw [bm c];exact b
def rh {u:Sub} (h:c7 u) (k:AN u): ∀ {d r},d<1000->iB d r->aN (cj u d r)/\(f (M (cj u d r) 4)).length<=100000+8*d
 |0,_,_,c=>c.elim
 | d + 1,r,I,c=>by
   rcases c with ⟨n,F,G,rfl,t,J⟩|⟨K,B,L,P,z,A,W,X,q,l,c,v,O,y,s,o⟩
   . rw [BN h t]
     cases b:dw u n with
     |none=>exact ⟨w7,by show (f (M eb 4)).length<=_;exact fV _⟩
     | some U=>
       unfold dw at b
       cases m:u.find? λj=>j.1==n with
       |none=>rw [m] at b;cases b
       | some j=>
         rw [m] at b;simp only [jV,N] at b;subst b;have p:=yS m;exact ⟨h.i0 j p,by have:=k j p;show (f (M j.2 4)).length<=_;omega⟩
   . obtain ⟨rfl,D,V,C,S,w,x,Q,R⟩:=c;rw [BM u d B z A v w x];have b:(q.map (cj u d)++l.flatMap λa=>f (M (cj u d a) 4)).length<=100000+8*(d+1):=by have:=nF (λa=>f (M (cj u d a) 4)) (100000+8*d) l λa g=>(rh h k ab (o a g)).2;rw [bD,di];have H:l.length*(100000+8*d)<=1*(100000+8*d):=fU _ y;omega
     refine ⟨.mk (ky:=q.map (cj u d)++l.flatMap λa=>f (M (cj u d a) 4)) (i:= []) ⟨rfl,D,by unfold T;decide,C,al,fW _,.inl ⟨rfl,rfl⟩,ab,al⟩ (λE e=> ?_) (λ_ c=>by cases c),?_⟩
     . rcases cr.1 e with e|e
       . obtain ⟨a,g,rfl⟩:=cd.1 e;exact (rh h k ab (s a g)).1
       . obtain ⟨a,g,e⟩:=fC.1 e;exact VS (rh h k ab (o a g)).1 E e
     . show (f (dk _)).length<=_;rw [bm (fW _)];exact b
def Ah:aW G 33=some (.slice 35):=aq
theorem Vm (d:Nat):d<1000->bo λad n=> ∀r (u:Sub) x H,iB d r->c7 u->AN u->F x (u.map cg)->Tidy H-> ∀tm,az G (X G R ad n) 51 [.agg r,x] H tm= .ok (.agg (cj u d r)) tm H:=by
 induction d with
 |zero=>exact λ_=>⟨0,λ_ _ _ _ _ _ _ _ aE=>aE.elim⟩
 |succ d bI=>
 intro b2;obtain ⟨bJ,aW⟩:=bI ab;obtain ⟨bK,bt⟩:=DD;refine ⟨bJ+bK+20,λad n b3 b5 r u x H U z Y L aL=> ?_⟩;obtain ⟨n,rfl⟩:=bY n;have bb:=(rh z Y ab U).1;have: ∃e l,(e= .agg (cj u (d+1) r)/\l=H)/\ ∀tm,az G (X G R ad (n+1)) 51 [.agg r,x] H tm= .ok e tm l:=by
  refine dJ.at (m:=59) rfl rfl rfl rfl rfl (by simp only [aO,L.aD];rfl) rfl rfl ?_;rcases U with ⟨aP,bV,aR,rfl,aX,-⟩|⟨v,bc,C,I,bh,bj,bN,bn,h,o,aE,a6,ca,b9,bk,bl⟩
  . have N:=λtm=>bt ad n ab ab u x aP H z L aX aL tm;rw [BN z aX] at bb|-;generalize (dw u aP).getD eb=ck at*;obtain ⟨ao,ar,af,ag,ah,ai,ax,aA,bd,bg,rfl,S,T⟩:=bb.t;simp only [c_,cn];simp only [go_sem,L.O,N,S.J,T.J];refine dJ.mk (fi H _ _ ?_) ⟨rfl,ft (aT _)⟩;show [aa.int .i64 ao,.int .i64 ar,.str af ag,.str ah ai,ax,aA].all (D 49)=true;simp only [aO,S.aI 48,T.aI 48];rfl
  . have b6: ∀x∈h,iB d x:=bk;obtain ⟨rfl,cm,cp,cf,ch,Z,B,cc,cd⟩:=aE;rw [BM u d bc bh bj a6 Z B];have bC:(v==6)=false:=by simpa using a6
    have a7:(h.map (cj u d)).length=h.length:=di ..
    refine dJ.bM (λtm j=>H=j/\aM 61 [(1,x),(2,.W 0 [.int .i64 v,.int .i64 bc,.str C I,.str bh bj,bN,bn]),(4,.W 0 [.int .i64 0,.int .i64 0,.str 0 0,.str 0 0,.V,.V]),(7,.av []),(9,.av []),(11,.av [])] tm) ?_ ?_
    . simp only [go_sem,Z.J,B.J];exact an.mk ⟨rfl,dC⟩
    rintro tm _ ⟨rfl,hF⟩;refine dJ.bF hF (λq tm j=>H=j/\q tm) ?_ ?_
    . simp only [go_sem,hF,bC];exact an.mk ⟨rfl,ay⟩
    clear hF;rintro tm _ ⟨rfl,hF⟩;refine dJ.kp [1,2,4] (λq tm j=>H=j/\M tm 7= .W 0 [.int .i64 v,.int .i64 0,.str C I,.str 0 0,.V,.V]/\q tm) ?_ ?_
    . simp only [go_sem,hF];exact an.mk ⟨rfl,ay⟩
    clear hF;rintro tm _ ⟨rfl,hF⟩;refine dJ.kp [1,2,4] (λq tm j=> ∃e,P 35 6 H j e (h.map (cj u d))/\M tm 7= .W 0 [.int .i64 v,.int .i64 0,.str C I,.str 0 0,e,.V]/\q tm) ?_ ?_
    . simp only [go_sem,hF,Z.O,Z.len];generalize bw:a1 _ _ _ _ _ _ _ _ _ _=aB;revert aB;refine cv [1,2,4,29] (λp=> [(7,.W 0 [.int .i64 v,.int .i64 0,.str C I,.str 0 0,p.1,.V])]) (λp=>p.2) (λc p=>P 35 6 H p.2 p.1 ((h.map (cj u d)).take c)) h.length (.V,H) (P.new _ _ aL) ?_ ?_
      . clear hF;rintro c ⟨e,l⟩ tm aG g hF;simp only at g hF|-;obtain ⟨a,w⟩:=bA aG;have aH:=aV w;have K:=bk a aH;have N:=λtm=>aW ad n ab ab a u x l K z Y L g.tidy tm;have aK:=(rh z Y ab K).1.row;have bx:=ki aK l;have bZ:=k7 aK;have ba:Rows 6 [cj u d a]:=λbn B=>by rw [bs.1 B];exact aK
        obtain ⟨aN,ae,aC,s,-⟩:=g.app (k:=6) (E:=G) (t:=33) (b:=96) (i:=t35) Ah aq rfl rfl al al (x:= .A [cj u d a] true) (aQ:= [_]) (dR (.inr ⟨_,rfl⟩) ba.len) ba (by rw [h6,a7];show _+1<_;omega);have br:(h.map (cj u d))[c]? =some (cj u d a):=by rw [hO,w];rfl
        rw [<-od br] at s;generalize cj u d a=bW at*;have ak:=K.i0;have aJ:=Z.a_ (k:=6) w ak.len;obtain ⟨ao,ar,af,ag,ah,ai,ax,aA,bd,bg,rfl,S,T⟩:=ak.t;refine au.kp [31,30,1,2,4,29] (λq tm j=>l=j/\ ∃aw,M tm 7= .W 0 [.int .i64 v,.int .i64 0,.str C I,.str 0 0,e,.V]/\M tm 9= .W aw [.int .i64 ao,.int .i64 ar,.str af ag,.str ah ai,ax,aA]/\q tm) ?_ ?_
        . simp only [go_sem,hF,Z.O,aJ,S.J,T.J];exact an.mk ⟨rfl,_,by simp only [go_sem,hF];trivial⟩
        clear hF;rintro tm _ ⟨rfl,aw,hF⟩;simp only [go_sem,hF,L.O,N,bx,bH,g.O,aC,s.O,s.ok,s.cs];exact au.next (aN,ae) rfl s ay
      . rintro ⟨e,l⟩ tm g hF;simp only at g hF;rw [fT ab] at g;simp only [go_sem];exact an.mk ⟨e,g,ay⟩
    clear hF;rintro tm l ⟨e,Q,hF⟩;have bz: ∀c,((o.take c).flatMap λa=>f (M (cj u d a) 4)).length<=110000:=λc=>by
     have:=nF (λa=>f (M (cj u d a) 4)) (100000+8*d) (o.take c) λa bE=>(rh z Y ab (bl a (hQ bE))).2;have bu:(o.take c).length<=1:=by rw [h6];omega
     have b0:(o.take c).length*(100000+8*d)<=1*(100000+8*d):=fU _ bu;omega
    refine dJ.kp [4] (λq tm j=> ∃e,P 35 6 H j e (h.map (cj u d)++o.flatMap λa=>f (M (cj u d a) 4))/\M tm 7= .W 0 [.int .i64 v,.int .i64 0,.str C I,.str 0 0,e,.V]/\q tm) ?_ ?_
    . simp only [go_sem,hF,B.O,B.len];generalize bw:a1 _ _ _ _ _ _ _ _ _ _=aB;revert aB;refine cv [1,4,45] (λp=> [(7,.W 0 [.int .i64 v,.int .i64 0,.str C I,.str 0 0,p.1,.V])]) (λp=>p.2) (λc p=>P 35 6 H p.2 p.1 (h.map (cj u d)++(o.take c).flatMap λa=>f (M (cj u d a) 4))) o.length (e,l) (by simpa using Q) ?_ ?_
      . clear hF;rintro c ⟨e,l⟩ tm aG g hF;simp only at g hF|-;obtain ⟨a,w⟩:=bA aG;have aH:=aV w;have K:=bl a aH;have N:=λtm=>aW ad n ab ab a u x l K z Y L g.tidy tm;have bB:=(rh z Y ab K).1;have a8:=bz (c+1);rw [kR _ w,bD] at a8;have aS:h.map (cj u d)++(o.take (c+1)).flatMap (λa=>f (M (cj u d a) 4))=(h.map (cj u d)++(o.take c).flatMap λa=>f (M (cj u d a) 4))++f (M (cj u d a) 4):=by rw [kR _ w,fu]
        have b4:(h.map (cj u d)++(o.take c).flatMap λa=>f (M (cj u d a) 4)).length=h.length+((o.take c).flatMap λa=>f (M (cj u d a) 4)).length:=by rw [bD,a7]
        generalize h.map (cj u d)++(o.take c).flatMap (λa=>f (M (cj u d a) 4))=bP at*;obtain ⟨b7,cb,bR,bS,bT,bU,bO,cq,bf,b8,bG,aY,-⟩:=bB.ea;obtain ⟨aU,-,-,-,-,aF,b1,-,-⟩:=bG;have bq:f (M (cj u d a) 4)=bf:=by rw [aU];exact bm aF
        rw [bq] at a8 aS;rw [aU] at N;obtain ⟨aN,ae,aC,s,-⟩:=g.app (k:=6) (E:=G) (t:=33) (b:=96) (i:=t35) Ah aq rfl rfl al al (x:=bO) (aQ:=bf) (dR aF λr U=>(aY r U).len) (λr U=>(aY r U).row) ab;have ak:=K.i0;have aJ:=B.a_ (k:=6) w ak.len;obtain ⟨ao,ar,af,ag,ah,ai,ax,aA,bd,bg,rfl,S,T⟩:=ak.t;refine au.kp [47,46,1,4,45] (λq tm j=>l=j/\ ∃aw,M tm 7= .W 0 [.int .i64 v,.int .i64 0,.str C I,.str 0 0,e,.V]/\M tm 11= .W aw [.int .i64 ao,.int .i64 ar,.str af ag,.str ah ai,ax,aA]/\q tm) ?_ ?_
        . simp only [go_sem,hF,B.O,aJ,S.J,T.J];exact an.mk ⟨rfl,_,by simp only [go_sem,hF];trivial⟩
        clear hF;rintro tm _ ⟨rfl,aw,hF⟩;simp only [go_sem,hF,L.O,N,aF.O,bH,g.O,aC,s.O,s.ok,s.cs];exact au.next (aN,ae) rfl (by show P _ 6 H _ _ (_++(o.take (c+1)).flatMap _);rw [aS];exact s) ay
      . rintro ⟨e,l⟩ tm g hF;simp only at g hF;rw [bX] at g;simp only [go_sem];exact an.mk ⟨e,g,ay⟩
    clear hF Q;rintro tm bQ ⟨e,Q,hF⟩;obtain ⟨ae,bp,cl,bL,-⟩:=Q.aZ 48 al al;simp only [go_sem,hF,Q.ok];refine dJ.mk (wB (H':=ae) ?_) ⟨rfl,gV aL (bL H (aT _) Q.up) ?_⟩
    . simp only [cD,Go.aj.zB,Go.aj.wC,Go.aj.Ez,bp]
    . show List.all [_,_,_,_,_,_] (y H.n 19)=true;simp only [aO,fR H.n 19 19 _ (aT _) ((fW _).aI 18)];rfl
 obtain ⟨_,_,⟨rfl,rfl⟩,aR⟩:=this;exact aR
def jf (q:Bool×Nat×Nat×Nat):List aa:=if q.1 then fb (c_ q.2.1 q.2.2.1 q.2.2.2) else n2 (c_ q.2.1 q.2.2.1 q.2.2.2)
theorem Ql (q):(jf q).length=6:=by unfold jf;split<;>rfl
section
variable {ax:aa} {s:List aa} {kN jv rop j3 aJ:Y} (ag:dO ax s kN jv rop j3 aJ)
include ag
def l7 (kN jv rop j3 aJ:Y) (t:List aa):Bool:=pt kN jv aJ (eh kN rop j3 t).1 (eh kN rop j3 t).2
theorem Vs (a:List (Bool×Nat×Nat×Nat)) (aF: ∀q∈a,q.2.1<10) (bg:a.length<=100) {u:Sub} (ah:c7 u):bo λad n=> ∀y x H,F y (a.map jf)->F x (u.map cg)->Tidy H->
  ∀tm,az G (X G R ad n) 52 [ax,y,x] H tm= .ok (.bool (a.all λq=>l7 kN jv rop j3 aJ ((dw u q.2.1).getD eb)==q.1)) tm H:=by
 obtain ⟨a8,bn,ba,bp,bq,br⟩:=ag.val;have aa: ∀b,aN ((dw u b).getD eb):=λb=>by
  cases e:dw u b with
  |none=>exact w7
  | some a7=>
    unfold dw at e
    cases I:u.find? λP=>P.1==b with
    |none=>rw [I] at e;cases e
    | some P=>
      rw [I] at e;simp only [jV,N] at e;subst e;exact ah.i0 P (yS I)
 obtain ⟨aU,aA⟩:=DD;obtain ⟨aW,aB⟩:=C.all (l:=a) (f:=87) (g:=λq=> [ax,.agg ((dw u q.2.1).getD eb)]) (v:=λq=> .str (eh kN rop j3 ((dw u q.2.1).getD eb)).1 (eh kN rop j3 ((dw u q.2.1).getD eb)).2) λq _=>v_ ag (aa _);obtain ⟨aX,aC⟩:=C.all (l:=a) (f:=86) (g:=λq=> [ax,.str (eh kN rop j3 ((dw u q.2.1).getD eb)).1 (eh kN rop j3 ((dw u q.2.1).getD eb)).2]) (v:=λq=> .bool (l7 kN jv rop j3 aJ ((dw u q.2.1).getD eb))) λq _=>Jg ag _ _;refine ⟨aU+aW+aX+110,λad n e bj y x H j L p=> ?_⟩;obtain ⟨n,rfl⟩:=bY n;have aG:(a.map jf).length=a.length:=di ..
 have aj:=j.len;rw [aG] at aj;refine fa (aL.at (m:=40) (rs:= [.tmp 6]) rfl rfl rfl rfl rfl (by simp only [aO,j.aD,L.aD,ba];rfl) rfl rfl ?_);simp only [go_sem,j.O,aj];have hF:=trivial;generalize bh:a1 _ _ _ _ _ _ _ _ _ _=ao;revert ao;refine dA [0,2,12] (λr=>(a.take r).all (λq=>l7 kN jv rop j3 aJ ((dw u q.2.1).getD eb)==q.1)=true) a.length ai ?_ ?_
 . rintro r a6 tm aQ w hF;obtain ⟨q,K⟩:=bA aQ;have B:=aV K;have V:=aF q B;have aT:(a.map jf)[r]? =some (jf q):=by rw [hO,K];rfl
   have z:=j.a_ (k:=6) aT (Ql q);have E:=λtm=>aA ad n ab ab u x q.2.1 H ah L V p tm;have S:=λtm=>aB ad n ab ab q B H tm p;have T:=λtm=>aC ad n ab ab q B H tm p;have ae: ∀c:(l7 kN jv rop j3 aJ ((dw u q.2.1).getD eb)==q.1)=true,(a.take (r+1)).all (λq=>l7 kN jv rop j3 aJ ((dw u q.2.1).getD eb)==q.1)=true:=λc=>by rw [fg,K];simp only [rE,w,Db,aO,jm,c,tu]
   have af: ∀c:(l7 kN jv rop j3 aJ ((dw u q.2.1).getD eb)==q.1)=false,(a.all λq=>l7 kN jv rop j3 aJ ((dw u q.2.1).getD eb)==q.1)=false:=λc=>by rw [List.all_eq_false];exact ⟨q,B,by rw [c];decide⟩
   have aS:=aa q.2.1;generalize (a.all λq=>l7 kN jv rop j3 aJ ((dw u q.2.1).getD eb)==q.1)=bd at*;generalize l7 kN jv rop j3 aJ ((dw u q.2.1).getD eb)=bf at*;generalize aR:eh kN rop j3 ((dw u q.2.1).getD eb)=bm at*;clear aR;generalize (dw u q.2.1).getD eb=a7 at*;obtain ⟨aY,aZ,aq,ar,av,aw,bb,bc,bk,bl,rfl,aH,aI⟩:=aS.t;obtain ⟨D,b,h,i⟩:=q;simp only at E S T ae af V;have aK:F (.A [c_ b h i] true) [c_ b h i]:= .inr ⟨_,rfl⟩;have Y:=aK.vJ (k:=6) rfl rfl;have aP:F (.A [fb (c_ b h i)] true) [fb (c_ b h i)]:= .inr ⟨_,rfl⟩;have Z:=aP.vJ (k:=6) rfl rfl;refine au.bM (λtm d=>H=d/\ ∃Q,aM 43 [(14,.int .i64 (r:Nat)),(13,.int .i64 (a.length:Nat)),(0,ax),(2,x),(12,y),(8,.W Q (jf (D,b,h,i)))] tm) ?_ ?_
   . cases D
     . simp only [jf,n2,fb,cm,eJ,if_false] at z|-;simp only [go_sem,hF,j.O,z];exact an.mk ⟨rfl,_,by simp only [go_sem,hF];trivial⟩
     . simp only [jf,n2,fb,cm,if_true] at z|-;simp only [go_sem,hF,j.O,z];exact an.mk ⟨rfl,_,by simp only [go_sem,hF];trivial⟩
   clear hF;rintro tm _ ⟨rfl,Q,hF⟩;refine au.bF hF (λo tm d=>H=d/\aM 43 [(9,.bool true)] tm/\o tm) ?_ ?_
   . simp only [go_sem];exact an.mk ⟨rfl,ay⟩
   clear hF;rintro tm _ ⟨rfl,hF⟩;refine au.kp [14,13,0,2,12] (λo tm d=>H=d/\M tm 8= .W Q (fb (c_ b h i))/\M tm 9= .bool D/\o tm) ?_ ?_
   . cases D
     . simp only [jf,n2,fb,cm,eJ,if_false] at hF Z|-;simp only [go_sem,hF,Z];exact an.mk ⟨rfl,ay⟩
     . simp only [jf,n2,fb,cm,if_true] at hF|-;simp only [go_sem,hF];exact an.mk ⟨rfl,ay⟩
   clear hF;rintro tm _ ⟨rfl,hF⟩;refine au.kp [14,13,0,2,12,9] (λo tm d=>H=d/\ ∃al,M tm 10= .W al [.int .i64 aY,.int .i64 aZ,.str aq ar,.str av aw,bb,bc]/\o tm) ?_ ?_
   . simp only [fb,cm,c_,cn] at hF Y E|-;simp only [go_sem,hF.1,hF,Y,L.O,E,aH.J,aI.J];exact an.mk ⟨rfl,_,by simp only [go_sem,hF];trivial⟩
   clear hF;rintro tm _ ⟨rfl,al,hF⟩;simp only [go_sem,hF,a8,S,T];refine au.aE ?_ ?_<;>intro c<;>try simp only [go_sem,c]
   . refine au.stop rfl ?_;simp only [go_sem,hF];exact ak.mk (by rw [af (by simpa using c)]) rfl p (U.refl _)
   . exact au.next () rfl (ae (by simpa using c)) ay
 . rintro a6 tm w hF;rw [bX] at w;simp only [go_sem,hF];exact ak.mk (by rw [w]) rfl p (U.refl _)
end
def sU (a b:Int):Int:=if decide (a<b) then -1 else if decide (a>b) then 1 else 0
def abq:d G R 234 (λ_:Int×Int=>True) (λp=> [.int .i64 p.1,.int .i64 p.2]) (λp=> .int .i64 (sU p.1 p.2)):=by
 obtain ⟨q,o⟩:d G R 297 (λ_:Int=>True) (λp=> [.int .i64 p]) (λ_=> .bool false):=by refine d.run (m:=5) rfl rfl rfl rfl (λ_=>rfl) (λ_ _=>rfl) rfl rfl 0 λj k g h b _ c a=> ?_;have l:(b !=b)=false:=ai;simp only [go_sem,l];exact e.mk rfl a (U.refl _)
 refine d.run (m:=18) rfl rfl rfl rfl (λ_=>rfl) (λ_ _=>rfl) rfl rfl q λj k g h b _ c a=> ?_;have f:=λr s=>o j k g h r trivial c s a;simp only at f;simp only [go_sem,f]
 iterate 2 all_goals try (refine e.aE ?_ ?_<;>intro n<;>try simp only [go_sem,n])
 all_goals refine e.i a (U.refl _) ?_
 all_goals unfold sU
 all_goals simp [*]
def abr:d G R 233 (λ_:Int×Int=>True) (λp=> [.int .i64 p.1,.int .i64 p.2]) (λp=> .int .i64 (sU p.1 p.2)):=by
 obtain ⟨q,o⟩:d G R 296 (λ_:Int=>True) (λp=> [.int .i64 p]) (λ_=> .bool false):=by refine d.run (m:=5) rfl rfl rfl rfl (λ_=>rfl) (λ_ _=>rfl) rfl rfl 0 λj k g h b _ c a=> ?_;have l:(b !=b)=false:=ai;simp only [go_sem,l];exact e.mk rfl a (U.refl _)
 refine d.run (m:=18) rfl rfl rfl rfl (λ_=>rfl) (λ_ _=>rfl) rfl rfl q λj k g h b _ c a=> ?_;have f:=λr s=>o j k g h r trivial c s a;simp only at f;simp only [go_sem,f]
 iterate 2 all_goals try (refine e.aE ?_ ?_<;>intro n<;>try simp only [go_sem,n])
 all_goals refine e.i a (U.refl _) ?_
 all_goals unfold sU
 all_goals simp [*]
def UW:bo λad n=> ∀x rows H,F x rows->(∀r∈rows,∃i:Int,r= [.int .i64 i])->rows.length<=10->Tidy H-> ∃i:Int,∀tm,az G (X G R ad n) 232 [x] H tm= .ok (.int .i64 i) tm H:=by
 refine ⟨20,λad n p s x rows H a j q d=> ?_⟩;obtain ⟨n,rfl⟩:=bY n;have: ∃b,me b/\ ∀tm,az G (X G R ad (n+1)) 232 [x] H tm= .ok b tm H:=by
  refine hg (aL.at (m:=17) (rs:= [.tmp 2]) rfl rfl rfl rfl rfl (by simp only [aO,a.aD];rfl) rfl rfl ?_);simp only [go_sem,a.O,a.len];have hF:=trivial;generalize o:a1 _ _ _ _ _ _ _ _ _ _=e;revert e;refine dA [3,6] (λ_=>True) rows.length trivial ?_ ?_
  . rintro t l tm h-hF;obtain ⟨r,c⟩:=bA h;obtain ⟨i,rfl⟩:=j r (aV c);simp only [go_sem,hF,a.O,a.a_ (k:=1) c rfl];refine au.aE ?_ ?_<;>intro g<;>try simp only [go_sem,hF,g]
    . exact au.stop rfl (by simp only [go_sem,hF];exact ak.it d (U.refl _))
    . exact au.next () rfl trivial ay
  . rintro l tm-hF;simp only [go_sem,hF];exact ak.it d (U.refl _)
 obtain ⟨b,⟨i,rfl⟩,f⟩:=this;exact ⟨i,f⟩
theorem I6 {ad n:Nat} {x y:aa} {A B:Y} (d:F x A) (c:F y B) (ab: ∀r∈A,aN r) (ae: ∀r∈B,aN r) (aK:A.length<ad) (aI:A.length<4611686018427387904) {H:af} (o:Tidy H)
  (V: ∀a∈A,∀b∈B,∃i:Int,∀tm,az G (X G R ad n) 159 [.agg a,.agg b] H tm= .ok (.int .i64 i) tm H):
  ∃i:Int,∀tm,az G (X G R ad (n+1)) 236 [x,y,.fn (.func 159) [] []] H tm= .ok (.int .i64 i) tm H:=by
 have : ∃p,me p/\ ∀tm,az G (X G R ad (n+1)) 236 [x,y,.fn (.func 159) [] []] H tm= .ok p tm H:=by
  refine hg (aL.at (m:=36) (rs:= [.tmp 6]) rfl rfl rfl rfl rfl (by simp only [aO,d.aD,c.aD];rfl) rfl rfl ?_);simp only [go_sem,d.O,d.len];have hF:=trivial;generalize aJ:a1 _ _ _ _ _ _ _ _ _ _=E;revert E;refine dA [0,1,2,11] (λ_=>True) A.length trivial ?_ ?_
  . rintro f aB tm aq-hF;obtain ⟨a,q⟩:=bA aq;have s:=aV q;have u:=ab a s;have ai:=d.a_ (k:=6) q u.len;have Z:=V a s;obtain ⟨av,ax,I,K,L,N,aC,aG,aP,aR,rfl,ag,ah⟩:=u.t;refine au.bM (λtm e=>H=e/\ ∃C,aM 39 [(13,.int .i64 (f:Nat)),(12,.int .i64 (A.length:Nat)),(0,x),(1,y),(2,.fn (.func 159) [] []),(11,x),(7,.int .i64 (f:Nat)),(8,.W C [.int .i64 av,.int .i64 ax,.str I K,.str L N,aC,aG])] tm) ?_ ?_
    . simp only [go_sem,hF,d.O,ai,ag.J,ah.J];exact an.mk ⟨rfl,_,by simp only [go_sem,hF];trivial⟩
    clear hF;rintro tm _ ⟨rfl,C,hF⟩;by_cases ar:f<B.length
    . have h:decide ((f:Int)>=(B.length:Int))=false:=da;obtain ⟨b,v⟩:=bA ar;have w:=aV v;have z:=ae b w;have ao:=c.a_ (k:=6) v z.len;obtain ⟨i,j⟩:=Z b w;obtain ⟨aw,aA,P,Q,S,T,aF,aH,aQ,aS,rfl,aj,al⟩:=z.t;refine au.bF hF (λg tm e=>H=e/\g tm) ?_ ?_
      . simp only [go_sem,hF,c.O,c.len,h];exact an.mk ⟨rfl,ay⟩
      clear hF;rintro tm _ ⟨rfl,hF⟩;refine au.kp [13,12,0,1,2,11,8] (λg tm e=>H=e/\ ∃D,M tm 9= .W D [.int .i64 aw,.int .i64 aA,.str P Q,.str S T,aF,aH]/\g tm) ?_ ?_
      . simp only [go_sem,hF,c.O,ao,aj.J,al.J];exact an.mk ⟨rfl,_,by simp only [go_sem,hF];trivial⟩
      clear hF;rintro tm _ ⟨rfl,D,hF⟩;simp only [go_sem,hF,eg,j];refine au.aE ?_ ?_<;>intro l<;>try simp only [go_sem,hF,l]
      . exact au.stop rfl (by simp only [go_sem,hF];exact ak.it o (U.refl _))
      . exact au.next () rfl trivial ay
    . have h:decide ((f:Int)>=(B.length:Int))=true:=da;simp only [go_sem,hF,c.O,c.len,h];exact au.stop rfl (by simp only [go_sem,hF];exact ak.it o (U.refl _))
  . rintro aB tm-hF;simp only [go_sem,hF,d.O,d.len,c.O,c.len];refine ak.aE ?_ ?_<;>intro l<;>try simp only [go_sem,hF,l]
    all_goals exact ak.it o (U.refl _)
 obtain ⟨p,⟨i,rfl⟩,j⟩:=this;exact ⟨i,j⟩
theorem O5 (a b c d:Int) (H:af):cT G 50 4 [(0,.int .i64 a),(1,.int .i64 b),(2,.int .i64 c),(3,.int .i64 d)] H=some (.A [[.int .i64 a],[.int .i64 b],[.int .i64 c],[.int .i64 d]] true,H):=by rfl
theorem O4 (a b:Int) (H:af):cT G 50 2 [(0,.int .i64 a),(1,.int .i64 b)] H=some (.A [[.int .i64 a],[.int .i64 b]] true,H):=by rfl
def UX {a:List aa} (r:aN a): ∀ {b:List aa},aN b->dt 159 [.agg a,.agg b] me bQ:=by
 induction r with
 | @mk aw Z af ao ar aq au bc bf ag aj q aR aS aY aZ=>
 intro b s;obtain ⟨ae,av,D,E,F,H,bd,bg,ah,al,aV,V,Y⟩:=s.ea;obtain ⟨rfl,u,v⟩:=aV.c;obtain ⟨rfl,-,-,-,-,y,z,aT,aU⟩:=q
 obtain ⟨a1,aJ⟩:=dE (l:=ag) (Q:=λp i h=> ∀k∈ah,∀e,Tidy e-> ∃o,me o/\ ∀d,az G (X G R i h) 159 [.agg p,.agg k] e d= .ok o d e) λp x=>
  aL.j8 (l:=ah) (f:=159) (g:=λk=> [.agg p,.agg k]) (S:=λ_=>me) λk w=>aY p x (V k w)
 obtain ⟨a6,aK⟩:=dE (l:=aj) (Q:=λp i h=> ∀k∈al,∀e,Tidy e-> ∃o,me o/\ ∀d,az G (X G R i h) 159 [.agg p,.agg k] e d= .ok o d e) λp x=>
  aL.j8 (l:=al) (f:=159) (g:=λk=> [.agg p,.agg k]) (S:=λ_=>me) λk w=>aZ p x (Y k w)
 obtain ⟨a7,aO⟩:=abq;obtain ⟨a8,aP⟩:=abr;obtain ⟨ba,aQ⟩:=MS;obtain ⟨bb,P⟩:=UW;refine aL.run (m:=41) rfl rfl rfl rfl rfl rfl rfl rfl (a1+a6+a7+a8+ba+bb+ag.length+aj.length+2) λi h bh bj e j=> ?_;obtain ⟨h,rfl⟩:=bY h;have I:=λa b d=>aO i (h+1) ab ab (a,b) trivial e d j;have K:=λa b d=>aP i (h+1) ab ab (a,b) trivial e d j;have L:=λa b aA aB d=>aQ i (h+1) ab ab (a,b,aA,aB) trivial e d j;simp only at I K L;obtain ⟨bk,aD⟩:=P i (h+1) ab ab (.A [[.int .i64 (sU Z ae)],[.int .i64 (sU af av)],[.int .i64 (u6 ao ar D E)],[.int .i64 (u6 aq au F H)]] true) _ e (.inr ⟨_,rfl⟩) (λaw q=>by simp only [b2,dG,or_false] at q;rcases q with rfl|rfl|rfl|rfl<;>exact ⟨_,rfl⟩) ai j;have T: ∀ {M:Nat} {C:List aa} {e},(∃o,me o/\ ∀d,az G (X G R i h) M C e d= .ok o d e)-> ∃B:Int,∀d,az G (X G R i h) M C e d= .ok (.int .i64 B) d e:=λ⟨o,⟨B,aC⟩,N⟩=>⟨B,by rw [aC] at N;exact N⟩;obtain ⟨aW,aF⟩:=I6 (ad:=i) (n:=h) y u aR V ab aT j λa r b s=>T (aJ i h ab ab a r b s e j);obtain ⟨aX,aG⟩:=I6 (ad:=i) (n:=h) z v aS Y ab aU j λa r b s=>T (aK i h ab ab a r b s e j);obtain ⟨bl,aH⟩:=P i (h+1) ab ab (.A [[.int .i64 aW],[.int .i64 aX]] true) _ e (.inr ⟨_,rfl⟩) (λaw q=>by simp only [b2,dG,or_false] at q;rcases q with rfl|rfl<;>exact ⟨_,rfl⟩) ai j;refine ak.bM (λd t=>e=t/\aM 43 [(2,.W 0 [.int .i64 Z,.int .i64 af,.str ao ar,.str aq au,bc,bf]),(3,.W 0 [.int .i64 ae,.int .i64 av,.str D E,.str F H,bd,bg])] d) ?_ ?_
 . simp only [go_sem,y.J,z.J,u.J,v.J];exact an.mk ⟨rfl,dC⟩
 rintro d _ ⟨rfl,hF⟩;refine ak.bF hF (λax d t=>e=t/\ax d) ?_ ?_
 . simp only [go_sem,hF,I,K,L,O5,bH,aD];refine an.aE ?_ ?_<;>intro aI<;>try simp only [go_sem,hF,aI]
   . exact an.stop rfl (by simp only [go_sem,hF];exact ak.it j (U.refl _))
   . exact an.mk ⟨rfl,ay⟩
 clear hF;rintro d _ ⟨rfl,hF⟩;simp only [go_sem,hF,y.O,z.O,u.O,v.O,aF,aG,O4,bH,aH];exact ak.it j (U.refl _)
section
variable {ax:aa} {s:List aa} {kN jv rop j3 aJ:Y} (ag:dO ax s kN jv rop j3 aJ)
include ag
theorem UZ {r} (aA:aN r):dt 83 [ax,.agg r] dI bQ:=by
 induction aA with
 | @mk r z aY A B ad ae aI a7 d cf aA n b4 bC _=>
 obtain ⟨bD,bj⟩:=aL.j8 bC;obtain ⟨bE,bk⟩:=MO ag;obtain ⟨bG,bl⟩:=C.all (l:=d) (f:=87) (g:=λb=> [ax,.agg b]) (v:=λb=> .str (eh kN rop j3 b).1 (eh kN rop j3 b).2) λb aB=>v_ ag (n b aB);obtain ⟨bH,bm⟩:=Af ag;obtain ⟨bI,bn⟩:=aL.j8 (l:=d) (f:=158) (g:=λr=> [.agg r]) (S:=λ_=>dI) λr i=>Jd (n r i)
 obtain ⟨bJ,bo⟩:=dE (l:=d) (Q:=λb u w=> ∀y∈d,∀h,Tidy h-> ∃L,me L/\ ∀a,az G (X G R u w) 159 [.agg b,.agg y] h a= .ok L a h) λb aB=>
  aL.j8 (l:=d) (f:=159) (g:=λy=> [.agg b,.agg y]) (S:=λ_=>me) λy bu=>UX (n b aB) (n y bu)
 obtain ⟨aG,cq,bV,cr,ct,cu⟩:=ag.val;have bs:=qA ag.bT.op A B;refine aL.run (m:=108) rfl rfl rfl rfl rfl (by simp only [aO,bV];rfl) rfl rfl (bD+bE+bG+bH+bI+bJ+d.length+2) λu w aU b6 h j=> ?_;have aK:=λa=>bk u w ab ab (A,B) trivial h a j;simp only at aK;have aP:=λbK bO ad ae a=>bm u w ab ab (bK,bO,ad,ae) trivial h a j;simp only at aP;obtain ⟨rfl,-,-,-,-,c,aC,b7,b8⟩:=aA;generalize iQ rop A B=ch at*;generalize j0 rop A B=cj at*;obtain ⟨bL,bP,al,bN,bR,cm,⟨⟨ba,bS,bU,bB,Z,rfl,F,bw,⟨cl,bt,-⟩⟩,-,-,-,-,bx,-,-,-⟩⟩:=bs;refine ak.bM (λa o=>h=o/\aM 110 [(0,ax),(3,.W 0 [.int .i64 z,.int .i64 aY,.str A B,.str ad ae,aI,a7]),(7,.av [])] a) ?_ ?_
 . simp only [go_sem,c.J,aC.J];exact an.mk ⟨rfl,dC⟩
 rintro a _ ⟨rfl,hF⟩;refine ak.bF hF (λD a o=>h=o/\D a) ?_ ?_
 . simp only [go_sem,hF]
   iterate 2 all_goals try (refine an.aE ?_ ?_<;>intro p<;>simp only [go_sem,hF,p,aC.O,aC.len])
   all_goals first
    |exact an.mk ⟨rfl,ay⟩
    |exact an.stop rfl (by simp only [go_sem,hF];exact ak.bW j (U.refl _))
 clear hF;rintro a _ ⟨rfl,hF⟩;refine ak.bF hF (λD a o=>h=o/\D a) ?_ ?_
 . simp only [go_sem,hF,c.O,c.len];generalize aS:a1 _ _ _ _ _ _ _ _ _ _=E;revert E;refine dA [0,3,7,22] (λ_=>True) d.length trivial ?_ ?_
   . clear hF;intro Z s a Y ar hF;obtain ⟨b,q⟩:=bA Y;have i:=aV q;obtain ⟨L,⟨bb,rfl⟩,bc⟩:=bj u w ab ab b i h j;have H:=(n b i).len;have x:=c.a_ (k:=6) q H;obtain ⟨aa,af,M,P,N,T,ah,aj,aD,aF,rfl,I,K⟩:=(n b i).t;simp only [go_sem,hF,c.O,x,I.J,K.J,aG,bc];refine au.aE ?_ ?_<;>intro p<;>try simp only [go_sem,p]
     all_goals first
      |exact au.next () rfl trivial ay
      |exact au.stop rfl (by simp only [go_sem];exact an.stop rfl (by simp only [go_sem,hF];exact ak.bW j (U.refl _)))
   . intro s a ar hF;simp only [go_sem];exact an.mk ⟨rfl,ay⟩
 clear hF;rintro a _ ⟨rfl,hF⟩;refine ak.bM (λa o=>h=o/\aM 110 [] a) ?_ ?_
 rotate_left
 . rintro a _ ⟨rfl,hF⟩;simp only [go_sem,hF];exact ak.bW j (U.refl _)
 refine an.bF hF (λD a o=>h=o/\aM 110 [(34,.int .i64 z)] a/\D a) ?_ ?_
 . simp only [go_sem,hF];exact an.mk ⟨rfl,ay⟩
 clear hF;rintro a _ ⟨rfl,hF⟩;by_cases aT:z=5
 . have aq:(z==5)=true:=by simpa using aT
   simp only [go_sem,hF,aq,aG,aK,F.J,bw.J,bt.J];refine an.aE ?_ ?_<;>intro p<;>try simp only [go_sem,hF,p,F.O,F.len,c.O,c.len]
   rotate_left
   . exact an.stop rfl (by simp only [go_sem,hF];exact ak.bW j (U.refl _))
   refine an.aE ?_ ?_<;>intro aR<;>try simp only [go_sem,hF,aR,c.O,c.len]
   . exact an.stop rfl (by simp only [go_sem,hF];exact ak.bW j (U.refl _))
   have b5:al.length=d.length:=by simp at aR;omega
   generalize aS:a1 _ _ _ _ _ _ _ _ _ _=E;revert E;refine dA [0,7,56] (λ_=>True) d.length trivial ?_ ?_
   . clear hF;intro e s a Y ar hF;obtain ⟨b,q⟩:=bA Y;obtain ⟨y,aW⟩: ∃r,al[e]? =some r:=⟨al[e]'ab,ai⟩;have i:=aV q;have bd:=λa=>bl u w ab ab b i h a j;obtain ⟨bY,b1,rfl,-⟩:=bx y (aV aW);have H:=(n b i).len;have x:=c.a_ (k:=6) q H;have bp:=F.a_ (k:=1) aW rfl;generalize eh kN rop j3 b=cn at*;obtain ⟨aa,af,M,P,N,T,ah,aj,aD,aF,rfl,I,K⟩:=(n b i).t;refine au.bM (λa o=>h=o/\ ∃aZ,aM 110 [(58,.int .i64 (e:Nat)),(57,.int .i64 (d.length:Nat)),(0,ax),(7,.W 0 [.str bL bP,ba,.str bN bR,bS,.int .i64 bB,.int .i64 Z,bU]),(56,aI),(9,.int .i64 (e:Nat)),(10,.W aZ [.int .i64 aa,.int .i64 af,.str M P,.str N T,ah,aj])] a) ?_ ?_
     . simp only [go_sem,hF,c.O,x,I.J,K.J];exact an.mk ⟨rfl,_,by simp only [go_sem,hF];trivial⟩
     clear hF;rintro a _ ⟨rfl,aZ,hF⟩;simp only [go_sem,hF,aG,bd,F.O,bp,aP];refine au.aE ?_ ?_<;>intro p<;>try simp only [go_sem,p]
     all_goals first
      |exact au.next () rfl trivial ay
      |exact au.stop rfl (by simp only [go_sem];exact an.stop rfl (by simp only [go_sem,hF];exact ak.bW j (U.refl _)))
   . intro s a ar hF;have aU:=hF.len;simp only [go_sem];exact an.mk ⟨rfl,aU⟩
 . have aq:(z==5)=false:=by simpa using aT
   simp only [go_sem,hF,aq];refine an.aE ?_ ?_<;>intro bg<;>try simp only [go_sem,bg]
   rotate_left
   . exact an.mk ⟨rfl,ay⟩
   generalize aS:a1 _ _ _ _ _ _ _ _ _ _=E;revert E;refine rP _ _ _ _ (λZ a a8=>h=a8/\aM 110 [(3,.W 0 [.int .i64 z,.int .i64 aY,.str A B,.str ad ae,aI,a7]),(11,.int .i64 ((2*Z:Nat):Int))] a) d.length ab ⟨rfl,by simp only [go_sem,hF];trivial⟩ ?_;clear hF;rintro e a _ Y ⟨rfl,hF⟩;by_cases br:2*e<d.length
   . have V:decide (((2*e:Nat):Int)<(d.length:Int))=true:=da;obtain ⟨b,q⟩: ∃r,d[2*e]? =some r:=⟨d[2*e],by simp [br]⟩;have i:=aV q;obtain ⟨L,⟨bb,rfl⟩,aQ⟩:=bn u w ab ab b i h j;have H:=(n b i).len;have x:=c.a_ (k:=6) q H;have a6:IntKind.i64.wrap (((2*e:Nat):Int)+2)=((2*(e+1):Nat):Int):=by rw [wrap64 _ ab ab];omega
     by_cases bh:e=0
     . subst bh;have ao:decide (((2*0:Nat):Int)>0)=false:=rfl;obtain ⟨aa,af,M,P,N,T,ah,aj,aD,aF,rfl,I,K⟩:=(n b i).t;simp only [go_sem,hF,c.O,c.len,V,x,aQ]
       iterate 2 all_goals try (refine dy.aE ?_ ?_<;>intro p<;>try simp only [go_sem,hF,p,ao,a6])
       all_goals first
        |exact dy.next (by show 0<d.length;omega) ⟨rfl,ay⟩
        |exact dy.stop rfl (by simp only [go_sem];exact an.stop rfl (by simp only [go_sem,hF];exact ak.bW j (U.refl _)))
     . have ao:decide (((2*e:Nat):Int)>0)=true:=da;have bX:IntKind.i64.wrap (((2*e:Nat):Int)-2)=((2*(e-1):Nat):Int):=by rw [wrap64 _ ab ab];omega
       obtain ⟨aH,aX⟩: ∃r,d[2*(e-1)]? =some r:=⟨d[2*(e-1)]'ab,ai⟩;have aw:=aV aX;have bz:=(n aH aw).len;have bq:=c.a_ (k:=6) aX bz;obtain ⟨L,⟨ck,rfl⟩,bf⟩:=bo u w ab ab aH aw b i h j;obtain ⟨aa,af,M,P,N,T,ah,aj,aD,aF,rfl,I,K⟩:=(n b i).t;obtain ⟨cd,cg,bZ,b2,b0,b3,cp,cv,cb,cc,rfl,b9,ca⟩:=(n aH aw).t;simp only [go_sem,hF,c.O,c.len,V,x,aQ]
       iterate 2 all_goals try (refine dy.aE ?_ ?_<;>intro p<;>try simp only [go_sem,hF,p,c.O,x,bq,ao,bX,bf,a6])
       all_goals first
        |exact dy.next (by show e<d.length;omega) ⟨rfl,ay⟩
        |exact dy.stop rfl (by simp only [go_sem];exact an.stop rfl (by simp only [go_sem,hF];exact ak.bW j (U.refl _)))
   . have V:decide (((2*e:Nat):Int)<(d.length:Int))=false:=da;simp only [go_sem,hF,c.O,c.len,V];refine dy.stop rfl ?_;simp only [go_sem];exact an.mk ⟨rfl,ay⟩
end
section
variable {ax:aa} {s:List aa} {kN jv rop j3 aJ:Y} (ag:dO ax s kN jv rop j3 aJ)
include ag
theorem Jf {r} (b:aN r):dt 49 [ax,.agg r] (j9 (om 60 r)) bQ:=by
 obtain ⟨o,i⟩:=(Dz b).gg;obtain ⟨p,j⟩:=(UZ ag b).bW;obtain ⟨q,H,u,I,K,L⟩:=ag.val;refine aL.run (m:=10) rfl rfl rfl rfl rfl (by simp only [aO,u];rfl) rfl rfl (o+p) λe f B C c a=> ?_;obtain ⟨z,k,g⟩:=i e f ab ab c a;obtain ⟨A,h⟩:=j e f ab ab c a;obtain ⟨D,E,v,w,x,y,M,N,F,G,rfl,l,n⟩:=b.t;simp only [go_sem,l.J,n.J,g];refine ak.aE ?_ ?_<;>intro d<;>try simp only [go_sem,d,q,h]
 . exact ak.gg a (U.refl _) λ_=>k d
 . exact ak.gg a (U.refl _) λag=>by cases ag
end
inductive ek (B:Nat):List aa->Prop
  |mk {r k n l1 m1 gJ mQ y z ky i} (ag:kX r k n l1 m1 gJ mQ y z ky i) (afG:ky.length<=B) (afH:i.length<=B) (dh: ∀x∈ky,ek B x) (cq: ∀x∈i,ek B x):ek B r
def ek.i0 {B r} (ag:ek B r):aN r:=by
 induction ag with
 |mk ag _ _ _ _ a b=>exact .mk ag a b
def ek.mono {B a r} (ag:ek B r) (d:B<=a):ek a r:=by
 induction ag with
 |mk ag e f _ _ b c=>exact .mk ag ab ab b c
def e1.abS {r n} (ag:e1 r n):ek n r:=by
 induction ag with
 | @mk r l n m p o q t u d e c ag g h j k=>
   have i:(d++e).length<=((d++e).map c).sum:=qq λb a=>((cr.1 a).elim (g b) (h b)).pos;rw [bD] at i;exact .mk ag ab ab (λb a=>(j b a).mono (by have:=o3 (f:=c) (hP e a);omega)) λb a=>(k b a).mono (by have:=o3 (f:=c) (h7 d a);omega)
inductive l_:List aa->List aa->Prop
  |mk {r k n l1 m1 gJ mQ y z ky i} (f:List aa->List aa) (ag:kX r k n l1 m1 gJ mQ y z ky i) (dh: ∀x∈ky,l_ x (f x)) (cq: ∀x∈i,l_ x (f x)):l_ r [.int .i64 k,.int .i64 n,.str l1 m1,.str gJ mQ,dk (ky.map f),dk (i.map f)]
def l_.i0 {r e} (ag:l_ r e):aN e:=by
 induction ag with
 | @mk r l q m o n p t u h j d ag _ _ f g=>
   exact .mk (ky:=h.map d) (i:=j.map d) ⟨rfl,ag.c5,ag.pw,ag.s1,ag.s2,fW _,fW _,by rw [di];exact ag.zm,by rw [di];exact ag.Kn⟩ (λk b=>by obtain ⟨c,a,rfl⟩:=cd.1 b;exact f c a) (λk b=>by obtain ⟨c,a,rfl⟩:=cd.1 b;exact g c a)
def I4 {ad n:Nat} {x:aa} {rows:Y} {f:List aa->List aa} {H:af} (w:Tidy H) (e:F x rows) (ar: ∀r∈rows,aN r) (ai: ∀r∈rows,aN (f r)) (aH:rows.length<900000) (aI:rows.length<ad)
    (T: ∀r∈rows,∀H tm,Tidy H->az G (X G R ad n) 53 [.agg r] H tm= .ok (.agg (f r)) tm H):
    ∃v H',P 35 6 H H' v (rows.map f)/\ ∀tm,az G (X G R ad (n+1)) 88 [x] H tm= .ok v tm H':=by
 have ak:(rows.map f).length=rows.length:=di ..
 refine bn.at (m:=18) rfl rfl rfl rfl rfl (by simp only [aO,e.aD];rfl) rfl rfl ?_;simp only [go_sem,e.O,e.len];have hF:=trivial;generalize aG:a1 _ _ _ _ _ _ _ _ _ _=C;revert C;refine cv [6] (λs=> [(3,s.1)]) (λs=>s.2) (λo s=>P 35 6 H s.2 s.1 ((rows.map f).take o)) rows.length (.V,H) (P.new _ _ w) ?_ ?_
 . rintro o ⟨v,g⟩ tm aj a hF;simp only at a hF|-;obtain ⟨c,j⟩:=bA aj;have l:=aV j;have N:=λtm=>T c l g tm a.tidy;have q:=(ai c l).row;have ah:=ki q g;have u:Rows 6 [f c]:=λaM av=>by rw [bs.1 av];exact q
   obtain ⟨aB,B,Q,h,-⟩:=a.app (k:=6) (E:=G) (t:=33) (b:=96) (i:=t35) Ah aq rfl rfl al al (x:= .A [f c] true) (aQ:= [_]) (dR (.inr ⟨_,rfl⟩) u.len) u (by rw [h6,ak];show _+1<_;omega);have S:(rows.map f)[o]? =some (f c):=by rw [hO,j];rfl
   rw [<-od S] at h;generalize f c=aF at*;have p:=ar c l;have ao:=e.a_ (k:=6) j p.len;obtain ⟨aw,aA,D,I,K,L,aC,aE,aK,aL,rfl,Z,ae⟩:=p.t;refine au.kp [8,7,6] (λz tm H'=>g=H'/\ ∃y,M tm 3=v/\M tm 5= .W y [.int .i64 aw,.int .i64 aA,.str D I,.str K L,aC,aE]/\z tm) ?_ ?_
   . simp only [go_sem,hF,e.O,ao,Z.J,ae.J];exact an.mk ⟨rfl,_,by simp only [go_sem,hF];trivial⟩
   clear hF;rintro tm _ ⟨rfl,y,hF⟩;simp only [go_sem,hF,N,ah,bH,a.O,Q,h.O];exact au.next (aB,B) rfl h ay
 . rintro ⟨v,g⟩ tm a hF;simp only at a hF;rw [fT ab] at a;simp only [go_sem,hF,a.O,a.nl,dX,if_true];exact bn.mk (a.gc w (U.refl _) (d:=19) id)
def Uk {B:Nat} (aL:B<900000) {r:List aa} (b:ek B r): ∃i,l_ r i/\K 53 [.agg r] (.agg i):=by
 induction b with
 | @mk r I L M P N Q aF aG w x b aR aS ah ai an ao=>
 have ak: ∀a∈w++x,∃i,l_ a i/\K 53 [.agg a] (.agg i):=λa d=>(cr.1 d).elim (an a) (ao a)
 classical
 let c:List aa->List aa:=λa=>if d: ∃i,l_ a i/\K 53 [.agg a] (.agg i) then Classical.choose d else []
 have q: ∀a∈w++x,l_ a (c a)/\K 53 [.agg a] (.agg (c a)):=λa d=>by have ag:=ak a d;have A:c a=Classical.choose ag:=dif_pos ag;rw [A];exact Classical.choose_spec ag
 obtain ⟨aq,u⟩:=C.all (l:=w++x) (f:=53) (g:=λa=> [.agg a]) (v:=λa=> .agg (c a)) λa d=>(q a d).2;generalize c=c at*;refine ⟨_,.mk c b (λa d=>(q a (hP _ d)).1) (λa d=>(q a (h7 _ d)).1),aq+B+2,λt h aM aN e j p=> ?_⟩;obtain ⟨h,rfl⟩: ∃ar,h=ar+1+1:=⟨h-2,ab⟩;obtain ⟨rfl,-,-,-,-,D,E,aP,aQ⟩:=b;obtain ⟨aB,z,k,U⟩:=I4 (ad:=t) (n:=h) (f:=c) p D (λr b=>(ah r b).i0) (λr b=>(q r (hP _ b)).1.i0) ab ab λr b e j p=>u t h ab ab r (hP _ b) e j p;obtain ⟨aC,aH,o,V⟩:=I4 (ad:=t) (n:=h) (f:=c) k.tidy E (λr b=>(ai r b).i0) (λr b=>(q r (h7 _ b)).1.i0) ab ab λr b e j p=>u t h ab ab r (h7 _ b) e j p;have F:=k.at o.tidy o.up;have Y:=o.mono k.up;have ae: ∀id,cW aC=some id->cW aB≠some id:=λid u Z=>by have:=o.W.ge u;have:=k.W.lt Z;omega
 obtain ⟨aK,aw,aA,aD,av⟩:=F.aZ 48 al al;have H:=Y.bS aA (aD e (aT _) F.up) λid au af ag=>av id au af (ae id ag);obtain ⟨T,ay,aU,aE,-⟩:=H.aZ 48 al al;have: ∃S z,(S= .agg [.int .i64 I,.int .i64 L,.str M P,.str N Q,dk (w.map c),dk (x.map c)]/\z=e)/\ ∀j,az G (X G R t (h+1+1)) 53 [.agg [.int .i64 I,.int .i64 L,.str M P,.str N Q,aF,aG]] e j= .ok S j z:=by
  refine dJ.at (m:=11) rfl rfl rfl rfl rfl rfl rfl rfl ?_;simp only [go_sem,D.J,E.J,D.O,E.O,U,k.O,V,o.O,k.ok,o.ok,k.cs,o.cs];refine dJ.mk (wB (H':=T) ?_) ⟨rfl,gV p (aE e (aT _) H.up) ?_⟩
  . simp only [cD,Go.aj.zB,Go.aj.wC,aw,ay]
  . show List.all [_,_,_,_,_,_] (y e.n 19)=true;simp only [aO,fR e.n 19 19 _ (aT _) ((fW _).aI 18)];rfl
 obtain ⟨_,_,⟨rfl,rfl⟩,A⟩:=this;exact A j
abbrev oj:=List (Bool×Nat×Nat×Nat)
def vv (kN jv rop j3 aJ:Y) (b:oj) (u:Sub):Bool:=b.all λa=>l7 kN jv rop j3 aJ ((dw u a.2.1).getD eb)==a.1
structure sz (ax:aa) (VT r:List aa) (O:Option Sub) (AA:oj) (rg:List aa):Prop where
  eq: ∃p nl n3 qT qU w n_ pc,r=j5 p nl n3 qT qU w/\F w (AA.map jf)/\rg=eX qU cM/\F qT n_/\F qU pc/\bo λad n=> ∀(PK:Bool) H,Tidy H-> ∃v,ka O v/\ ∀tm,az G (X G R ad n) 50 [ax,.A [[.V]] PK,.agg (eX qT cM),.agg VT] H tm= .ok v tm H
  aaJ: ∀u,O=some u->c7 u/\AN u/\ek 200000 (cj u 4 rg)
  Am:iB 4 rg
  c: ∀q∈AA,q.2.1<10
  P1:AA.length<=100
section
variable {ax:aa} {s:List aa} {kN jv rop j3 aJ:Y} (ag:dO ax s kN jv rop j3 aJ)
include ag
def pB (kN jv rop j3 aJ:Y) (P:Option Sub->oj->List aa->Prop) (v:aa):Prop:=v= .av [.agg eb,.int .i64 4]\/
 ∃d c b a e,P d c b/\d=some a/\c7 a/\vv kN jv rop j3 aJ c a=true/\om 60 (cj a 4 b)/\l_ (cj a 4 b) e/\v= .av [.agg e,.int .i64 0]
theorem Vn {aw:List aa} (b9:aN aw) (P:Option Sub->oj->List aa->Prop) (y:Y) (cD:y.length<1048560) (bZ: ∀r∈y,∃g e d,sz ax aw r g e d/\P g e d):bo λad n=> ∀x H,F x y->Tidy H->
  ∃v,pB kN jv rop j3 aJ P v/\ ∀tm,az G (X G R ad n) 28 [ax,x,.agg aw] H tm= .ok v tm H:=by
 obtain ⟨a8,cS,cw,cT,cU,cV⟩:=ag.val;obtain ⟨cp,bS⟩:=dE (l:=y) (Q:=λr ad n=> ∃g e d,P g e d/\(∃q C E i h u ai aj,r=j5 q C E i h u/\F u (e.map jf)/\d=eX h cM/\F i ai/\F h aj/\ ∀(S:Bool) H,Tidy H-> ∃v,ka g v/\ ∀tm,az G (X G R ad n) 50 [ax,.A [[.V]] S,.agg (eX i cM),.agg aw] H tm= .ok v tm H)/\
   ∀ a,g=some a->c7 a/\aN (cj a 4 d)/\(∀x H,F x (a.map cg)->Tidy H-> ∀tm,az G (X G R ad n) 51 [.agg d,x] H tm= .ok (.agg (cj a 4 d)) tm H)/\
     (∀aA x H,F aA (e.map jf)->F x (a.map cg)->Tidy H-> ∀tm,az G (X G R ad n) 52 [ax,aA,x] H tm= .ok (.bool (vv kN jv rop j3 aJ e a)) tm H)/\
     (∀H,Tidy H-> ∃ao,(ao=true->om 60 (cj a 4 d))/\ ∀tm,az G (X G R ad n) 49 [ax,.agg (cj a 4 d)] H tm= .ok (.bool ao) tm H)/\
     ∃B,l_ (cj a 4 d) B/\ ∀H tm,Tidy H->az G (X G R ad n) 53 [.agg (cj a 4 d)] H tm= .ok (.agg B) tm H) λr cb=>by
  obtain ⟨g,e,d,Z,ar⟩:=bZ r cb;obtain ⟨q,C,E,i,h,u,ai,aj,bm,b,br,aT,aU,I,bf⟩:=Z.eq
  cases ae:g with
  |none=>exact ⟨I,λad n bu bw=>⟨none,e,d,by rw [<-ae];exact ar,⟨q,C,E,i,h,u,ai,aj,bm,b,br,aT,aU,λS H b=>by rw [<-ae];exact bf ad n bu bw S H b⟩,λa T=>by cases T⟩⟩
  | some a=>
    obtain ⟨aZ,cv,a6⟩:=Z.aaJ a ae;obtain ⟨K,bN⟩:=Vm 4 al;obtain ⟨L,bO⟩:=Vs ag e Z.c Z.P1 aZ;obtain ⟨M,bP⟩:=(Jf ag a6.i0).gg;obtain ⟨B,b6,bz,bQ⟩:=Uk al a6;refine ⟨I+K+L+M+bz,λad n bu bw=>⟨some a,e,d,by rw [<-ae];exact ar,⟨q,C,E,i,h,u,ai,aj,bm,b,br,aT,aU,λS H b=>by rw [<-ae];exact bf ad n ab ab S H b⟩,λcR T=> ?_⟩⟩;cases T;exact ⟨aZ,a6.i0,λx H p b tm=>bN ad n ab ab d a x H Z.Am aZ cv p b tm,λaA x H cm p b tm=>bO ad n ab ab aA x H cm p b tm,λH b=>bP ad n ab ab H b,B,b6,λH tm b=>bQ ad n ab ab H tm b⟩
 refine ⟨cp+y.length+10,λad n cF cG x H p b=> ?_⟩;obtain ⟨n,rfl⟩:=bY n;have ca:=b9;obtain ⟨aW,aX,I,K,L,M,ba,bb,cK,cO,rfl,b0,b1⟩:=ca.t;refine hg (aL.at (m:=54) rfl rfl rfl rfl rfl (by simp only [aO,p.aD,cw];rfl) rfl rfl ?_);refine ak.bM (λtm o=>H=o/\aM 57 [(0,ax),(1,x),(5,.W 0 [.int .i64 aW,.int .i64 aX,.str I K,.str L M,ba,bb]),(6,.W 0 [.int .i64 0,.int .i64 0,.str 0 0,.str 0 0,.V,.V]),(7,.int .i64 0)] tm) ?_ ?_
 . simp only [go_sem,b0.J,b1.J];exact an.mk ⟨rfl,dC⟩
 rintro tm _ ⟨rfl,hF⟩;simp only [go_sem,hF,p.O,p.len];generalize bW:a1 _ _ _ _ _ _ _ _ _ _=aC;revert aC;refine dA [0,5,6,7,13] (λ_=>True) y.length trivial ?_ ?_
 rotate_left
 . rintro aY tm-hF;simp only [go_sem,hF];exact ak.mk (.inl rfl) rfl b (U.refl _)
 clear hF;rintro bt aY tm b8-hF;obtain ⟨r,bq⟩:=bA b8;have cd:=aV bq;obtain ⟨g,e,d,ar,⟨q,C,E,i,h,u,ai,aj,rfl,aS,rfl,aT,aU,bT⟩,bs⟩:=bS ad n ab ab r cd;obtain ⟨v,af,bd⟩:=bT true H b;obtain ⟨-,cJ,ck⟩:=af.aI 0;have cI:J cM=true:=rfl;have bn:=p.a_ (k:=7) bq rfl;have bp:F (.A [wH q i h] true) [wH q i h]:= .inr ⟨_,rfl⟩;have aR:=bp.vJ (k:=11) rfl rfl;have b3:=Gl (w:= .V) (r:= []) (.inl ⟨rfl,rfl⟩) H;have cH:J (if rp q then aa.str 0 0 else .str 1 105)=true:=by split<;>rfl
 simp only [j5,wH,eX] at bn aR bd bs bp;generalize (if rp q then aa.str 0 0 else .str 1 105)=bc at*;refine au.bM (λtm o=>H=o/\ ∃a7,aM 57 [(15,.int .i64 (bt:Nat)),(14,.int .i64 (y.length:Nat)),(0,ax),(5,.W 0 [.int .i64 aW,.int .i64 aX,.str I K,.str L M,ba,bb]),(6,.W 0 [.int .i64 0,.int .i64 0,.str 0 0,.str 0 0,.V,.V]),(7,.int .i64 0),(13,x),(9,.W a7 [.str C E,.A [[.str 1 107,bc,.int .i64 7,.int .i64 0,.str 0 0,.str 0 0,i,cM,.A [[.int .i64 7,.int .i64 0,.str 0 0,.str 0 0,h,cM]] true,.int .i64 0,.int .i64 0]] true,u,.V,.V,.int .i64 0,.int .i64 0])] tm) ?_ ?_
 . simp only [go_sem,hF,p.O,bn,aS.J];exact an.mk ⟨rfl,_,by simp only [go_sem,hF];trivial⟩
 clear hF;rintro tm _ ⟨rfl,a7,hF⟩;refine au.bF hF (λaB tm o=>H=o/\ ∃f:Nat,(iL v=some (.int .i64 (f:Nat))/\f<=1/\(f=0->g=none))/\aM 57 [(27,v),(28,.int .i64 (f:Nat)),(29,.int .i64 0)] tm/\aB tm) ?_ ?_
 . obtain ⟨f,aq,bg,bh⟩: ∃f:Nat,iL v=some (.int .i64 (f:Nat))/\f<=1/\(f=0->g=none):=by
    cases g with
    |none=>cases af;exact ⟨0,rfl,al,λ_=>rfl⟩
    |some a=>obtain ⟨z,aF,-,rfl⟩:=af;exact ⟨1,rfl,al,λag=>absurd ag al⟩
   have bL:D bR .V=true:=rfl;simp only [go_sem,hF,a8,b3,bL,bH,aR,bd,ck,aq];exact an.mk ⟨rfl,f,⟨aq,bg,bh⟩,ay⟩
 clear hF;rintro tm _ ⟨rfl,f,⟨aq,bg,bh⟩,hF⟩;simp only [go_sem];generalize bW:a1 _ _ _ _ _ _ _ _ _ _=aC;revert aC;refine dA [15,14,0,5,6,7,13,9,27] (λ_=>True) f trivial ?_ ?_
 rotate_left
 . rintro aY tm-hF;simp only [go_sem];exact au.next () rfl trivial ay
 clear hF;rintro cn aY tm cE-hF;obtain rfl:cn=0:=ab
 cases g with
 |none=>cases af;simp only [iL,N,aa.int.injEq,true_and] at aq;omega
 | some a=>
   obtain ⟨z,aF,ah,rfl⟩:=af;obtain ⟨ch,cl,aG,aH,aK,B,bl,aP⟩:=bs a rfl;have aG:=λtm=>aG z H ah.A b tm;have aH:=λtm=>aH u z H aS ah.A b tm;obtain ⟨ao,b2,aK⟩:=aK H b;have aP:=λtm=>aP H tm b;have bU:=λ(T:ao=true) (aQ:vv kN jv rop j3 aJ e a=true)=>(show pB kN jv rop j3 aJ P (.av [.agg B,.int .i64 0]) from .inr ⟨some a,e,_,a,B,ar,rfl,ch,aQ,b2 T,bl,rfl⟩);have b7:=bl.i0;generalize vv kN jv rop j3 aJ e a=cC at*;generalize cj a 4 _=cB at*;obtain ⟨cq,ct,bB,bC,bD,bE,cx,cz,cL,cP,rfl,b4,b5⟩:=cl.t;obtain ⟨cr,cu,bG,bI,bJ,bK,cy,cA,cN,cQ,rfl,bj,bk⟩:=b7.t;have bV:F (.A [[z]] aF) [[z]]:= .inr ⟨_,rfl⟩;have bX:=bV.a_ (k:=1) (j:=0) (r:= [z]) rfl rfl;have cc:F (.A [[.int .i64 7,.int .i64 0,.str 0 0,.str 0 0,h,cM]] true) [[.int .i64 7,.int .i64 0,.str 0 0,.str 0 0,h,cM]]:= .inr ⟨_,rfl⟩;have cf:=cc.vJ (k:=6) rfl rfl;refine au.bM (λtm o=>H=o/\aM 57 [(29,.int .i64 ((0:Nat):Int)),(28,.int .i64 (f:Nat)),(15,.int .i64 (bt:Nat)),(14,.int .i64 (y.length:Nat)),(0,ax),(5,.W 0 [.int .i64 aW,.int .i64 aX,.str I K,.str L M,ba,bb]),(6,.W 0 [.int .i64 0,.int .i64 0,.str 0 0,.str 0 0,.V,.V]),(7,.int .i64 0),(13,x),(9,.W a7 [.str C E,.A [[.str 1 107,bc,.int .i64 7,.int .i64 0,.str 0 0,.str 0 0,i,cM,.A [[.int .i64 7,.int .i64 0,.str 0 0,.str 0 0,h,cM]] true,.int .i64 0,.int .i64 0]] true,u,.V,.V,.int .i64 0,.int .i64 0]),(27,.A [[z]] aF),(11,z)] tm) ?_ ?_
   . simp only [go_sem,hF,bX,ah.A.O];exact an.mk ⟨rfl,ay⟩
   clear hF;rintro tm _ ⟨rfl,hF⟩;refine au.bF hF (λaB tm o=>H=o/\ ∃bx,aM 57 [(12,.W bx [.int .i64 cq,.int .i64 ct,.str bB bC,.str bD bE,cx,cz])] tm/\aB tm) ?_ ?_
   . simp only [go_sem,hF,aR,cf,ah.A.O,aG,b4.J,b5.J];exact an.mk ⟨rfl,_,by simp only [go_sem,hF];trivial⟩
   clear hF;rintro tm _ ⟨rfl,bx,hF⟩;simp only [go_sem,hF,a8,aS.O,ah.A.O,aH]
   iterate 2 all_goals try (refine au.aE ?_ ?_<;>intro aQ<;>try simp only [go_sem,hF,aQ,a8,aK,aP,bj.J,bk.J])
   all_goals first
    |exact au.next () rfl trivial ay
    |skip
   refine au.stop rfl ?_;simp only [go_sem];refine au.stop rfl ?_;simp only [go_sem,hF];refine ak.mk (bU (by assumption) (by assumption)) ?_ b (U.refl _);show ([aa.int .i64 cr,.int .i64 cu,.str bG bI,.str bJ bK,cy,cA].all (D 18)&&_)=true;simp only [aO,bj.aI 17,bk.aI 17];rfl
end
def BR {l m j:Nat} (f:T l m) (e:j<8):T (fe l) (gD l m j):=by
 unfold T at*;unfold fe gD;rw [yY,yY];have b:2^(8*l)=256^l:=by rw [vW]
 have c:2^(8*(l+1))=256*256^l:=by rw [vW,rL,rK]
 have d:256^(l+1+1)=65536*256^l:=by rw [rL,rL];omega
 rw [b,c,d];generalize 256^l=a at*;have:(48+(j+1))*(256*a)<=56*(256*a):=fU _ ab;omega
def ek.kids {B:Nat} {r:List aa} (a:ek B r):(f (M r 4)).length<=B/\ ∀x∈f (M r 4),ek B x:=by
 cases a with
 | @mk _ e m h k i l n o g q a j s d p=>
   obtain ⟨rfl,-,-,-,-,c,-⟩:=a;have b:f (M [.int .i64 e,.int .i64 m,.str h k,.str i l,n,o] 4)=g:=bm c;rw [b];exact ⟨j,d⟩
def ach (B):ek B eb:= .mk (ky:= []) (i:= []) ⟨rfl,by unfold T;decide,by unfold T;decide,al,al,.inl ⟨rfl,rfl⟩,.inl ⟨rfl,rfl⟩,al,al⟩ (fV _) (fV _) (λ_ a=>by cases a) (λ_ a=>by cases a)
def V9 {u:Sub} {a:Nat} {P:List aa->Prop} (c:P eb) (b: ∀p∈u,P p.2):P ((dw u a).getD eb):=by
 unfold dw
 cases d:u.find? λp=>p.1==a with
 |none=>exact c
 |some p=>exact b p (yS d)
def vg {u:Sub} (h:c7 u) {B:Nat} (k:B<1048560) (g: ∀p∈u,ek B p.2): ∀ {d r},d<1000->iB d r->ek (B+8*d) (cj u d r)
 |0,_,_,b=>b.elim
 | d +1,r,I,b=>by
   rcases b with ⟨E,F,G,rfl,o,J⟩|⟨K,z,L,O,x,y,V,W,m,j,b,q,N,w,n,l⟩
   . rw [BN h o];exact (V9 (P:=ek B) (ach B) g).mono ab
   . obtain ⟨rfl,C,U,A,S,t,v,Q,R⟩:=b;rw [BM u d z x y q t v];have s:(m.map (cj u d)++j.flatMap λa=>f (M (cj u d a) 4)).length<=B+8*(d+1):=by have:=nF (λa=>f (M (cj u d a) 4)) (B+8*d) j λa e=>(vg h k g ab (l a e)).kids.1;rw [bD,di];have H:j.length*(B+8*d)<=1*(B+8*d):=fU _ w;omega
     refine .mk (ky:=m.map (cj u d)++j.flatMap λa=>f (M (cj u d a) 4)) (i:= []) ⟨rfl,C,by unfold T;decide,A,al,fW _,.inl ⟨rfl,rfl⟩,ab,al⟩ s (fV _) (λD c=> ?_) (λ_ b=>by cases b);rcases cr.1 c with c|c
     . obtain ⟨a,e,rfl⟩:=cd.1 c;exact (vg h k g ab (n a e)).mono ab
     . obtain ⟨a,e,c⟩:=fC.1 c;exact ((vg h k g ab (l a e)).kids.2 D c).mono ab
def Fk {d a c e:Nat} (b:a<10) (f:T c e/\c<4611686018427387904):iB (d+1) (c_ a c e):= .inl ⟨a,c,e,rfl,b,pr f.1 f.2 b⟩
def Nt {d l m:Nat} {y:aa} {rows:Y} (b:T l m/\l<4611686018427387904) (e:F y rows) (c:rows.length<=8) (a: ∀r∈rows,iB d r):iB (d+1) (cm l m y):=
 .inr ⟨5,0,l,m,0,0,y,.V,rows,[],⟨rfl,b.1,by unfold T;decide,b.2,al,e,.inl ⟨rfl,rfl⟩,ab,al⟩,al,c,al,a,λ_ a=>by cases a⟩
def Nu {d:Nat} {y:aa} {rows:Y} (e:F y rows) (b:rows.length<=8) (a: ∀r∈rows,iB (d+1) r):iB (d+2) (eX y cM):=
 .inr ⟨7,0,0,0,0,0,y,cM,rows,[c_ 0 4 1953720652],⟨rfl,by unfold T;decide,by unfold T;decide,al,al,e,zH,ab,al⟩,al,b,al,a,λr c=>by rw [bs.1 c];exact Fk al rQ⟩
theorem Nj {args:Y} (e:b8 args) {i:Nat} (f:i<args.length): ∃a b,args[i]? =some [.str a b]/\(cp args)[i]? =some (c_ (i+2) a b)/\T a b/\a<4611686018427387904:=by obtain ⟨g,c⟩:=bA f;obtain ⟨a,b,rfl,d⟩:=e g (aV c);refine ⟨a,b,c,?_,d⟩;unfold cp;rw [yO,c];rfl
def abN {args:Y} (g:b8 args) (j:args.length<=8): ∀r∈cp args,∃i a b,i<args.length/\r=c_ (i+2) a b/\T a b/\a<4611686018427387904:=λr h=>by
 obtain ⟨i,c⟩:=jo h;have d:=(e6.1 c).1;rw [qP] at d;obtain ⟨a,b,-,e,f⟩:=Nj g d;rw [e] at c;cases c;exact ⟨i,a,b,d,rfl,f⟩
def wZ {args:Y} (a:b8 args) (b:args.length<=8) (d:Nat): ∀r∈cp args,iB (d+1) r:=λr c=>by
 obtain ⟨i,f,g,h,rfl,e⟩:=abN a b r c;exact Fk ab e
def nL (args st:Y) (a j:Nat):oj:=((st.take a).map λb=>(true,(hh args)[(j7 b-1).toNat]?.getD (0,0,0)))++ [(false,(hh args)[j]?.getD (0,0,0))]
def Nq {args:Y} (d:b8 args) {i:Nat} (e:i<args.length): ∃a b,args[i]? =some [.str a b]/\(hh args)[i]? =some (i+2,a,b):=by
 obtain ⟨f,c⟩:=bA e;obtain ⟨a,b,rfl,g⟩:=d f (aV c);exact ⟨a,b,c,by unfold hh;rw [yO,c];rfl⟩
theorem M6 {args:Y} (d:b8 args) {i:Int} (k:1<=i) (l:i<=args.length): ∃a b,(hh args)[(i-1).toNat]? =some ((i-1).toNat+2,a,b)/\jA args i=c_ ((i-1).toNat+2) a b:=by obtain ⟨a,b,e,f⟩:=Nq d (i:=(i-1).toNat) ab;obtain ⟨h,j,c,g,-⟩:=Nj d (i:=(i-1).toNat) ab;rw [e] at c;cases c;refine ⟨a,b,f,?_⟩;unfold jA;rw [g];rfl
theorem Sy {args st:Y} (c:b8 args) {d j:Nat} (m: ∀q∈st,∃i:Int,q= [.int .i64 i]/\1<=i/\i<=args.length) (n:j<args.length):(nL args st d j).map jf=lQ args st d j:=by
 unfold nL lQ;rw [vR,tB];congr 1
 . refine vS λq l=> ?_;obtain ⟨i,rfl,h,k⟩:=m q (hQ l);obtain ⟨e,f,a,b⟩:=M6 c h k;show jf (true,(hh args)[(i-1).toNat]?.getD (0,0,0))=fb (jA args i);rw [a,b];rfl
 . obtain ⟨e,f,a,b⟩:=M6 c (i:=((j+1:Nat):Int)) ab ab;have g:(((j+1:Nat):Int)-1).toNat=j:=ab;rw [g] at a b;rw [b,a];rfl
def Sx {args st:Y} (e:b8 args) (l:args.length<=8) {g j:Nat} (k:j<args.length): ∀q∈nL args st g j,q.2.1<10:=λq a=>by
 have c: ∀b:Nat,((hh args)[b]?.getD (0,0,0)).1<10:=λb=>by
  by_cases f:b<args.length
  . obtain ⟨h,i,-,d⟩:=Nq e f;rw [d];show b+2<10;omega
  . have:(hh args)[b]? =none:=List.getElem?_eq_none_iff.2 (by unfold hh;rw [C2];omega);rw [this];decide
 unfold nL at a;rcases cr.1 a with a|a
 . obtain ⟨m,-,rfl⟩:=cd.1 a;exact c _
 . rw [bs.1 a];exact c j
def Cc (l m:Nat) (args:Y) (j:Nat):List aa:=eX (.A [jA args ((j+1:Nat):Int),cm (fe l) (gD l m j) (.A ((cp args).eraseIdx j) false)] true) cM
def NG {y:aa} {rows:Y} (c:F y rows) (b: ∀r∈rows,aN r) (a:rows.length<4611686018427387904):aN (eX y cM):=
 .mk (ky:=rows) (i:= [c_ 0 4 1953720652]) ⟨rfl,by unfold T;decide,by unfold T;decide,al,al,c,zH,a,al⟩ b λr ag=>by rw [bs.1 ag];exact pr rQ.1 rQ.2 al
def NF {l m:Nat} {y:aa} {rows:Y} (a:T l m/\l<4611686018427387904) (d:F y rows) (c: ∀r∈rows,aN r) (b:rows.length<4611686018427387904):aN (cm l m y):=
 .mk (ky:=rows) (i:= []) ⟨rfl,a.1,by unfold T;decide,a.2,al,d,.inl ⟨rfl,rfl⟩,b,al⟩ c λ_ ag=>by cases ag
def Mf {kN jv rop j3:Y} {a c d:Nat} {t:List aa} {u f:Sub} {P:List aa->Prop} (ag: ∀p∈u,P p.2) (g:P t) (e:fx kN jv rop j3 a c d t u=some f): ∀p∈f,P p.2:=λp b=>by
 unfold fx at e;split at e
 . cases e;unfold gj at b;rcases cr.1 b with b|b
   . exact ag p (hQ b)
   . rcases b2.1 b with rfl|b
     . exact g
     . exact ag p (List.mem_of_mem_drop b)
 . cases e
def Lj {B:Nat} {y:aa} {rows:Y} (b:F y rows) (c:B<1048560) (d:rows.length<=B) (a: ∀r∈rows,ek B r) (n:Nat):ek B (j2 y n):=
 .mk (ky:=rows.drop n) (i:= []) ⟨rfl,by unfold T;decide,by unfold T;decide,al,al,BB b n,.inl ⟨rfl,rfl⟩,by rw [oW];omega,al⟩ (by rw [oW];omega) (fV _) (λr ag=>a r (List.mem_of_mem_drop ag)) (λ_ ag=>by cases ag)
def Mb {kN jv rop j3:Y} {l m:Nat} {L:gS} (c:jG L) {t:List aa} {u b:Sub} {P:List aa->Prop} (g: ∀p∈u,∀q∈L,p.1<q.1) (ag: ∀p∈u,P p.2) (d: ∀x∈f (M t 4),P x) (e:ly kN jv rop j3 l m L t u=some b): ∀p∈b,P p.2:=λp a=>by
 obtain ⟨k,n,o,r,i,rfl,j,rfl⟩:=zW c g e;rcases cr.1 a with a|a
 . exact ag p a
 . unfold k2 at a;obtain ⟨i,h,rfl⟩:=cd.1 a;exact d _ (C5 h).2
section
variable {kN jv rop j3:Y}
theorem Md {B:Nat} (T:B<1048560) {l m:Nat} {L:gS} (h:jG L) {t:List aa} (D:ek B t) {u:Sub} (e:sd kN jv rop j3 l m L t []=some u):
  c7 u/\(∀p∈u,ek B p.2)/\ ∃k n w y z q rest,t= [.int k 7,n,.str 0 0,w,y,z]/\f y=q::rest/\(∃o r w' d v,q= [.int o 5,r,.str l m,w',d,v]/\L.length=(f d).length/\u=(0,j2 y 1)::k2 L (f d)):=by
 have W:=D;obtain ⟨X,F,ah,ai,K,N,I,J,H,ar,E,ak,an⟩:=D.i0.ea;have ao:=E.zm;obtain ⟨rfl,g,aq⟩:=E.c;obtain ⟨x,i⟩:=W.kids;have S:f (M [.int .i64 X,.int .i64 F,.str ah ai,.str K N,I,J] 4)=H:=bm g;rw [S] at x i;simp only [sd,bm g] at e;split at e
 . rename_i U;obtain ⟨rfl,rfl,rfl⟩:=U
   cases H with
   |nil=>cases e
   | cons q af=>
     simp only at e
     cases b:ly kN jv rop j3 l m L q [] with
     |none=>rw [b] at e;cases e
     | some aj=>
       rw [b] at e;simp only [nT] at e;have A:=i q (dF ..);have j: ∀p∈([]:Sub),∀q∈L,p.1<q.1:=λ_ ag=>by cases ag
       obtain ⟨Z,ab⟩:=zX (u:= []) h A.i0 wP j b;have G: ∀p∈aj,0<p.1:=λp V=>by
        rcases ab p V with ag|ag
        . cases ag
        . omega
       have C:=Lj g T x i 1;obtain ⟨ad,ae⟩:=se (a:=0) al C.i0 Z (s7 G) e;have Y:=Mb (P:=ek B) h j (λ_ ag=>by cases ag) A.kids.2 b;refine ⟨ad,Mf Y C e,.i64,.int .i64 F,.str K N,I,J,q,af,rfl,bm g,?_⟩;obtain ⟨o,r,w',d,v,O,Q,R⟩:=zW h j b;refine ⟨o,r,w',d,v,O,Q,?_⟩;rw [ae,IQ G,R];rfl
 . cases e
end
def SB {l m:Nat} {args:Y} (g:T l m/\l<1000) (c:b8 args) (b:args.length<=8) {j:Nat} (h:j<args.length):iB 4 (Cc l m args j):=by
 have i:(cp args).length<=8:=by rw [qP];exact b
 have f:jA args ((j+1:Nat):Int)∈cp args:=M5 ab ab;have e:T (fe l) (gD l m j)/\fe l<4611686018427387904:=⟨BR g.1 ab,by unfold fe;omega⟩;exact Nu (.inr ⟨_,rfl⟩) ai λd a=>by
  simp only [b2,dG,or_false] at a;rcases a with rfl|rfl
  . exact wZ c b 2 _ f
  . exact Nt e (.inr ⟨_,rfl⟩) (by have:=List.length_eraseIdx_le (cp args) j;omega) λd a=>wZ c b 1 d (tC a)
section
variable {ax:aa} {s:List aa} {kN jv rop j3 aJ:Y} (ag:dO ax s kN jv rop j3 aJ)
include ag
theorem Zi {p:Y} {h:List aa} {B:Nat} (H:B<=100000) (e:ek B h) {l m:Nat} {args st:Y} (o:T l m/\l<1000) (b:b8 args) (a:args.length<=8) (D: ∀q∈st,∃i:Int,q= [.int .i64 i]/\1<=i/\i<=args.length) (I:st.length<=8) {g j:Nat} (d:j<args.length):
  sz ax h (gX p l m args st g j) (sd kN jv rop j3 l m (hh args) h []) (nL args st g j) (Cc l m args j):=by
 obtain ⟨k,x⟩:=Al b a;have r:T l m/\l<4611686018427387904:=⟨o.1,ab⟩;have C:F (dk (cp args)) (gv (hh args)):=by rw [x];exact fW _
 have E: ∀c∈cp args,aN c:=λc f=>(wZ b a 0 c f).i0;have J:(cp args).length<=8:=by rw [qP];exact a
 have y:aN (eX (.A [cm l m (dk (cp args))] true) cM):=NG (.inr ⟨_,rfl⟩) (λc f=>by rw [bs.1 f];exact NF r (fW _) E ab) ai;have w:=I3 ag y e.i0 (QR ag k r C e.i0);have n:=SB o b a d;refine ⟨⟨p,_,_,_,_,dk (lQ args st g j),_,_,rfl,by rw [Sy b D d];exact fW _,rfl,.inr ⟨_,rfl⟩,.inr ⟨_,rfl⟩,w⟩,λK v=> ?_,n,Sx b a d,?_⟩
 . obtain ⟨t,u,-⟩:=Md ab k e v;exact ⟨t,λG z=>by have:=(u G z).kids.1;omega,(vg t ab u al n).mono ab⟩
 . unfold nL;rw [bD,di,h6,yQ];omega
end
def NT (p rop u kN jv j3 aJ:Y) (v:aa):Prop:= ∃k e a c b f h l i j m n o g,v= .av [.agg [k,e,a,c,b,f,h,l,i,j,m,n,o],.int .i64 g]/\
 (∀q∈ [k,e,a,c,b,f,h,l,i,j,m,n,o],J q=true/\D 18 q=true)/\(g=0->gf kN jv rop j3 aJ/\lD p rop u/\F e kN/\F a jv/\F c (eZ rop)/\F b (j3.map ct)/\F f aJ)
structure oA (kN jv rop j3 aJ req p aU u:Y):Prop where
  Ii:kN.length+jv.length+rop.length+j3.length+aJ.length<800000
  cP: ∀r∈j3,nk r
  t: ∃N,bL (eE req p aU u) N/\N<50000
def En {r} (c:c6 r):c6 (il r)/\ ∃l m args ls ms st a p i j,fB r l m args ls ms st/\il r= [.str l m,a,.str ls ms,p,.int .i64 i,.int .i64 j,.V]:=by
 obtain ⟨-,l,m,args,ls,ms,st,a,p,t,i,j,b,f,g,q,o,h,k,n⟩:=Kw c;have e:il r= [.str l m,a,.str ls ms,p,.int .i64 i,.int .i64 j,.V]:=by unfold il;rw [f];rfl
 refine ⟨⟨l,m,args,ls,ms,[],⟨⟨a,p,.V,i,j,e,g,.inl ⟨rfl,rfl⟩,o,h,k,n⟩,b.c5,b.pw,b.s1,b.s2,b.hS,b.zk,λ_ c=>(by cases c),al⟩⟩,l,m,args,ls,ms,st,a,p,i,j,b,e⟩
def XD {r} (f:c6 r):c6 (ct r):=by
 obtain ⟨-,n,q,c,o,t,y,b,v,x,l,m,a,e,g,k,w,h,i,j⟩:=Kw f;exact ⟨n,q,c,o,t,y,⟨⟨b,v,x,l,m,e,g,k,w,h,i,j⟩,a.c5,a.pw,a.s1,a.s2,a.hS,a.zk,a.rs,a.rS⟩⟩
def LD {p rop j3 u:Y} (I: ∀r∈rop,c6 r) (K:nm rop j3) (F:lD p rop u) {b c:Bool} {v:List aa} (a:v∈kO p b c rop):
    ∃ r∈rop,∃l m args ls ms st e j,fB r l m args ls ms st/\st[e]? =some [.int .i64 ((j+1:Nat):Int)]/\j<args.length/\args.length<=8/\(∀q∈st,∃i:Int,q= [.int .i64 i]/\1<=i/\i<=args.length)/\st.length<=8/\l<1000/\
      ((b=true/\v=gX p l m args st e j)\/(c=true/\v=kl p l m args j)):=by
 obtain ⟨r,t,a⟩:=fC.1 a;obtain ⟨e,w,a⟩:=fC.1 a;obtain ⟨l,m,args,ls,ms,st,x⟩:=I r t;obtain ⟨D,A,E⟩:=K.st t x;have H:=x;obtain ⟨g,k,o,n,ac,rfl,B,J,Q,N,-⟩:=H.eq;have h:f (M [.str l m,g,.str ls ms,k,.int .i64 n,.int .i64 ac,o] 6)=st:=bm J;rw [h,h9] at w;obtain ⟨q,y⟩:=bA w;obtain ⟨i,rfl,O,P⟩:=A q (aV y);have z:iR [.str l m,g,.str ls ms,k,.int .i64 n,.int .i64 ac,o] e=i.toNat-1:=by unfold iR;rw [h,y];rfl
 have C:i=((i.toNat-1+1:Nat):Int):=ab;have G:l<1000:=by have:=F.n3 (gX p l m args st e (i.toNat-1)) (fC.2 ⟨_,t,fC.2 ⟨e,by rw [h];exact h9.2 w,by show _∈(if true then [gX p l m (f g) (f (M _ 6)) e (iR _ e)] else [])++_;rw [h,z,bm B];simp⟩⟩);have L:l+6+1<=40:=this;omega
 refine ⟨_,t,l,m,args,ls,ms,st,e,i.toNat-1,x,by rw [y,<-C],ab,D,A,E,G,?_⟩;have a:v∈(if b then [gX p l m (f g) (f (M [.str l m,g,.str ls ms,k,.int .i64 n,.int .i64 ac,o] 6)) e (iR [.str l m,g,.str ls ms,k,.int .i64 n,.int .i64 ac,o] e)] else [])++(if c then [kl p l m (f g) (iR [.str l m,g,.str ls ms,k,.int .i64 n,.int .i64 ac,o] e)] else []):=a;rw [h,z,bm B] at a;rcases cr.1 a with a|a
 . cases b with
   |false=>cases a
   |true=>exact .inl ⟨rfl,bs.1 a⟩
 . cases c with
   |false=>cases a
   |true=>exact .inr ⟨rfl,bs.1 a⟩
section
variable {d s:List aa} {kN jv rop j3 aJ req p aU u:Y} (aX:fz d s kN jv rop j3 aJ req p aU u) (nO:oA kN jv rop j3 aJ req p aU u)
include aX
theorem abR (nO:oA kN jv rop j3 aJ req p aU u) (D:gf kN jv rop j3 aJ) (J:lD p rop u) {so be op cP bJ:aa} (N:F so kN) (O:F be jv) (P:F op (eZ rop)) (Q:F cP (j3.map ct)) (R:F bJ aJ):oz [so,be,op,cP,bJ] kN jv (eZ rop) (j3.map ct) aJ:=by
 refine ⟨⟨so,be,op,cP,bJ,rfl,N,O,P,Q,R⟩,aX.bT.so,aX.bT.be,λx a=> ?_,λx a=> ?_,aX.bT.bJ,?_⟩
 . rcases cr.1 a with a|a
   . obtain ⟨m,e,rfl⟩:=cd.1 a;exact (En (aX.bT.op m e)).1
   . obtain ⟨m,e,a⟩:=fC.1 a;obtain ⟨g,r,rfl⟩:=cd.1 a;obtain ⟨b,c,n,j,k,E,h⟩:=aX.bT.op m e;obtain ⟨H,A,I⟩:=D.v.st e h;have K:=h;obtain ⟨l,t,y,w,ac,rfl,B,L,Z,W,-⟩:=K.eq;have o:f (M [.str b c,l,.str j k,t,.int .i64 w,.int .i64 ac,y] 6)=E:=bm L;rw [o,h9] at r;obtain ⟨S,C⟩:=bA r;obtain ⟨i,rfl,X,Y⟩:=A S (aV C);have z:iR [.str b c,l,.str j k,t,.int .i64 w,.int .i64 ac,y] g=i.toNat-1:=by unfold iR;rw [o,C];rfl
     have V:b<1000:=by have:=J.n3 (gX p b c n E g (i.toNat-1)) (fC.2 ⟨_,e,fC.2 ⟨g,by rw [o];exact h9.2 r,by show _∈(if true then [gX p b c (f l) (f (M _ 6)) g (iR _ g)] else [])++_;rw [o,z,bm B];simp⟩⟩);have q:b+6+1<=40:=this;omega
     have G:oM [.str b c,l,.str j k,t,.int .i64 w,.int .i64 ac,y] g=ko b c n j k (i.toNat-1):=by show ko b c (f l) j k (iR _ g)=_;rw [bm B,z]
     rw [G];have U:=List.length_eraseIdx_le n (i.toNat-1);exact ⟨fe b,gD b c (i.toNat-1),n.eraseIdx (i.toNat-1),j,k,[],⟨⟨_,_,_,_,_,rfl,.inr ⟨_,rfl⟩,.inl ⟨rfl,rfl⟩,[],.inl ⟨rfl,rfl⟩,al,λ_ q=>by cases q⟩,BR h.c5 ab,h.pw,by unfold fe;omega,h.s2,λx a=>h.hS x (tC a),ab,λ_ q=>(by cases q),al⟩⟩
 . obtain ⟨m,e,rfl⟩:=cd.1 a;exact XD (aX.bT.cP m e)
 . have H:=nO.Ii;have A:=HQ aX D.v;have I:(eZ rop).length=rop.length+(oN rop).length:=by unfold eZ;rw [bD,di]
   have T:(j3.map ct).length=j3.length:=di ..
   omega
include nO
theorem U5:dt 9 [.agg d] (NT p rop u kN jv j3 aJ) bQ:=by
 obtain ⟨aI,hT,K⟩:=nO.t;obtain ⟨aq,H⟩:=(U3 aX hT K).gg;obtain ⟨ar,I⟩:bo λf g=>gf kN jv rop j3 aJ-> ∀b,Tidy b-> ∃E,xe p rop u kN jv j3 aJ E/\ ∀ad,az G (X G R f g) 26 [.agg d] b ad= .ok E ad b:=by
  by_cases M:gf kN jv rop j3 aJ
  . obtain ⟨ao,al⟩:=(UT aX M.v nO.Ii nO.cP hT K).val;exact ⟨ao,λf g ae i _ b e=>al f g ae i b e⟩
  . exact ⟨0,λ_ _ _ _ h=>absurd h M⟩
 have aj:=aX.eq;obtain ⟨aZ,aN,a1,aR,aY,a8,bc,bf,rfl,⟨bn,bs,rfl,bh,aT⟩,O,S,⟨bm,br,rfl,bg,aS⟩,Q,W,⟨bp,bt,rfl,bj,aV⟩,⟨bq,bu,rfl,bk,aW⟩⟩:=aj;obtain ⟨bb,aK,a7,aO,bd,rfl,Y,N,T,P,Z⟩:=aX.bT.eq;simp only [bl,a6] at H I|-;refine aL.run (m:=11) rfl rfl rfl rfl rfl rfl rfl rfl (aq+ar) λf g aP aQ b e=> ?_;obtain ⟨i,L,F⟩:=H f g ab ab b e;have an: ∀a∈([.str 0 0,.V,.V,.V,.V,.V,.V,.V,.str 0 0,.V,.V,.str 0 0,.str 0 0]:List aa),J a=true/\D 18 a=true:=λa c=>by simp only [b2,dG,or_false] at c;rcases c with rfl|rfl|rfl|rfl|rfl|rfl|rfl|rfl|rfl|rfl|rfl|rfl|rfl<;>exact ⟨rfl,rfl⟩
 cases i with
 | false=>
   simp only [go_sem,Y.J,N.J,T.J,P.J,Z.J,O.J,S.J,Q.J,W.J,F];exact ak.mk ⟨_,_,_,_,_,_,_,_,_,_,_,_,_,2,rfl,an,λh=>by cases h⟩ rfl e (U.refl _)
 | true=>
   obtain ⟨E,⟨j,k,q,r,w,x,y,z,A,B,l,n,o,af,rfl,C,ah⟩,ag⟩:=I f g ab ab (L rfl) b e;have ok:=λa c=>(C a c).1;have aM:=λa c=>rU (ok a c);have au:=ok j ai;have av:=ok k ai;have aA:=ok q ai;have aB:=ok r ai;have aC:=ok w ai;have aD:=ok x ai;have aE:=ok y ai;have aF:=ok z ai;have aG:=ok A ai;have aH:=ok B ai;have aw:=ok l ai;have ax:=ok n ai;have ay:=ok o ai;simp only [go_sem,Y.J,N.J,T.J,P.J,Z.J,O.J,S.J,Q.J,W.J,F,ag,au,av,aA,aB,aC,aD,aE,aF,aG,aH,aw,ax,ay];refine ak.mk ⟨j,k,q,r,w,x,y,z,A,B,l,n,o,af,rfl,C,λh=>⟨L rfl,ah h⟩⟩ ?_ e (U.refl _);show ([j,k,q,r,w,x,y,z,A,B,l,n,o].all (D 18)&&_)=true;rw [ba.2 λa c=>(C a c).2];rfl
end
def EP (f g h i j:Y):Y:=(oF f).flatMap λa=>(oF g).flatMap λb=>(oF h).flatMap λc=>(oF i).flatMap λd=>(oF j).map λe=> [a,b,c,d,e]
def ZB {f g h i j:Y} {a b c d e:aa} (k:F a f) (l:F b g) (m:F c h) (n:F d i) (o:F e j): [a,b,c,d,e]∈EP f g h i j:=
 fC.2 ⟨a,sO k,fC.2 ⟨b,sO l,fC.2 ⟨c,sO m,fC.2 ⟨d,sO n,cd.2 ⟨e,sO o,rfl⟩⟩⟩⟩⟩
def xv (a b c e f:Y):List aa:=(EP a b c e f).flatMap λs=>uV s a b c e
def pI (rop kN jv j3 aJ:Y) (ax:aa):Prop:= ∃s,dO ax s kN jv (eZ rop) (j3.map ct) aJ
def Av (p rop u kN jv j3 aJ:Y) (c:List aa) (v:aa):Prop:=(∃a,v= .av [a,.int .i64 0]/\pI rop kN jv j3 aJ a/\a∈xv kN jv (eZ rop) (j3.map ct) aJ/\gf kN jv rop j3 aJ/\lD p rop u/\om 60 c)\/ ∃b,b≠0/\v= .av [.dz,.int .i64 b]
section
variable {d s:List aa} {kN jv rop j3 aJ req p aU u:Y} (aX:fz d s kN jv rop j3 aJ req p aU u) (nO:oA kN jv rop j3 aJ req p aU u)
include aX nO
theorem Va {n:List aa} (j:aN n):dt 27 [.agg d,.agg n] (Av p rop u kN jv j3 aJ n) bQ:=by
 obtain ⟨bs,aA⟩:=(U5 aX nO).val;obtain ⟨bt,aT⟩:=dE (l:=EP kN jv (eZ rop) (j3.map ct) aJ) (Q:=λs e f=>oz s kN jv (eZ rop) (j3.map ct) aJ-> ∀a,Tidy a-> ∃c,(dO c s kN jv (eZ rop) (j3.map ct) aJ/\c∈uV s kN jv (eZ rop) (j3.map ct))/\ ∀b,az G (X G R e f) 48 [.agg s] a b= .ok c b a) λs _=>by
  by_cases r:oz s kN jv (eZ rop) (j3.map ct) aJ
  . obtain ⟨K,j⟩:=(Dw r).val;exact ⟨K,λe f B i _ a g=>j e f B i a g⟩
  . exact ⟨0,λ_ _ _ _ H=>absurd H r⟩
 obtain ⟨bu,aV⟩:=dE (l:=xv kN jv (eZ rop) (j3.map ct) aJ) (Q:=λc e f=>pI rop kN jv j3 aJ c-> ∀a,Tidy a-> ∃i,(i=true->om 60 n)/\ ∀b,az G (X G R e f) 49 [c,.agg n] a b= .ok (.bool i) b a) λc _=>by
  by_cases o:pI rop kN jv j3 aJ c
  . obtain ⟨cc,bc⟩:=id o;obtain ⟨K,j⟩:=(Jf bc j).gg;exact ⟨K,λe f B i _ a g=>j e f B i a g⟩
  . exact ⟨0,λ_ _ _ _ H=>absurd H o⟩
 have bf:=λ(r:gf kN jv rop j3 aJ) (ba:lD p rop u) {O C L E P:aa} (v:F O kN) (w:F C jv) (x:F L (eZ rop)) (y:F E (j3.map ct)) (z:F P aJ)=>abR aX nO r ba v w x y z;have a7:=aX.eq;obtain ⟨cb,aP,bx,b4,bw,bO,cd,ck,rfl,⟨bV,bZ,rfl,cm,b8⟩,bj,bn,⟨bU,bY,rfl,cl,b7⟩,bm,bp,⟨bW,b0,rfl,cn,b9⟩,⟨bX,b1,rfl,cp,ca⟩⟩:=a7;obtain ⟨O,C,L,E,P,rfl,bq,bh,bo,bk,br⟩:=aX.bT.eq;simp only [bl,a6] at aA|-;have a8:=j;obtain ⟨aG,aH,S,T,V,Y,aK,aO,b5,b6,rfl,aW,aY⟩:=a8.t;refine aL.run (m:=28) rfl rfl rfl rfl rfl rfl rfl rfl (bs+bt+bu) λe f b2 b3 a g=> ?_;obtain ⟨cf,⟨Z,ad,ah,aj,ao,aq,ar,au,aw,ax,ae,af,ag,k,rfl,bb,a1⟩,aQ⟩:=aA e f ab ab a g;have ok:=λbS bg=>(bb bS bg).1;have bz:=ok Z ai;have bA:=ok ad ai;have bE:=ok ah ai;have bG:=ok aj ai;have bH:=ok ao ai;have bI:=ok aq ai;have bJ:=ok ar ai;have bK:=ok au ai;have bL:=ok aw ai;have bN:=ok ax ai;have bB:=ok ae ai;have bC:=ok af ai;have bD:=ok ag ai;refine ak.bM (λb h=>a=h/\aM 30 [(2,.W 0 [.str bV bZ,O,C,L,E,P,aP,bx,.str bU bY,bw,bO,.str bW b0,.str bX b1]),(3,.W 0 [.int .i64 aG,.int .i64 aH,.str S T,.str V Y,aK,aO]),(6,.av [])] b) ?_ ?_
 . simp -implicitDefEqProofs only [go_sem,bq.J,bh.J,bo.J,bk.J,br.J,bj.J,bn.J,bm.J,bp.J,aW.J,aY.J];exact an.mk ⟨rfl,w0⟩
 rintro b _ ⟨rfl,hF⟩;refine ak.bM (λb h=>a=h/\aM 30 [(3,.W 0 [.int .i64 aG,.int .i64 aH,.str S T,.str V Y,aK,aO]),(6,.W 0 [Z,ad,ah,aj,ao,aq,ar,au,aw,ax,ae,af,ag]),(7,.int .i64 k)] b) ?_ ?_
 . simp -implicitDefEqProofs only [go_sem,hF,aQ,bz,bA,bE,bG,bH,bI,bJ,bK,bL,bN,bB,bC,bD];exact an.mk ⟨rfl,dm⟩
 clear hF;rintro b _ ⟨rfl,hF⟩;by_cases q:k=0
 rotate_left
 . have N:(k !=0)=true:=by simpa using q
   simp -implicitDefEqProofs only [go_sem,hF,N];exact ak.mk (.inr ⟨k,q,rfl⟩) rfl g (U.refl _)
 have N:(k !=0)=false:=by simpa using q
 obtain ⟨aC,aB,v,w,x,y,z⟩:=a1 q;have bd:=bf aC aB v w x y z;have aF:=ZB v w x y z;obtain ⟨c,⟨I,aZ⟩,aR⟩:=aT e f ab ab _ aF bd a g;have aD:c∈xv kN jv (eZ rop) (j3.map ct) aJ:=fC.2 ⟨_,aF,aZ⟩;obtain ⟨i,o,aS⟩:=aV e f ab ab c aD ⟨_,I⟩ a g;obtain ⟨aI,cg,bP,ch,cj,bR⟩:=I.val;refine ak.bF hF (λA b h=>a=h/\A b) ?_ ?_
 . simp -implicitDefEqProofs only [go_sem,hF,N];exact an.mk ⟨rfl,dm⟩
 clear hF;rintro b _ ⟨rfl,hF⟩;refine ak.kp [3] (λA b h=>a=h/\M b 8=c/\A b) ?_ ?_
 . simp -implicitDefEqProofs only [go_sem,hF,aR,aI];exact an.mk ⟨rfl,dm⟩
 clear hF;rintro b _ ⟨rfl,hF⟩;simp -implicitDefEqProofs only [go_sem,hF]
 iterate 2 all_goals try (refine ak.aE ?_ ?_<;>intro ay<;>try simp -implicitDefEqProofs only [go_sem,hF,ay,aI,bP,aS])
 all_goals first
  |exact ak.mk (.inr ⟨2,al,rfl⟩) rfl g (U.refl _)
  |exact ak.mk (.inl ⟨c,rfl,⟨_,I⟩,aD,aC,aB,o (by simpa using ay)⟩) (by show (D 19 c&&_)=true;rw [bR 18];rfl) g (U.refl _)
end
structure FL (rop:Y) (r:List aa) (l m:Nat) (args:Y) (ls ms:Nat) (st:Y) (rN j:Nat):Prop where
  mem:r∈rop
  Ef:fB r l m args ls ms st
  dp:st[rN]? =some [.int .i64 ((j+1:Nat):Int)]
  gE:j<args.length
  FX:args.length<=8
  bB: ∀q∈st,∃i:Int,q= [.int .i64 i]/\1<=i/\i<=args.length
  ag7:st.length<=8
  cQ:l<1000
section
variable (rop kN jv j3:Y) (ig:List aa)
def FK (i:Option Sub) (h:oj) (m:List aa):Prop:= ∃l c e a j k g f b,FL rop l c e a j k g f b/\i=sd kN jv (eZ rop) (j3.map ct) c e (hh a) ig []/\h=nL a g f b/\m=Cc c e a b
end
def pB.i0 {kN jv rop j3 aJ:Y} {P:Option Sub->oj->List aa->Prop} {v:aa} (a:pB kN jv rop j3 aJ P v): ∃t e,v= .av [.agg t,.int .i64 e]/\aN t:=by
 rcases a with rfl|⟨_,_,_,_,c,_,_,_,_,_,b,rfl⟩
 . exact ⟨_,_,rfl,w7⟩
 . exact ⟨_,_,rfl,b.i0⟩
section
variable {d s:List aa} {kN jv rop j3 aJ req p aU u:Y} (aX:fz d s kN jv rop j3 aJ req p aU u)
include aX
theorem Zg {ax:aa} (q:pI rop kN jv j3 aJ ax) (o:gf kN jv rop j3 aJ) (n:lD p rop u) {ig:List aa} {B:Nat} (m:B<=100000) (w:ek B ig): ∀r∈kO p true false rop,∃c b j,sz ax ig r c b j/\FK rop kN jv j3 ig c b j:=λJ z=>by
 obtain ⟨r,y,D,F,k,E,G,I,C,A,a,H,e,f,g,h,i,x⟩:=LD aX.bT.op o.v n z;rcases x with ⟨-,rfl⟩|⟨l,-⟩
 . obtain ⟨K,t⟩:=q;exact ⟨_,_,_,Zi t m w ⟨a.c5,i⟩ a.hS f g h e,r,D,F,k,E,G,I,C,A,⟨y,a,H,e,f,g,h,i⟩,rfl,rfl,rfl⟩
 . cases l
theorem Jb {ig:List aa} {B:Nat} (g:ek B ig) {P:Option Sub->oj->List aa->Prop} {f:Nat} {b:Bool} (o:f=if b then 10 else 14) (aP: ∀ax,pI rop kN jv j3 aJ ax->gf kN jv rop j3 aJ->lD p rop u-> ∀r∈kO p b (!b) rop,∃I E an,sz ax ig r I E an/\P I E an):bo λad n=> ∀j H,Tidy H->Av p rop u kN jv j3 aJ ig j->(∀tm,az G (X G R ad n) 27 [.agg d,.agg ig] H tm= .ok j tm H)->
  (∃c,c≠0/\j= .av [.dz,.int .i64 c]/\ ∀tm,az G (X G R ad (n+1)) f [.agg d,.agg ig] H tm= .ok (.av [.agg eb,.int .i64 c]) tm H)\/
  (∃ax,j= .av [ax,.int .i64 0]/\ ∃v,pB kN jv (eZ rop) (j3.map ct) aJ P v/\ ∀tm,az G (X G R ad (n+1)) f [.agg d,.agg ig] H tm= .ok v tm H):=by
 obtain ⟨aG,k⟩:bo λad n=>gf kN jv rop j3 aJ-> ∀H,Tidy H-> ∃v,F v (kO p b (!b) rop)/\ ∀tm,az G (X G R ad n) 29 [.agg d,.bool b,.bool !b] H tm= .ok v tm H:=by
  by_cases W:gf kN jv rop j3 aJ
  . obtain ⟨C,g⟩:=Jx aX W.v;exact ⟨C,λad n w b _ H e=>g ad n w b _ _ H e⟩
  . exact ⟨0,λ_ _ _ _ ay=>absurd ay W⟩
 obtain ⟨aH,x⟩:=dE (l:=xv kN jv (eZ rop) (j3.map ct) aJ) (Q:=λax ad n=>pI rop kN jv j3 aJ ax->gf kN jv rop j3 aJ->lD p rop u-> ∀h H,F h (kO p b (!b) rop)->Tidy H-> ∃v,pB kN jv (eZ rop) (j3.map ct) aJ P v/\ ∀tm,az G (X G R ad n) 28 [ax,h,.agg ig] H tm= .ok v tm H) λax _=>by
  by_cases a:pI rop kN jv j3 aJ ax/\gf kN jv rop j3 aJ/\lD p rop u
  . obtain ⟨a,i,y⟩:=a;obtain ⟨aQ,z⟩:=id a;obtain ⟨C,g⟩:=Vn z g.i0 P (kO p b (!b) rop) (by have:=LC (p:=p) aX i.v b (!b);omega) (aP ax a i y);exact ⟨C,λad n w b _ _ _ h H q e=>g ad n w b h H q e⟩
  . exact ⟨0,λ_ _ _ _ k x aA=>absurd ⟨k,x,aA⟩ a⟩
 have aC:=aX.eq;obtain ⟨bs,a7,bu,bd,br,bx,bA,bI,rfl,⟨bO,bU,rfl,bK,bn⟩,Z,ag,⟨bN,bS,rfl,bJ,bm⟩,af,ai,⟨bP,bV,rfl,bL,bp⟩,⟨bQ,bW,rfl,bM,bq⟩⟩:=aC;obtain ⟨bz,a1,bw,ba,bH,rfl,aj,Y,ah,ae,al⟩:=aX.bT.eq;simp only [bl,a6] at k|-;have aD:=g.i0;obtain ⟨bf,bt,aV,aW,aY,aZ,bR,bX,bg,bj,rfl,M,N⟩:=aD.t;refine ⟨aG+aH,λad n bb bc j H e aF K=> ?_⟩;rcases aF with ⟨ax,rfl,a,aB,i,y,-⟩|⟨c,S,rfl⟩
 . refine .inr ⟨ax,rfl,?_⟩;obtain ⟨h,q,L⟩:=k ad n ab ab i H e;obtain ⟨v,A,aw⟩:=x ad n ab ab ax aB a i y h H q e;obtain ⟨aQ,z⟩:=id a;obtain ⟨aR,bC,bD,bE,bF,bG⟩:=z.val;obtain ⟨bB,a8,rfl,aE⟩:=A.i0;refine ⟨_,A,?_⟩;clear A;obtain ⟨aK,aM,ao,aq,ar,au,aS,aT,bh,bk,rfl,T,V⟩:=aE.t;cases b<;>simp only [Bool.not_true,Bool.not_false,if_true,eJ,if_false] at L o<;>subst o<;>
   . refine jQ (aL.at (m:=23) rfl rfl rfl rfl rfl rfl rfl rfl ?_);simp only [go_sem,aj.J,Y.J,ah.J,ae.J,al.J,Z.J,ag.J,af.J,ai.J,M.J,N.J,K,aR,L,q.O,aw,T.J,V.J];refine ak.mk rfl ?_ e (U.refl _);show ([aa.int .i64 aK,.int .i64 aM,.str ao aq,.str ar au,aS,aT].all (D 18)&&_)=true;simp only [aO,T.aI 17,V.aI 17];rfl
 . refine .inl ⟨c,S,rfl,?_⟩;have aN:(c !=0)=true:=by simpa using S
   cases b<;>simp only [if_true,eJ,if_false] at o<;>subst o<;>
   . refine jQ (aL.at (m:=23) rfl rfl rfl rfl rfl rfl rfl rfl ?_);simp only [go_sem,aj.J,Y.J,ah.J,ae.J,al.J,Z.J,ag.J,af.J,ai.J,M.J,N.J,K,aN];exact ak.mk rfl rfl e (U.refl _)
end
def hB (r:List aa):Y:=(f (M r 1)).flatMap (λa=>dd a::cu a)++f (M r 2)++(f (M r 3)).flatMap cC
def m1 (req p aU u:Y):Y:=req.flatMap eo++(p++aU).map dQ++u.flatMap hB
def KT: ∀(l:Y),(l.flatMap λp=>dd p::cu p).Perm (l.map dd++l.flatMap cu)
 | []=> .nil
 |a::l=>by simp only [yL,fS,bl];refine List.Perm.cons _ ?_;refine (List.Perm.append_left (cu a) (KT l)).trans ?_;rw [<-fu,<-fu];exact CO _ List.perm_append_comm
def Yo (r:List aa):(hB r).Perm (pf r):=by
 unfold hB pf Ly Lz Lx;rw [<-vO,<-vO];refine (CO _ (CO _ (KT _))).trans ?_;rw [fu,fu,fu]
def KS {α β:Type} {f g:α->List β} (b: ∀a,(f a).Perm (g a)): ∀(l:List α),(l.flatMap f).Perm (l.flatMap g)
 | []=> .nil
 |a::l=>by simp only [yL];exact (b a).append (KS b l)
def Yn (req p aU u:Y):(m1 req p aU u).Perm (eE req p aU u):=by
 unfold m1 eE;rw [<-vO,<-vO];exact List.Perm.append_left _ (KS Yo u)
def bL.perm {a b:Y} {N:Nat} (f:bL a N) (e:a.Perm b):bL b N:=by
 obtain ⟨c,g,h⟩:=f;exact ⟨c,λj i=>g j (e.mem_iff.2 i),by rw [<-(e.map c).sum_nat];exact h⟩
def qL {α β:Type} (f:α->List β) (g:α->Nat) (b: ∀a,(f a).length=g a): ∀(l:List α),(l.flatMap f).length=(l.map g).sum
 | []=>rfl
 |a::l=>by simp only [yL,bD,fS,kE,b,qL f g b l]
def K8 (req p aU u:Y):(m1 req p aU u).length=(req.map e7).sum+(p.length+aU.length)+(u.map kJ).sum:=by
 unfold m1;rw [bD,bD,di,bD,qL eo e7 (λb=>by unfold eo e7;simp;omega),qL hB kJ (λb=>by unfold hB kJ;rw [bD,bD,qL (λa=>dd a::cu a) iO (λa=>by unfold iO cu;simp;omega),qL cC lp (λ_=>rfl)])]
def z_ {α β:Type} (f:α->List β) (l:List α) (j:Nat):((l.take j).flatMap f).length<=(l.flatMap f).length:=by
 have:l.flatMap f=(l.take j).flatMap f++(l.drop j).flatMap f:=by rw [<-List.flatMap_append,yT]
 rw [this,bD];omega
def MW:aW G 28=some (.slice 83):=aq
@[go_sem] theorem acU (H):cT G 28 0 [] H=some (.A [] true,H):=aq
def Oh {H:af} (J:Tidy H) {o r:aa} {p aU:Y} (I:F o p) (E:F r aU) (h:Rows 10 (p++aU)) (K:p.length+aU.length<1048560):
    ∃e f l b,cI G 28 28 (.A [] true) o H=some (e,f)/\(∀t,O t e=e)/\cI G 28 28 e r f=some (l,b)/\bd H.n 83 10 (p.length+aU.length) b (p++aU) l/\Tidy b/\U H b:=by
 have q:Rows 10 p:=λj m=>h j (hP _ m);have z:Rows 10 aU:=λj m=>h j (h7 _ m);obtain ⟨e,f,C,a,w⟩:=bd.app (c:=0) (n0:=H.n) (H:=H) (rows:= []) (aQ:=p) (v:= .A [] true) (x:=o) (k:=10) MW (i:=t83) aq rfl rfl al al (.inr (.inl rfl)) J (aT _) (λj h=>by cases h) (dR (H:=H) I q.len) q (by
  have a:(([]:Y).length+p.length)<=1048560:=by simp only [h5];omega
  have g:t83.bytes+1<=300:=al;exact eT (kF a g) (by unfold b7;omega)) ab
 rw [gH,a6] at a;have B:=w.up H (aT _) (U.refl _);obtain ⟨l,b,D,g,y⟩:=bd.app (aQ:=aU) (x:=r) (k:=10) MW (i:=t83) aq rfl rfl al al a w.tidy B.n q (dR (H:=f) E z.len) z (by have a:(p.length+aU.length)<=1048560:=ab;have g:t83.bytes+1<=300:=al;exact eT (kF a g) (by unfold b7;omega)) ab;exact ⟨e,f,l,b,C,a.O,D,g,y.tidy,y.up H (aT _) B⟩
section
variable {d:List aa} {s:List aa} {kN jv rop j3 aJ req p aU u:Y} (aX:fz d s kN jv rop j3 aJ req p aU u)
include aX
theorem VG:dt 34 [.agg d] (λv=>F v (m1 req p aU u)) bQ:=by
 have ek:=aX.n1;have ep:=K8 req p aU u;have b6: ∀w∈p++aU,iz w:=λw o=>(cr.1 o).elim (aX.b9 w) (aX.hm w);obtain ⟨eH,N,bK,ew,db,dr,eI,eK,cM,⟨dh,dj,rfl,-⟩,aE,bq,⟨c3,c4,rfl,-⟩,bo,o,⟨ds,du,rfl,-⟩,⟨dx,dy,rfl,-⟩⟩:=aX.eq;obtain ⟨dv,cx,dk,cF,dw,rfl,dI,dJ,dK,dL,dM⟩:=aX.bT.eq;have eD:req.length<1048559:=by have:=aX.iN;omega
 have eE:u.length<1048559:=by have b3:=aX.iN;have:=D9 u;omega
 refine aL.run (m:=90) rfl rfl rfl rfl rfl rfl rfl rfl 1048570 λeC eF b8 ej r cc=> ?_;rw [cM];simp only [bl,a6];refine ak.bM (λe l=>r=l/\aM 91 [(1,.W 0 [.str dh dj,dv,cx,dk,cF,dw,N,bK,.str c3 c4,db,dr,.str ds du,.str dx dy])] e) ?_ ?_
 . simp only [go_sem,dI.J,dJ.J,dK.J,dL.J,dM.J,aE.J,bq.J,bo.J,o.J];exact an.mk ⟨rfl,dC⟩
 rintro e _ ⟨rfl,hF⟩;refine ak.bF hF (λq e l=>r=l/\aM 91 [(3,.V)] e/\q e) ?_ ?_
 . simp only [go_sem];exact an.mk ⟨rfl,ay⟩
 clear hF;rintro e _ ⟨rfl,hF⟩
 have ae: ∀ {aK h:af} {v y:aa} {aI z:Y},P 35 6 aK h v aI->F y z->(∀w∈z,aN w)->aI.length+z.length<1048560-> ∃bO B,cI G 33 33 v y h=some (bO,B)/\P 35 6 aK B bO (aI++z)/\iX aK.n v bO h B:=λ{aK h v y aI z} bj cU bc b8=>
  bj.app (k:=6) (E:=G) (t:=33) (b:=96) (i:=t35) Ah aq rfl rfl al al (x:=y) (aQ:=z) (dR cU λw o=>(bc w o).len) (λw o=>(bc w o).row) b8
 refine ak.kp [1] (λq e l=> ∃v,P 35 6 r l v (req.flatMap eo)/\M e 3=v/\q e) ?_ ?_
 . simp only [go_sem,hF,aE.O,aE.len];generalize aW:a1 _ _ _ _ _ _ _ _ _ _=R;revert R;refine cv [1,15] (λs=> [(3,s.1)]) (λs=>s.2) (λj s=>P 35 6 r s.2 s.1 ((req.take j).flatMap eo)) req.length (.V,r) (P.new _ _ cc) ?_ ?_
   . clear hF;rintro j ⟨v,h⟩ e ao a hF;simp only at a hF|-;obtain ⟨y,D⟩:=bA ao;have aF:=aV D;have Q:=z_ eo req (j+1);have er:(req.flatMap eo).length<1048560:=by rw [qL eo e7 (λaP=>by unfold eo e7;simp;omega)];omega
     rw [kR _ D,bD] at Q;have S:=kR eo D;obtain ⟨az,bU,aG,aP,ct,rfl,L,aY,⟨eu,U,bk,-⟩,⟨df,rfl⟩,⟨dg,rfl⟩⟩:=aX.kx y aF;rw [xO L.len aY.len,bm U] at Q S;have aD:=A4 L aY h;have cH:=k7 L.row;have dY:=k7 aY.row;simp only [bD,cl,h5] at Q;obtain ⟨Z,B,T,C,-⟩:= @ae _ _ _ (.A [az,bU] true) _ [az,bU] a (.inr ⟨_,rfl⟩) (λw o=>by simp only [b2,dG,or_false] at o;rcases o with rfl|rfl<;>assumption) og;obtain ⟨bP,ax,bb,aj,-⟩:=ae C U bk (by simp only [bD,cl,h5];omega);rw [fu] at aj;obtain ⟨c1,dc,c7,c9,c8,da,dF,dN,ey,eA,cJ,-,-⟩:=L.ea;obtain ⟨c2,de,dm,dp,dn,dq,dH,dO,ez,eB,cK,-,-⟩:=aY.ea;obtain ⟨rfl,cX,cZ⟩:=cJ.c;obtain ⟨rfl,cY,c0⟩:=cK.c;simp only [bl,a6] at D;refine au.kp [17,16,1,15] (λq e l=>h=l/\ ∃ch,M e 3=v/\M e 5= .W ch [.int .i64 c1,.int .i64 dc,.str c7 c9,.str c8 da,dF,dN,.int .i64 c2,.int .i64 de,.str dm dp,.str dn dq,dH,dO,aG,.int .i64 df,.int .i64 dg]/\q e) ?_ ?_
     . simp only [go_sem,hF,aE.O,aE.a_ (k:=15) D rfl,cX.J,cZ.J,cY.J,c0.J,U.J];exact an.mk ⟨rfl,_,by simp only [go_sem,hF];trivial⟩
     clear hF;rintro e _ ⟨rfl,ch,hF⟩;simp only [go_sem,hF,U.O,aD,bH,a.O,T,C.O,bb,aj.O];exact au.next (bP,ax) rfl (by show P _ 6 r _ _ ((req.take (j+1)).flatMap eo);rw [S];exact aj) ay
   . rintro ⟨v,h⟩ e a hF;simp only at a hF;rw [bX] at a;simp only [go_sem];exact an.mk ⟨v,a,ay⟩
 clear hF;rintro e h ⟨v,a,hF⟩;have bf:Rows 10 (p++aU):=λw o=>(b6 w o).row;obtain ⟨eJ,dP,ad,B,bZ,b1,b0,H,cm,cn⟩:=Oh a.tidy bq bo bf (by have:=aX.iN;omega);have b4:=a.at cm cn;have cb:=H.cw bf.len;have bt: ∀id,cW ad=some id->h.n<=id/\id<B.n:=λid N=>⟨H.ge N,H.lt N⟩;have bw:=H.O;have bu:=H.len;have b5:((p++aU).map dQ).length=p.length+aU.length:=by rw [di,bD]
 refine ak.kp [1] (λq e l=> ∃v,P 35 6 r l v (req.flatMap eo++(p++aU).map dQ)/\M e 3=v/\q e) ?_ ?_
 . rw [bD] at bu;simp only [go_sem,hF,bq.O,bo.O,bZ,b1,b0,bH,bw,bu];generalize aW:a1 _ _ _ _ _ _ _ _ _ _=R;revert R;refine cv [1,38] (λs=> [(3,s.1)]) (λs=>s.2) (λj s=>P 35 6 r s.2 s.1 (req.flatMap eo++((p++aU).map dQ).take j)/\cG s.2 10 ad (p++aU)/\(∀id,cW s.1=some id->cW ad≠some id)/\B.n<=s.2.n) (p.length+aU.length) (v,B) ⟨by simpa using b4,cb,λid N ah=>by have:=a.W.lt N;have:=(bt id ah).1;omega,aT _⟩ ?_ ?_
   . clear hF;rintro j ⟨v,h⟩ e ao ⟨a,br,bg,b7⟩ hF;simp only at a br bg b7 hF|-;obtain ⟨y,D⟩: ∃w,(p++aU)[j]? =some w:=⟨(p++aU)[j]'(by rw [bD];exact ao),by simp only [lj (show j<(p++aU).length by rw [bD];exact ao)]⟩;have aF:=aV D;have I:((p++aU).map dQ)[j]? =some (dQ y):=by rw [hO,D];rfl
     have Q:(req.flatMap eo++((p++aU).map dQ).take (j+1)).length<1048560:=by have b3:(req.flatMap eo).length=(req.map e7).sum:=qL eo e7 (λaP=>by unfold eo e7;simp;omega) req;rw [bD,h6,b5];omega
     have S:req.flatMap eo++((p++aU).map dQ).take (j+1)=(req.flatMap eo++((p++aU).map dQ).take j)++ [dQ y]:=by rw [od I,fu]
     rw [S,bD] at Q;obtain ⟨dU,dV,aO,a8,ba,rfl,⟨aA,aB,rfl,-⟩,⟨bV,bW,rfl,-⟩,aS,⟨a8,rfl⟩,⟨ba,rfl⟩⟩:=b6 y aF;have cD:dQ ([.str aA aB,.str bV bW]++aO++ [.int .i64 a8,.int .i64 ba])=aO:=by unfold dQ;rw [fu,qh ai];simp [aS.len]
     rw [cD] at S;have aD:=jc aS h;obtain ⟨Z,ax,T,C,bd⟩:= @ae _ _ _ (.A [aO] true) _ [aO] a (.inr ⟨_,rfl⟩) (λw o=>by rw [bs.1 o];exact aS) Q;have cS:=br.bS λid bK bj N=>bd.other id bK bj λah=>bg id ah N;obtain ⟨g,cP,cQ,ca,-⟩:=br.at bf.len D;obtain ⟨bI,bJ,bB,bC,bE,bG,bN,bL,c6,c5,rfl,bz,bx⟩:=aS.t;simp only [bl,a6] at ca;refine au.kp [40,1,38] (λq e l=>h=l/\ ∃cj,M e 39= .int .i64 ((p.length:Int)+(aU.length:Int))/\M e 3=v/\M e 7= .W cj [.str aA aB,.str bV bW,.int .i64 bI,.int .i64 bJ,.str bB bC,.str bE bG,bN,bL,.int .i64 a8,.int .i64 ba]/\q e) ?_ ?_
     . simp only [go_sem,hF,bw,cP,cQ,ca,bz.J,bx.J];exact an.mk ⟨rfl,_,by simp only [go_sem,hF];exact ⟨rfl,rfl⟩⟩
     clear hF;rintro e _ ⟨rfl,cj,hF⟩;simp only [go_sem,hF,aD,bH,a.O,T,C.O];exact au.next (Z,ax) rfl ⟨by show P _ 6 r _ _ (_++((p++aU).map dQ).take (j+1));rw [S];exact C,cS,λid N ah=>by
      rcases bd.new id N with aR|aR
      . exact bg id aR ah
      . have:=(bt id ah).2;omega,eT b7 bd.n⟩ (by simp only [go_sem,hF];rfl)
   . rintro ⟨v,h⟩ e ⟨a,-⟩ hF;simp only at a hF;rw [fT ab] at a;simp only [go_sem];exact an.mk ⟨v,a,ay⟩
 clear hF a b4 cb bt bw bu H cn cm bZ b0 b1;rintro e h ⟨v,a,hF⟩;have eb:(req.flatMap eo++(p++aU).map dQ).length=(req.map e7).sum+(p.length+aU.length):=by rw [bD,b5,qL eo e7 (λaP=>by unfold eo e7;simp;omega)]
 have en:(u.flatMap hB).length=(u.map kJ).sum:=by
  have b3:(m1 req p aU u).length=(req.flatMap eo++(p++aU).map dQ).length+(u.flatMap hB).length:=by unfold m1;rw [bD]
  omega
 have cO:m1 req p aU u=(req.flatMap eo++(p++aU).map dQ)++u.flatMap hB:=rfl;rw [cO];generalize dZ:req.flatMap eo++(p++aU).map dQ=X at*;refine ak.bM (λe l=> ∃v,P 35 6 r l v (X++u.flatMap hB)/\aM 91 [(3,v)] e) ?_ ?_
 . simp only [go_sem,hF,o.O,o.len];generalize aW:a1 _ _ _ _ _ _ _ _ _ _=R;revert R;refine cv [51] (λs=> [(3,s.1)]) (λs=>s.2) (λj s=>P 35 6 r s.2 s.1 (X++(u.take j).flatMap hB)) u.length (v,h) (by simpa using a) ?_ ?_
   . clear hF;rintro j ⟨v,h⟩ e ao a hF;simp only at a hF|-;obtain ⟨y,D⟩:=bA ao;have aF:=aV D;have Q:=z_ hB u (j+1);rw [kR _ D,bD] at Q;have S:=kR hB D;obtain ⟨eG,g,aG,ad,bY,aP,ct,rfl,⟨aA,aB,rfl,-⟩,⟨K,ar,cR,el⟩,⟨aH,U,bk,eg⟩,⟨aw,H,cT,et⟩,⟨dW,cN,ef,ee⟩,⟨cd,rfl⟩,⟨cf,rfl⟩⟩:=aX.bh y aF;have cA:hB [.str aA aB,g,aG,ad,bY,.int .i64 cd,.int .i64 cf]=K.flatMap (λg=>dd g::cu g)++aH++aw.flatMap cC:=by show (f g).flatMap _++f aG++(f ad).flatMap cC=_;rw [bm ar,bm U,bm H]
     rw [cA] at Q S;simp only [bD] at Q;have ec:(X++(u.take j).flatMap hB).length=X.length+((u.take j).flatMap hB).length:=bD;have cB:X++(u.take (j+1)).flatMap hB=(X++(u.take j).flatMap hB)++K.flatMap (λg=>dd g::cu g)++aH++aw.flatMap cC:=by rw [S];simp only [fu]
     generalize bc:X++(u.take j).flatMap hB=z at*;refine au.kp [53,52,51] (λq e l=>h=l/\ ∃ck,M e 3=v/\M e 9= .W ck [.str aA aB,g,aG,ad,bY,.int .i64 cd,.int .i64 cf]/\q e) ?_ ?_
     . simp only [go_sem,hF,o.O,o.a_ (k:=7) D rfl,ar.J,U.J,H.J,cN.J];exact an.mk ⟨rfl,_,by simp only [go_sem,hF];trivial⟩
     clear hF;rintro e _ ⟨rfl,ck,hF⟩;refine au.kp [53,52,51,9] (λq e l=> ∃v,P 35 6 r l v (z++K.flatMap λg=>dd g::cu g)/\M e 3=v/\q e) ?_ ?_
     . simp only [go_sem,hF,ar.O,ar.len];generalize aW:a1 _ _ _ _ _ _ _ _ _ _=R;revert R;refine cv [53,52,51,9,58] (λs=> [(3,s.1)]) (λs=>s.2) (λj s=>P 35 6 r s.2 s.1 (z++(K.take j).flatMap λg=>dd g::cu g)) K.length (v,h) (by simpa using a) ?_ ?_
       . clear hF;rintro ag ⟨v,h⟩ e bn a hF;simp only at a hF|-;obtain ⟨y,I⟩:=bA bn;have bp:=aV I;have av:=z_ (λg=>dd g::cu g) K (ag+1);rw [kR _ I,bD] at av;have aC:=kR (λg=>dd g::cu g) I;obtain ⟨dS,dT,az,dB,cp,cq,rfl,⟨dz,dD,rfl,-⟩,⟨dA,dE,rfl,-⟩,L,⟨ev,a7,cV,-⟩,⟨cp,rfl⟩,⟨cq,rfl⟩⟩:=cR y bp;rw [zy L.len,zz L.len,bm a7] at av aC;simp only [cl] at av;have aD:=jc L h;have cH:=k7 L.row;have eh:(z++(K.take ag).flatMap λg=>dd g::cu g).length=z.length+((K.take ag).flatMap λg=>dd g::cu g).length:=bD;obtain ⟨Z,B,T,C,-⟩:= @ae _ _ _ (.A [az] true) _ [az] a (.inr ⟨_,rfl⟩) (λw o=>by rw [bs.1 o];exact L) og;obtain ⟨bP,ax,bb,aj,-⟩:=ae C a7 cV (by simp only [bD,cl,h5];omega);obtain ⟨bI,bJ,bB,bC,bE,bG,bN,bL,c6,c5,rfl,bz,bx⟩:=L.t;simp only [bl,a6] at I;refine au.kp [60,59,53,52,51,9,58] (λq e l=>h=l/\ ∃cg,M e 3=v/\M e 11= .W cg [.str dz dD,.str dA dE,.int .i64 bI,.int .i64 bJ,.str bB bC,.str bE bG,bN,bL,dB,.int .i64 cp,.int .i64 cq]/\q e) ?_ ?_
         . simp only [go_sem,hF,ar.O,ar.a_ (k:=11) I rfl,bz.J,bx.J,a7.J];exact an.mk ⟨rfl,_,by simp only [go_sem,hF];trivial⟩
         clear hF;rintro e _ ⟨rfl,cg,hF⟩;simp only [go_sem,hF,a7.O,aD,bH,a.O,T,C.O,bb,aj.O];exact au.next (bP,ax) rfl (by show P _ 6 r _ _ (z++(K.take (ag+1)).flatMap _);rw [aC];simpa only [fu,bl,a6] using aj) ay
       . rintro ⟨v,h⟩ e a hF;simp only at a hF;rw [bX] at a;simp only [go_sem];exact an.mk ⟨v,a,ay⟩
     clear hF a;rintro e h ⟨v,a,hF⟩;obtain ⟨Z,B,T,C,-⟩:=ae a U bk uF;refine au.kp [53,52,51,9] (λq e l=>B=l/\M e 3=Z/\q e) ?_ ?_
     . simp only [go_sem,hF,U.O,a.O,T,bH,C.O];exact an.mk ⟨rfl,ay⟩
     clear hF a;rintro e _ ⟨rfl,hF⟩;have ei:(z++K.flatMap (λg=>dd g::cu g)++aH).length=z.length+(K.flatMap λg=>dd g::cu g).length+aH.length:=by rw [bD,bD]
     generalize z++K.flatMap (λg=>dd g::cu g)++aH=bR at*;simp only [go_sem,hF,H.O,H.len];generalize aW:a1 _ _ _ _ _ _ _ _ _ _=R;revert R;refine cv [53,52,51,78] (λs=> [(3,s.1)]) (λs=>s.2) (λj s=>P 35 6 r s.2 s.1 (bR++(aw.take j).flatMap cC)) aw.length (Z,B) (by simpa using C) ?_ ?_
     . clear hF;rintro ag ⟨v,h⟩ e bn a hF;simp only at a hF|-;obtain ⟨y,I⟩:=bA bn;have bp:=aV I;have av:=z_ cC aw (ag+1);rw [kR _ I,bD] at av;have aC:=kR cC I;obtain ⟨cz,rfl,⟨cy,aZ,cL,ed⟩⟩:=cT y bp;have cE:cC [cz]=cy:=bm aZ;rw [cE] at av aC;obtain ⟨Z,B,T,C,-⟩:=ae a aZ cL uF;simp only [go_sem,hF,H.O,H.a_ (k:=1) I rfl,aZ.J,aZ.O,a.O,T,bH,C.O];exact au.next (Z,B) rfl (by show P _ 6 r _ _ (bR++(aw.take (ag+1)).flatMap cC);rw [aC,<-fu];exact C) ay
     . rintro ⟨v,h⟩ e a hF;simp only at a hF;rw [bX] at a;simp only [go_sem];exact au.next (v,h) rfl (by show P _ 6 r _ _ (X++(u.take (j+1)).flatMap hB);rw [cB];exact a) ay
   . rintro ⟨v,h⟩ e a hF;simp only at a hF;rw [bX] at a;simp only [go_sem];exact an.mk ⟨v,a,ay⟩
 clear hF a;rintro e h ⟨v,a,hF⟩;simp only [go_sem,hF,a.O,a.nl,dX,if_true];exact ak.W al cc a.rw a.W (aT _) a.up λad aR=>aR
end
def pH (rows:Y) (ad n:Nat):Prop:= ∀e (left c:Int) b,F e rows-> -1<=left->left<=10000->0<=c->c<=81->Tidy b->
 ∃a:Int,(-1<=a/\a<=left/\(0<=a->bL rows (left-a).toNat))/\ ∀d,az G (X G R ad n) 39 [e,.int .i64 left,.int .i64 c] b d= .ok (.int .i64 a) d b
def bL.nil (N):bL [] N:=⟨λ_=>0,λ_ a=>(by cases a),fV _⟩
def bL.node {r k n l1 m1 h j y z ky i} (f:kX r k n l1 m1 h j y z ky i) {a b:Nat} (d:bL ky a) (e:bL i b):bL [r] (1+a+b):=by
 have m:=d.sum;have o:=e.sum;refine ⟨λ_=>1+((ky++i).map mT).sum,λp g=>by rw [bs.1 g];exact .mk mT f (λl c=>(d.g_ c).1) λl c=>(e.g_ c).1,?_⟩;simp only [fS,rG,kE,List.sum_nil,vR,List.sum_append];omega
theorem Dx (rows:Y) (V: ∀r∈rows,aN r) (bh:rows.length<4611686018427387904) (aH: ∀r∈rows,bo λad n=>pH (f (M r 4)) ad n/\pH (f (M r 5)) ad n):bo λad n=>pH rows ad n:=by
 obtain ⟨aP,aC⟩:=dE (l:=rows) (Q:=λr ad n=>pH (f (M r 4)) ad n/\pH (f (M r 5)) ad n) aH;refine ⟨aP+rows.length+2,λad n bf bj a6 left h g o S bg bc bd s=> ?_⟩;obtain ⟨n,rfl⟩:=bY n;have: ∃v,(∃a:Int,v= .int .i64 a/\(-1<=a/\a<=left/\(0<=a->bL rows (left-a).toNat)))/\ ∀b,az G (X G R ad (n+1)) 39 [a6,.int .i64 left,.int .i64 h] g b= .ok v b g:=by
  refine hg (aL.at (m:=43) (rs:= [.tmp 6]) rfl rfl rfl rfl rfl (by simp only [aO,o.aD];rfl) rfl rfl ?_);have L: ∀ {j},j=g->ak (λv=> ∃a:Int,v= .int .i64 a/\(-1<=a/\a<=left/\(0<=a->bL rows (left-a).toNat))) bQ g (.ret (.int .i64 (-1)) j):=λ{j} B=>by subst B;exact ak.mk ⟨-1,rfl,ab,S,λC=>absurd C al⟩ rfl s (U.refl _)
  by_cases P:h>80
  . have z:decide (h>80)=true:=by simpa using P
    simp only [go_sem,z];exact L rfl
  have z:decide (h>80)=false:=by simpa using P
  have aU:IntKind.i64.wrap (h+1)=h+1:=wrap64 _ ab ab;simp only [go_sem,z,o.O,o.len];have hF:=trivial;generalize bb:a1 _ _ _ _ _ _ _ _ _ _=ao;revert ao;refine cv [2,11] (λc=> [(1,.int .i64 c)]) (λ_=>g) (λaf c=> -1<=c/\c<=left/\(0<=c->bL (rows.take af) (left-c).toNat)) rows.length left ⟨S,Int.le_refl _,λ_=>bL.nil _⟩ ?_ ?_
  . rintro af c b aG ⟨Z,aa,q⟩ hF;obtain ⟨r,E⟩:=bA aG;have D:=aV E;obtain ⟨ag,ah⟩:=aC ad n ab ab r D;have aF:=o.a_ (k:=6) E (V r D).len;obtain ⟨F,H,d,I,e,K,w,x,aQ,aR,ae,-,-⟩:=(V r D).ea;have aM:=ae;obtain ⟨rfl,-,-,bn,bp,t,u,-,-⟩:=aM;have aA:f (M [.int .i64 F,.int .i64 H,.str d I,.str e K,w,x] 4)=aQ:=bm t;have aB:f (M [.int .i64 F,.int .i64 H,.str d I,.str e K,w,x] 5)=aR:=bm u;rw [aA] at ag;rw [aB] at ah;have aW:IntKind.i64.wrap ((d:Int)+(e:Int))=((d+e:Nat):Int):=by rw [wrap64 _ ab ab];rfl
    have aI:((d+e:Nat):Int).tdiv 50=(((d+e)/50:Nat):Int):=by rfl
    have aX:IntKind.i64.wrap (((d+e:Nat):Int).tdiv 50)=(((d+e)/50:Nat):Int):=by rw [aI,wrap64 _ ab ab]
    generalize bl:(d+e)/50=p at*;have bk:p<1000000000000000000:=ab;have aY:IntKind.i64.wrap (1+(p:Int))=1+(p:Int):=wrap64 _ ab ab;obtain ⟨i,aK⟩: ∃i:Int,i=c-(1+(p:Int)):=⟨_,rfl⟩;have aZ:IntKind.i64.wrap (c-(1+(p:Int)))=i:=by rw [aK];exact wrap64 _ ab ab
    refine au.kp [13,12,1,2,11] (λy b j=>g=j/\ ∃aj,M b 8= .W aj [.int .i64 F,.int .i64 H,.str d I,.str e K,w,x]/\y b) ?_ ?_
    . simp only [go_sem,hF,o.O,aF,t.J,u.J];exact an.mk ⟨rfl,_,by simp only [go_sem,hF];trivial⟩
    clear hF;rintro b _ ⟨rfl,aj,hF⟩;refine au.kp [13,12,2,11,8] (λy b j=>g=j/\M b 1= .int .i64 i/\y b) ?_ ?_
    . simp only [go_sem,hF,aW,aX,aY,aZ];exact an.mk ⟨rfl,ay⟩
    clear hF;rintro b _ ⟨rfl,hF⟩;by_cases T:i<0
    . have A:decide (i<0)=true:=by simpa using T
      simp only [go_sem,hF,A];exact au.stop rfl (by simp only [go_sem,hF];exact L rfl)
    have A:decide (i<0)=false:=by simpa using T
    obtain ⟨aS,⟨a7,a8,aq⟩,aw⟩:=ag w i (h+1) g t ab ab ab ab s;obtain ⟨ai,⟨ar,ba,av⟩,ax⟩:=ah x aS (h+1) g u ab ab ab ab s;simp only [go_sem,hF,A,t.O,u.O,aU,aw,ax];refine au.aE ?_ ?_<;>intro N<;>try simp only [go_sem,N]
    . exact au.stop rfl (by simp only [go_sem,hF];exact L rfl)
    . have aJ:0<=ai:=by simpa using N
      refine au.next ai rfl ⟨ar,ab,λ_=> ?_⟩ ay;have aT:=bL.node ae (aq ab) (av aJ);rw [od E];exact ((q ab).app aT).mono ab
  . rintro c b ⟨Z,aa,q⟩ hF;rw [bX] at q;simp only [go_sem,hF];exact ak.mk ⟨c,rfl,Z,aa,q⟩ rfl s (U.refl _)
 obtain ⟨_,⟨a,rfl,C⟩,B⟩:=this;exact ⟨a,C,B⟩
def YI {r:List aa} (w:aN r):bo λad n=>pH (f (M r 4)) ad n/\pH (f (M r 5)) ad n:=by
 induction w with
 | @mk r b n g i h j k l d e a s t z A=>
   have u:=a.zm;have v:=a.Kn;obtain ⟨rfl,x,y⟩:=a.c;have m:f (M [.int .i64 b,.int .i64 n,.str g i,.str h j,k,l] 4)=d:=bm x;have o:f (M [.int .i64 b,.int .i64 n,.str g i,.str h j,k,l] 5)=e:=bm y;rw [m,o];obtain ⟨B,p⟩:=Dx d s u z;obtain ⟨C,q⟩:=Dx e t v A;exact ⟨B+C,λad n D E=>⟨p ad n ab ab,q ad n ab ab⟩⟩
def UY (rows:Y) (a: ∀r∈rows,aN r) (b:rows.length<4611686018427387904):bo λad n=>pH rows ad n:=
 Dx rows a b λr c=>YI (a r c)
def Jz (rows:Y) (j: ∀r∈rows,aN r) (i:rows.length<4611686018427387904):bo λad n=> ∀x (m:Nat) H,m<=10000->F x rows->Tidy H->
    ∃b:Bool,(b=true->bL rows m)/\ ∀tm,az G (X G R ad n) 21 [.int .i64 (m:Nat),x] H tm= .ok (.bool b) tm H:=by
 obtain ⟨k,a⟩:=UY rows j i;refine ⟨k+1,λad n p s x m H q c d=> ?_⟩;obtain ⟨n,rfl⟩:=bY n;obtain ⟨e,⟨l,o,h⟩,f⟩:=a ad n ab ab x m 0 H c ab ab al al d;refine ⟨decide (e>=0),λa=>by
  have g:0<=e:=by simpa using a
  exact (h g).mono ab,fa (aL.at (m:=7) (rs:= [.tmp 4]) rfl rfl rfl rfl rfl (by simp only [aO,c.aD];rfl) rfl rfl ?_)⟩
 simp only [go_sem,c.O,f];exact ak.mk rfl rfl d (U.refl _)
def Ka {α:Type} (f:α->Nat): ∀ {l:List α} {x},x∈l->f x<=(l.map f).sum
 | b::l,x,a=>by
   rw [fS,kE];rcases b2.1 a with rfl|a
   . omega
   . have:=Ka f a;omega
def MX:aW G 24=some (.slice 52):=aq
@[go_sem] theorem acV (H):cT G 24 0 [] H=some (.A [] true,H):=aq
def c6.row {r} (d:c6 r):r.length=7/\ ∀v∈r,J v=true/\D 20 v=true:=by
 obtain ⟨i,k,f,j,l,o,⟨⟨e,m,s,g,h,rfl,a,p8,⟨n,b,-⟩⟩,-⟩⟩:=d;refine ⟨rfl,λv c=> ?_⟩;simp only [b2,dG,or_false] at c;rcases c with rfl|rfl|rfl|rfl|rfl|rfl|rfl
 . exact ⟨rfl,rfl⟩
 . exact ⟨a.J,a.aI _⟩
 . exact ⟨rfl,rfl⟩
 . exact ⟨b.J,b.aI _⟩
 . exact ⟨rfl,rfl⟩
 . exact ⟨rfl,rfl⟩
 . exact ⟨p8.J,p8.aI _⟩
def Oi {H:af} (I:Tidy H) {o r:aa} {p a:Y} (E:F o p) (D:F r a) (h:Rows 7 (p++a)) (J:p.length+a.length<1048560):
    ∃e f l d,cI G 24 24 (.A [] true) o H=some (e,f)/\(∀t,O t e=e)/\cI G 24 24 e r f=some (l,d)/\bd H.n 52 7 (p.length+a.length) d (p++a) l/\Tidy d/\U H d:=by
 have q:Rows 7 p:=λj m=>h j (hP _ m);have y:Rows 7 a:=λj m=>h j (h7 _ m);obtain ⟨e,f,B,b,u⟩:=bd.app (c:=0) (n0:=H.n) (H:=H) (rows:= []) (aQ:=p) (v:= .A [] true) (x:=o) (k:=7) MX (i:=t52) aq rfl rfl al al (.inr (.inl rfl)) I (aT _) (λj h=>by cases h) (dR (H:=H) E q.len) q (by
  have b:(([]:Y).length+p.length)<=1048560:=by simp only [h5];omega
  have g:t52.bytes+1<=300:=al;exact eT (kF b g) (by unfold b7;omega)) ab
 rw [gH,a6] at b;have z:=u.up H (aT _) (U.refl _);obtain ⟨l,d,C,g,w⟩:=bd.app (aQ:=a) (x:=r) (k:=7) MX (i:=t52) aq rfl rfl al al b u.tidy z.n q (dR (H:=f) D y.len) y (by have b:(p.length+a.length)<=1048560:=ab;have g:t52.bytes+1<=300:=al;exact eT (kF b g) (by unfold b7;omega)) ab;exact ⟨e,f,l,d,B,b.O,C,g,w.tidy,w.up H (aT _) z⟩
def wS (r:List aa):Nat:=(f (M r 1)).length+(f (M r 3)).length+(f (M r 6)).length
def pA (r:List aa):Prop:= ∀c e a d f b,fB r c e a d f b->a.length<1000000000/\b.length<1000000000
structure sv (kN jv rop j3 aJ:Y):Prop where
  so:kN.length<=60
  be:jv.length<=250
  op:rop.length+j3.length<=250
  bJ:aJ.length<=100
  aac: ∀r∈rop++j3,nk r
section
variable {s:List aa} {kN jv rop j3 aJ:Y} (p8:oz s kN jv rop j3 aJ)
include p8
theorem VJ (aG: ∀r∈rop++j3,pA r):bo λad n=> ∀H,Tidy H->
  ∃b:Bool,(b=true->sv kN jv rop j3 aJ)/\ ∀tm,az G (X G R ad n) 33 [.agg s] H tm= .ok (.bool b) tm H:=by
 have bd:=p8.n;have ai: ∀r∈rop++j3,c6 r:=λr y=>(cr.1 y).elim (p8.op r) (p8.cP r);obtain ⟨bj,aY,bg,aZ,bn,rfl,a,c,d,e,i⟩:=p8.eq;refine ⟨1048570,λad n bc bf H C=>sG ?_⟩;obtain ⟨n,rfl⟩:=bY n;refine aL.at (m:=59) (rs:= [.tmp 2]) rfl rfl rfl rfl rfl rfl rfl rfl ?_;have K: ∀ {j},j=H->ak (j9 (sv kN jv rop j3 aJ)) bQ H (.ret (.bool false) j):=λ{j} aA=>by subst aA;exact ak.mk ⟨false,rfl,λS=>by cases S⟩ rfl C (U.refl _)
 have Z:IntKind.i64.wrap ((rop.length:Int)+(j3.length:Int))=(rop.length:Int)+(j3.length:Int):=wrap64 _ ab ab;by_cases a6:kN.length>60
 . have o:decide ((kN.length:Int)>60)=true:=decide_eq_true ab;simp only [go_sem,a.J,c.J,d.J,e.J,i.J,a.O,a.len,o];exact K rfl
 have o:decide ((kN.length:Int)>60)=false:=decide_eq_false ab;by_cases a7:jv.length>250
 . have x:decide ((jv.length:Int)>250)=true:=decide_eq_true ab;simp only [go_sem,a.J,c.J,d.J,e.J,i.J,a.O,c.O,a.len,c.len,o,x];exact K rfl
 have x:decide ((jv.length:Int)>250)=false:=decide_eq_false ab;by_cases a8:rop.length+j3.length>250
 . have A:decide ((rop.length:Int)+(j3.length:Int)>250)=true:=decide_eq_true ab;simp only [go_sem,a.J,c.J,d.J,e.J,i.J,a.O,c.O,d.O,e.O,a.len,c.len,d.len,e.len,o,x,Z,A];exact K rfl
 have A:decide ((rop.length:Int)+(j3.length:Int)>250)=false:=decide_eq_false ab;by_cases ba:aJ.length>100
 . have Q:decide ((aJ.length:Int)>100)=true:=decide_eq_true ab;simp only [go_sem,a.J,c.J,d.J,e.J,i.J,a.O,c.O,d.O,e.O,i.O,a.len,c.len,d.len,e.len,i.len,o,x,Z,A,Q];exact K rfl
 have Q:decide ((aJ.length:Int)>100)=false:=decide_eq_false ab;have T:Rows 7 (rop++j3):=λr y=>(ai r y).row;obtain ⟨bl,aU,bp,P,aB,aD,aC,V,bk,av⟩:=Oi C d e T ab;have aO:=V.cw T.len;have aq:=V.O;have ao:=V.len;rw [bD] at ao;simp only [go_sem,a.J,c.J,d.J,e.J,i.J,a.O,c.O,d.O,e.O,i.O,a.len,c.len,d.len,e.len,i.len,o,x,Z,A,Q,aB,aD,aC,bH,aq,ao];have hF:=trivial;generalize bb:a1 _ _ _ _ _ _ _ _ _ _=ax;revert ax;refine cv [38] (λs=> [(3,.int .i64 s)]) (λ_=>P) (λz s=>s=((((rop++j3).take z).map wS).sum:Nat)/\s<=3000) (rop.length+j3.length) 0 ⟨rfl,al⟩ ?_ ?_
 . rintro z s tm ag ⟨aj,aQ⟩ hF;obtain ⟨aw,Y⟩: ∃r,(rop++j3)[z]? =some r:=⟨(rop++j3)[z]'(by rw [bD];exact ag),by simp only [lj (show z<(rop++j3).length by rw [bD];exact ag)]⟩;have ah:=aV Y;obtain ⟨bh,aI,aK,aM,-⟩:=aO.at T.len Y;have aH:=aG aw ah;obtain ⟨D,F,g,E,I,k,B⟩:=ai aw ah;obtain ⟨aW,aX⟩:=aH _ _ _ _ _ _ B;have aa:=uu wS Y;obtain ⟨l,u,v,L,ac,rfl,p,t,⟨h,q,aN,-⟩⟩:=B.eq;have ae:wS [.str D F,l,.str E I,u,.int .i64 L,.int .i64 ac,v]=g.length+h.length+k.length:=by show (f l).length+(f u).length+(f v).length=_;rw [bm p,bm q,bm t]
   rw [ae] at aa;have aR:IntKind.i64.wrap ((g.length:Int)+(h.length:Int))=(g.length:Int)+(h.length:Int):=wrap64 _ ab ab;have aS:IntKind.i64.wrap ((g.length:Int)+(h.length:Int)+(k.length:Int))=(g.length:Int)+(h.length:Int)+(k.length:Int):=wrap64 _ ab ab;obtain ⟨w,aP⟩: ∃w:Int,w=s+((g.length:Int)+(h.length:Int)+(k.length:Int)):=⟨_,rfl⟩;have aT:IntKind.i64.wrap (s+((g.length:Int)+(h.length:Int)+(k.length:Int)))=w:=by rw [aP];exact wrap64 _ ab ab
   refine au.kp [40,3,38] (λN tm j=>P=j/\ ∃ar,M tm 39= .int .i64 ((rop.length:Int)+(j3.length:Int))/\M tm 5= .W ar [.str D F,l,.str E I,u,.int .i64 L,.int .i64 ac,v]/\N tm) ?_ ?_
   . simp only [go_sem,hF,aq,aI,aK,aM,p.J,q.J,t.J];exact an.mk ⟨rfl,_,by simp only [go_sem,hF];exact ⟨rfl,rfl⟩⟩
   clear hF;rintro tm _ ⟨rfl,ar,hF⟩;refine au.kp [40,39,38] (λN tm j=>P=j/\M tm 3= .int .i64 w/\N tm) ?_ ?_
   . simp only [go_sem,hF,p.len,q.len,t.len,p.O,q.O,t.O,aR,aS,aT];exact an.mk ⟨rfl,ay⟩
   clear hF;rintro tm _ ⟨rfl,hF⟩;simp only [go_sem,hF];refine au.aE ?_ ?_<;>intro af<;>try simp only [go_sem,af]
   . exact au.stop rfl (by simp only [go_sem,hF];exact ak.mk ⟨false,rfl,λS=>by cases S⟩ rfl C av)
   . have aF:w<=3000:=by simpa using af
     exact au.next w rfl ⟨by rw [aa];omega,aF⟩ (by simp only [go_sem,hF];rfl)
 . rintro s tm ⟨aj,aQ⟩ hF;rw [fT uF] at aj;simp only [go_sem,hF];refine ak.mk ⟨true,rfl,λ_=>⟨ab,ab,ab,ab,λr y D F g E I k B=> ?_⟩⟩ rfl C av;have:=Ka wS y;obtain ⟨l,u,v,L,ac,rfl,p,t,⟨h,q,aN,-⟩⟩:=B.eq;have ae:wS [.str D F,l,.str E I,u,.int .i64 L,.int .i64 ac,v]=g.length+h.length+k.length:=by show (f l).length+(f u).length+(f v).length=_;rw [bm p,bm q,bm t]
   constructor<;>omega
end
end Go.aj
