/- A part of the proof. -/
import Derived.Test.YtiodgpibgiodcaaGreatDoorP00
import Derived.Test.YtiodgpibgiodcaaGreatDoorP07
import Derived.Test.YtiodgpibgiodcaaGreatDoorP12
import Derived.Test.YtiodgpibgiodcaaGreatDoorP13
import Derived.Test.YtiodgpibgiodcaaGreatDoorP14
set_option linter.all false
set_option maxHeartbeats 4000000
namespace Go.aj
open Go Go.Proofs.Tryz
set_option maxRecDepth 100000
theorem Il {u:Sub} {a:Nat} (ag: ∀p∈u,p.1≠a):h2 u a=false:=by unfold h2;rw [DU ag];rfl
def KU {u:Sub} {a:Nat} (ag: ∀p∈u,p.1<a):gl u a=u.length:=by
 unfold gl;rw [CV.2 λp b=>by simpa using ag p b]
theorem KV {u:Sub} {a:Nat} (ag: ∀p∈u,a<p.1):gl u a=0:=by unfold gl;rw [yJ.2 λp b=>by have:=ag p b;simp;omega];rfl
def x_ {u:Sub} {a:Nat} (ag: ∀p∈u,p.1<a):oq a u:=⟨Il λp b=>Nat.ne_of_lt (ag p b),.inl (KU ag)⟩
def s7 {u:Sub} {a:Nat} (ag: ∀p∈u,a<p.1):oq a u:=⟨Il λp b=>Nat.ne_of_gt (ag p b),.inr (KV ag)⟩
def IP {u:Sub} {a:Nat} {t} (ag: ∀p∈u,p.1<a):gj u a t=u++ [(a,t)]:=by unfold gj;rw [KU ag];simp
def IQ {u:Sub} {a:Nat} {t} (ag: ∀p∈u,a<p.1):gj u a t=(a,t)::u:=by unfold gj;rw [KV ag];simp
def pr {a c d:Nat} (f:T c d) (g:c<4611686018427387904) (e:a<10):aN (c_ a c d):=by
 have h: ∀a<10,(cz a).2<256^(cz a).1/\(cz a).1<3:=by decide+kernel
 obtain ⟨b,j⟩:=h a e;exact .mk (ky:= []) (i:= []) ⟨rfl,b,f,ab,g,.inl ⟨rfl,rfl⟩,.inl ⟨rfl,rfl⟩,al,al⟩ (λ_ ag=>by cases ag) (λ_ ag=>by cases ag)
abbrev gS:=List (Nat×Nat×Nat)
def gv (L:gS):Y:=L.map λa=>c_ a.1 a.2.1 a.2.2
structure jG (L:gS):Prop where
  st:L.Pairwise (·.1< ·.1)
  lt: ∀q∈L,2<=q.1/\q.1<10
  wf: ∀q∈L,T q.2.1 q.2.2/\q.2.1<4611686018427387904
def jG.len {L} (ag:jG L):L.length<=10:=by
 have j: ∀(d:Nat) (c:gS),c.Pairwise (·.1< ·.1)->(∀a∈c,d<=a.1/\a.1<10)->c.length+d<=10\/c= []:=by
  intro d c
  induction c generalizing d with
  |nil=>intro _ _;exact .inr rfl
  | cons e m i=>
    intro b f;obtain ⟨g,h⟩:=hq.1 b;obtain ⟨k,l⟩:=f e (dF ..);refine .inl ?_;rcases i (e.1+1) h λa b=>⟨g a b,(f a (h8 _ b)).2⟩ with ag|rfl
    . simp only [cl];omega
    . simp only [cl,h5];omega
 rcases j 0 L ag.st λa b=>⟨fV _,(ag.lt a b).2⟩ with ag|rfl
 . omega
 . simp
def k2 (L:gS) (b:Y):Sub:=(L.zip b).map λa=>(a.1.1,a.2)
section
variable (ar aw rop ao:Y)
def pj (L:gS) (c:Y) (i:Nat) (u:Sub):Option Sub:=match L[i]?,c[i]? with
 |some a,some b=>fx ar aw rop ao a.1 a.2.1 a.2.2 b u
 |_,_=>none
def ly (l m:Nat) (L:gS) (t:List aa) (u:Sub):Option Sub:=match t with
 | [.int _ b,_,.str c d,_,a,_]=>if (5:Int)=b/\(l=c/\m=d) then (if L.length=(f a).length then fZ (pj ar aw rop ao L (f a)) L.length u else none) else none
 |_=>none
def AB (L:gS) (i:Nat) (u:Sub):Prop:= ∀b∈u,∀a,L[i]? =some a->b.1<a.1
end
def LL {ar aw rop ao:Y} {L:gS} (l:jG L) {b:Y} {u:Sub} (n: ∀p∈u,∀q∈L,p.1<q.1): ∀(i:Nat) {f},i<=L.length->fZ (pj ar aw rop ao L b) i u=some f->f=u++(k2 L b).take i/\i<=b.length
 |0,f,_,ag=>by cases ag;exact ⟨ai,fV _⟩
 | i + 1, f, D, ag=>by
   cases g:fZ (pj ar aw rop ao L b) i u with
   |none=>simp only [fZ,g,Option.bind_none] at ag;cases ag
   | some B =>
     simp only [fZ,g,nT] at ag;obtain ⟨k,C⟩:=LL l n i ab g;unfold pj at ag
     cases d:L[i]? with
     |none=>rw [d] at ag;cases ag
     | some q =>
       cases e:b[i]? with
       |none=>rw [d,e] at ag;cases ag
       | some o =>
         rw [d,e] at ag;simp only [fx] at ag;split at ag
         . simp only [N] at ag;have y:(k2 L b)[i]? =some (q.1,o):=by unfold k2;rw [hO,(List.getElem?_zip_eq_some (z:=(q,o))).2 ⟨d,e⟩];rfl
           have A: ∀p∈B,p.1<q.1:=λp c=>by
            rw [k] at c;rcases cr.1 c with c|c
            . exact n p c q (aV d)
            . obtain ⟨j,a⟩:=jo c;have m:j<i:=by have:=(e6.1 a).1;rw [h6] at this;omega
              rw [List.getElem?_take_of_lt m] at a;unfold k2 at a;rw [hO] at a
              cases h:(L.zip b)[j]? with
              |none=>rw [h] at a;cases a
              | some E=>
                rw [h] at a;simp only [jV,N] at a;obtain ⟨x,-⟩:=List.getElem?_zip_eq_some.1 h;rw [<-a];obtain ⟨r,t⟩:=e6.1 x;obtain ⟨v,w⟩:=e6.1 d;have:=qj.1 l.st j i r v m;rw [t,w] at this;exact this
           rw [IP A] at ag;refine ⟨?_,by have:=(e6.1 e).1;omega⟩;rw [<-ag,k,od y,fu]
         . cases ag
def zW {ar aw rop ao:Y} {l m:Nat} {L:gS} (c:jG L) {t:List aa} {u b:Sub} (h: ∀p∈u,∀q∈L,p.1<q.1) (ag:ly ar aw rop ao l m L t u=some b):
    ∃k n w y z,t= [.int k 5,n,.str l m,w,y,z]/\L.length=(f y).length/\b=u++k2 L (f y):=by
 unfold ly at ag;split at ag
 . rename_i i k n j o w y z;split at ag
   . rename_i e;obtain ⟨rfl,rfl,rfl⟩:=e;split at ag
     . rename_i g;obtain ⟨a,-⟩:=LL c h _ (aT _) ag;have d:(k2 L (f y)).length<=L.length:=by unfold k2;rw [di,List.length_zip];omega
       rw [fT d] at a;exact ⟨_,_,_,_,_,rfl,g,a⟩
     . cases ag
   . cases ag
 . cases ag
section
variable {ax:aa} {s:List aa} {ar aw rop ao aJ:Y} (ag:dO ax s ar aw rop ao aJ)
include ag
theorem xM {a c d:Nat} (j:a<10) {t:List aa} (m:aN t) {D:Sub->Prop} (i: ∀u,c7 u->D u->oq a u):mb ax (c_ a c d) t D (fx ar aw rop ao a c d t):=by obtain ⟨p,l⟩:=Vj ag m;exact ⟨p,λq r g h u v f e b o k n=>l q r g h u v f a c d e b o j (i u b k) n⟩
omit ag in
theorem se {a c d:Nat} (eO:a<10) {t:List aa} (lg:aN t) {u gr:Sub} (hu:c7 u) (cy:oq a u) (e:fx ar aw rop ao a c d t u=some gr):c7 gr/\gr=gj u a t:=by
 unfold fx at e;split at e
 . cases e;exact ⟨hu.ins eO lg cy.1,rfl⟩
 . cases e
theorem Hb {l m:Nat} {L:gS} (n:jG L) {py:aa} (ah:F py (gv L)) {t:List aa} (aj:aN t):mb ax (cm l m py) t (λu=> ∀p∈u,∀q∈L,p.1<q.1) (ly ar aw rop ao l m L t):=by
 have aG:=n.len;have M:(gv L).length=L.length:=di ..
 obtain ⟨x,P,y,z,S,T,Q,R,k,aC,au,C,aF⟩:=aj.ea;obtain ⟨rfl,K,ak⟩:=au.c;have an: ∀G∈gv L,aN G:=λG E=>by obtain ⟨q,e,rfl⟩:=cd.1 E;exact pr (n.wf q e).1 (n.wf q e).2 (n.lt q e).2
 have H: ∀g u,c7 u->AB L g u-> ∀q,L[g]? =some q->oq q.1 u:=λg u o i q e=>x_ λp b=>i p b q e;have O:=DA ag (kp:=5) (np:=0) (pl:=l) (pm:=m) (n8:=0) (n9:=0) (py:=py) (m0:= .V) (pk:=gv L) (fk:= []) (kt:=x) (mV:=P) (tl:=y) (tm:=z) (ul:=S) (nb:=T) (ty:=Q) (tz:=R) (tk:=k) (uz:=aC)
  (.inl rfl) ah (.inl ⟨rfl,rfl⟩) an (λ_ ag=>by cases ag) ab ai K ak C (AB L) (pj ar aw rop ao L k) (λg p q b e=>by
   unfold gv at b;rw [hO] at b
   cases r:L[g]? with
   |none=>rw [r] at b;cases b
   | some f=>
     rw [r] at b;simp only [jV,N] at b;subst b;have j:=aV r;have:=xM ag (a:=f.1) (c:=f.2.1) (d:=f.2.2) (n.lt f j).2 (C q (aV e)) (D:=AB L g) λu o i=>H g u o i f r;have h:pj ar aw rop ao L k g=fx ar aw rop ao f.1 f.2.1 f.2.2 q:=by funext u;unfold pj;rw [r,e]
     rw [h];exact this) (λG E=>by simp at E) (λg u aH I o i h=>by
   simp only [h5,vU,M] at I;unfold pj at h;obtain ⟨f,j⟩:=bA I;rw [j] at h
   cases e:k[g]? with
   |none=>rw [e] at h;cases h
   | some q=>
     rw [e] at h;have ay:=aV j;obtain ⟨A,B⟩:=se (n.lt f ay).2 (C q (aV e)) o (H g u o i f j) h;refine ⟨A,λp b aE av=> ?_⟩;rw [B,IP λp b=>i p b f j] at b;have J:f.1<aE.1:=by obtain ⟨W,X⟩:=e6.1 j;obtain ⟨Z,ad⟩:=e6.1 av;have:=qj.1 n.st g (g+1) W Z ab;rw [X,ad] at this;exact this
     rcases cr.1 b with b|b
     . exact Nat.lt_trans (i p b f j) J
     . rw [bs.1 b];exact J)
 have h:(λu:Sub=>if (5:Int)=x/\(l=y/\m=z) then (if (gv L).length<=k.length/\(([]:Y).length≠0\/(gv L).length=k.length) then fZ (pj ar aw rop ao L k) ((gv L).length+([]:Y).length) u else none) else none)=ly ar aw rop ao l m L [.int .i64 x,.int .i64 P,.str y z,.str S T,Q,R]:=by
  funext u;simp only [ly,bm K,M,h5,vU];by_cases v:(5:Int)=x/\(l=y/\m=z)
  . rw [if_pos v,if_pos v];by_cases w:L.length=k.length
    . rw [if_pos w,if_pos ⟨ab,.inr w⟩]
    . rw [if_neg w,if_neg];rintro ⟨-,ag|ag⟩
      . exact ag rfl
      . exact w ag
  . rw [if_neg v,if_neg v]
 rw [h] at O;obtain ⟨az,af⟩:=O;refine ⟨az,λaA aB A B u aD ae U o aq i al=>af aA aB A B u aD ae U o aq (λp b q e=>i p b q (aV e)) al⟩
end
def hh (args:Y):gS:=args.mapIdx λa d=>match d with
 | [.str b c]=>(a+2,b,c)
 |_=>(a+2,0,0)
theorem Al {args:Y} (k:b8 args) (q:args.length<=8):jG (hh args)/\gv (hh args)=cp args:=by
 have l: ∀(a:Nat) b,args[a]? =some b-> ∃c d,b= [.str c d]/\(hh args)[a]? =some (a+2,c,d)/\T c d/\c<4611686018427387904:=λa b e=>by obtain ⟨c,d,rfl,g,j⟩:=k b ah;exact ⟨c,d,rfl,by unfold hh;grind,g,j⟩
 have r:(hh args).length=args.length:=C2;have t: ∀f∈hh args,∃a c d,f=(a+2,c,d)/\a<args.length/\T c d/\c<4611686018427387904:=λf h=>by
  obtain ⟨a,i⟩:=jo h;have o:=(e6.1 i).1;obtain ⟨b,e⟩: ∃b,args[a]? =some b:=de
  grind
 refine ⟨⟨qj.2 λa m i p n=> ?_,λf h=> ?_,λf h=> ?_⟩,?_⟩
 . obtain ⟨b,e⟩: ∃b,args[a]? =some b:=de;obtain ⟨v,u⟩: ∃b,args[m]? =some b:=ah
   grind
 . grind
 . grind
 . unfold gv cp;refine CT λa=> ?_;rw [hO,yO]
   cases e:args[a]? with
   | none=>
     grind
   | some b=>
     obtain ⟨c,d,rfl,g,-⟩:=l a b e;rw [g];rfl
def jG.erase {L} (ag:jG L) (j:Nat):jG (L.eraseIdx j):=⟨ag.st.sublist ah,λb a=>ag.lt b (tC a),λb a=>ag.wf b (tC a)⟩
def abO (L:gS) (j:Nat):gv (L.eraseIdx j)=(gv L).eraseIdx j:=by
 unfold gv
 induction L generalizing j with
 |nil=>rfl
 | cons a c b=>cases j with
   |zero=>rfl
   |succ j=>grind
def Lk {y:aa} {rows:Y} (a:F y rows) (c: ∀r∈rows,aN r) (b:rows.length<4611686018427387904) (n:Nat):aN (j2 y n):=
 .mk (ky:=rows.drop n) (i:= []) ⟨rfl,by unfold T;decide,by unfold T;decide,al,al,BB a n,.inl ⟨rfl,rfl⟩,ah,al⟩ ah ai
section
variable (ar aw rop ao:Y)
def sd (l m:Nat) (L:gS) (t:List aa) (u:Sub):Option Sub:=match t with
 | [.int _ b,_,.str d e,_,a,_]=>if (7:Int)=b/\(0=d/\0=e) then (match f a with
   |c::_=>(ly ar aw rop ao l m L c u).bind (fx ar aw rop ao 0 4 1953720652 (j2 a 1))
   | []=>none) else none
 |_=>none
def sc (c d l m:Nat) (L:gS) (t:List aa) (u:Sub):Option Sub:=match t with
 | [.int _ b,_,.str g h,_,a,_]=>if (7:Int)=b/\(0=g/\0=h) then (match f a with
   |e::q'::_=>((fx ar aw rop ao 1 c d e u).bind (ly ar aw rop ao l m L q')).bind (fx ar aw rop ao 0 4 1953720652 (j2 a 2))
   |_=>none) else none
 |_=>none
end
def xB (ar aw rop ao:Y) (c d l m:Nat) (L:gS) (ty:aa):Y->Nat->Sub->Option Sub
 |b::_,0,a=>fx ar aw rop ao 1 c d b a
 |_::b::_,1,a=>ly ar aw rop ao l m L b a
 |_,2,a=>fx ar aw rop ao 0 4 1953720652 (j2 ty 2) a
 |_,_,_=>none
def wP:c7 []:=⟨ai,ai,ai⟩
def zX {ar aw rop ao:Y} {l m:Nat} {L:gS} (b:jG L) {t:List aa} (x:aN t) {u h:Sub} (f:c7 u) (y: ∀p∈u,∀q∈L,p.1<q.1) (e:ly ar aw rop ao l m L t u=some h):c7 h/\ ∀p∈h,p∈u\/2<=p.1:=by
 obtain ⟨G,I,S,T,r,rfl,w,rfl⟩:=zW b y e;obtain ⟨H,J,K,M,Q,R,N,O,o,P,k,D,E⟩:=x.ea;have j:=k.eq;simp only [jn,and_true] at j;obtain ⟨-,-,-,-,rfl,-⟩:=j;rw [bm k.dh] at w|-;have i: ∀p∈k2 L o,∃q∈L,p.1=q.1/\p.2∈o:=λp a=>by unfold k2 at a;obtain ⟨r,n,rfl⟩:=cd.1 a;exact ⟨r.1,(C5 n).1,rfl,(C5 n).2⟩
 refine ⟨⟨rH.2 ⟨f.st,?_,λp a q F=> ?_⟩,λp a=> ?_,λp a=> ?_⟩,λp a=> ?_⟩
 . unfold k2;rw [List.pairwise_map];refine qj.2 λz A B C v=> ?_;simp only [List.getElem_zip];exact qj.1 b.st z A _ _ v
 . grind
 . rcases cr.1 a with a|a
   . exact f.lt p a
   . obtain ⟨g,d,c,-⟩:=i p a;rw [c];exact (b.lt g d).2
 . rcases cr.1 a with a|a
   . exact f.wt p a
   grind
 . rcases cr.1 a with a|a
   . grind
   . obtain ⟨g,d,c,-⟩:=i p a;rw [c];exact .inr (b.lt g d).1
def zH:F cM [c_ 0 4 1953720652]:= .inr ⟨true,rfl⟩
def rQ:T 4 1953720652/\4<4611686018427387904:=⟨by unfold T;decide,al⟩
section
variable {ax:aa} {s:List aa} {ar aw rop ao aJ:Y} (ag:dO ax s ar aw rop ao aJ)
include ag
theorem QR {l m:Nat} {L:gS} (h:jG L) (K:T l m/\l<4611686018427387904) {py:aa} (O:F py (gv L)) {t:List aa} (ad:aN t):mb ax (eX (.A [cm l m py] true) cM) t (λu=>u= []) (sd ar aw rop ao l m L t):=by
 obtain ⟨o,R,q,r,V,W,v,U,g,av,an,y,aB⟩:=ad.ea;obtain ⟨rfl,-,-,-,-,z,ae,ab,-⟩:=an;have aC:=h.len;have aj: ∀G∈gv L,aN G:=λG n=>by obtain ⟨k,j,rfl⟩:=cd.1 n;exact pr (h.wf k j).1 (h.wf k j).2 (h.lt k j).2
 have aD:aN (cm l m py):= .mk (ky:=gv L) (i:= []) ⟨rfl,K.1,by unfold T;decide,K.2,al,O,.inl ⟨rfl,rfl⟩,by unfold gv;grind,al⟩ aj ai;have aE:aN (c_ 0 4 1953720652):=pr rQ.1 rQ.2 al;have P:=λC=>Lk z y ab C
 let H:Nat->Sub->Prop:=λe u=>match e with
  |0=>u= []
  |1=> ∀p∈u,0<p.1
  |_=>True
 let I:Nat->Sub->Option Sub:=λe u=>match e,g with
  |0,k::_=>ly ar aw rop ao l m L k u
  |1,_=>fx ar aw rop ao 0 4 1953720652 (j2 v 1) u
  |_,_=>none
 have Q:=DA ag (kp:=7) (np:=0) (pl:=0) (pm:=0) (n8:=0) (n9:=0) (py:= .A [cm l m py] true) (m0:=cM) (pk:= [cm l m py]) (fk:= [c_ 0 4 1953720652]) (kt:=o) (mV:=R) (tl:=q) (tm:=r) (ul:=V) (nb:=W) (ty:=v) (tz:=U) (tk:=g) (uz:=av)
  (.inr rfl) (.inr ⟨_,rfl⟩) zH ah ah ai ai z ae y H I (λe p k M j=>by
   obtain rfl:e=0:=ah;simp only [mM,N] at M;subst M
   cases g with
   |nil=>grind
   | cons E S=>
     simp only [mM,N] at j;subst j;obtain ⟨aq,Z⟩:=Hb ag (l:=l) (m:=m) h O (y E (dF ..));exact ⟨aq,λau C w x u az Y X B ak b af=>Z au C w x u az Y X B ak ah af⟩) (λG n _=>by
   simp only [mM,N] at n;subst n;exact xM ag (a:=0) (c:=4) (d:=1953720652) al (P 1) (D:=H 1) λu _ b=>s7 b) (λe u ay aA B b f=>by
   match e with
   | 0 =>
     cases g with
     |nil=>cases f
     | cons E S=>
       have b:u= []:=b;subst b;obtain ⟨w,x⟩:=zX (u:= []) h ah wP ai f
       grind
   | 1=>
     have f:fx ar aw rop ao 0 4 1953720652 (j2 v 1) u=some ay:=f;have b: ∀p∈u,0<p.1:=b;obtain ⟨w,x⟩:=se (a:=0) al (P 1) B (s7 b) f
     grind
   |e+2=>grind)
 have f:(λu:Sub=>if (7:Int)=o/\(0=q/\0=r) then (if [cm l m py].length<=g.length/\([c_ 0 4 1953720652].length≠0\/ [cm l m py].length=g.length) then fZ I ([cm l m py].length+ [c_ 0 4 1953720652].length) u else none) else none)=sd ar aw rop ao l m L [.int .i64 o,.int .i64 R,.str q r,.str V W,v,U]:=by
  funext u;simp only [sd,bm z,cl,h5];by_cases J:(7:Int)=o/\(0=q/\0=r)
  . rw [if_pos J,if_pos J]
    cases g with
    |nil=>simp
    | cons E S=>
      rw [if_pos ⟨ai,.inl al⟩];simp only [fZ,nT];rfl
  grind
 rw [f] at Q;exact Q
theorem QO {c d l m:Nat} {L:gS} (p:jG L) (w:T c d/\c<4611686018427387904) (P:T l m/\l<4611686018427387904) {py:aa} (Q:F py (gv L)) {t:List aa} (aj:aN t):mb ax (eX (.A [c_ 1 c d,cm l m py] true) cM) t (λu=>u= []) (sc ar aw rop ao c d l m L t):=by
 obtain ⟨B,U,E,G,W,X,o,V,e,aA,av,H,aE⟩:=aj.ea;obtain ⟨rfl,-,-,-,-,I,ak,ae,-⟩:=av;have aF:=p.len;have aq: ∀M∈gv L,aN M:=λM y=>by obtain ⟨n,k,rfl⟩:=cd.1 y;exact pr (p.wf n k).1 (p.wf n k).2 (p.lt n k).2
 have aG:aN (cm l m py):= .mk (ky:=gv L) (i:= []) ⟨rfl,P.1,by unfold T;decide,P.2,al,Q,.inl ⟨rfl,rfl⟩,by unfold gv;grind,al⟩ aq ai;have aH:aN (c_ 0 4 1953720652):=pr rQ.1 rQ.2 al;have aI:aN (c_ 1 c d):=pr w.1 w.2 al;have R:=λJ=>Lk I H ae J
 let x:Nat->Sub->Prop:=λq u=>match q with
  |0=>u= []
  |1=> ∀f∈u,f.1=1
  |2=> ∀f∈u,0<f.1
  |_=>True
 have O: ∀u:Sub,(∀f∈u,f.1=1)-> ∀f∈u,∀n∈L,f.1<n.1:=λu b f j n k=>by have r:=b f j;have v:=(p.lt n k).1;omega
 have S:=DA ag (kp:=7) (np:=0) (pl:=0) (pm:=0) (n8:=0) (n9:=0) (py:= .A [c_ 1 c d,cm l m py] true) (m0:=cM) (pk:= [c_ 1 c d,cm l m py]) (fk:= [c_ 0 4 1953720652]) (kt:=B) (mV:=U) (tl:=E) (tm:=G) (ul:=W) (nb:=X) (ty:=o) (tz:=V) (tk:=e) (uz:=aA)
  (.inr rfl) (.inr ⟨_,rfl⟩) zH ah ah ai ai I ak H x (xB ar aw rop ao c d l m L o e) (λq f n j k=>by
   match q with
   | 0 =>
     cases e with
     |nil=>grind
     | cons C g=>
       simp only [mM,N] at j k;subst j k;exact xM ag (a:=1) (c:=c) (d:=d) al ah (D:=x 0) λu _ b=>by have b:u= []:=b;subst b;exact x_ ai
   | 1 =>
     cases e with
     |nil=>grind
     | cons C g=>
       cases g with
       |nil=>grind
       | cons K g=>
         simp only [mM,tA,N] at j k;subst j k;obtain ⟨ay,ad⟩:=Hb ag (l:=l) (m:=m) p Q (H K ai);exact ⟨ay,λaz J r v u aC Z Y z au b an=>ad az J r v u aC Z Y z au (O u b) an⟩
   |q+2=>grind) (λM y _=>by
   simp only [mM,N] at y;subst y;have af:xB ar aw rop ao c d l m L o e 2=fx ar aw rop ao 0 4 1953720652 (j2 o 2):=by
    funext u
    cases e with
    |nil=>rfl
    |cons n g=>cases g<;>rfl
   show mb ax _ _ (x 2) (xB ar aw rop ao c d l m L o e 2);rw [af];exact xM ag (a:=0) (c:=4) (d:=1953720652) al (R 2) (D:=x 2) λu _ b=>s7 b) (λq u aB aD z b h=>by
   match q with
   | 0 =>
     cases e with
     |nil=>cases h
     | cons C g=>
       have b:u= []:=b;subst b;have ab:oq 1 ([]:Sub):=x_ ai;obtain ⟨r,v⟩:=se (a:=1) al ah wP ab h;exact ⟨r,λf j=>by rw [v] at j;simp [gj,gl] at j;rw [j]⟩
   | 1 =>
     cases e with
     |nil=>cases h
     | cons C g=>
       cases g with
       |nil=>cases h
       | cons K g=>
         obtain ⟨r,v⟩:=zX p ah z (O u b) h
         grind
   | 2=>
     have h:fx ar aw rop ao 0 4 1953720652 (j2 o 2) u=some aB:=by
      cases e with
      |nil=>exact h
      |cons n g=>cases g<;>exact h
     have b: ∀f∈u,0<f.1:=b;obtain ⟨r,v⟩:=se (a:=0) al (R 2) z (s7 b) h
     grind
   |q+3=>grind)
 have h:(λu:Sub=>if (7:Int)=B/\(0=E/\0=G) then (if [c_ 1 c d,cm l m py].length<=e.length/\([c_ 0 4 1953720652].length≠0\/ [c_ 1 c d,cm l m py].length=e.length) then fZ (xB ar aw rop ao c d l m L o e) ([c_ 1 c d,cm l m py].length+ [c_ 0 4 1953720652].length) u else none) else none)=sc ar aw rop ao c d l m L [.int .i64 B,.int .i64 U,.str E G,.str W X,o,V]:=by
  funext u;simp only [sc,bm I,cl,h5];by_cases w:(7:Int)=B/\(0=E/\0=G)
  . rw [if_pos w,if_pos w]
    match e with
    | []=>simp
    | [_]=>simp
    | C::K::g=>
      rw [if_pos ⟨ai,.inl al⟩];simp only [fZ,nT];rfl
  grind
 rw [h] at S;exact S
theorem I3 {p t:List aa} {st:Sub->Option Sub} (k:aN p) (l:aN t) (i:mb ax p t (λu=>u= []) st):bo λad n=> ∀(a:Bool) H,Z H->
  ∃v,ka (st []) v/\ ∀tm,az G (X G R ad n) 50 [ax,.A [[.V]] a,.agg p,.agg t] H tm= .ok v tm H:=by
 obtain ⟨w,j⟩:=i;obtain ⟨x,y,z,B,ai,aj⟩:=ag.val;refine ⟨w+1,λad n O P a H c=> ?_⟩;obtain ⟨n,rfl⟩:=bY n;obtain ⟨v,b,d⟩:=j ad n ab ab [] .V a H wP (.inl ⟨rfl,rfl⟩) rfl c;obtain ⟨o,q,r⟩:=b.aI 19;generalize st []=C at*;obtain ⟨Q,af,D,E,F,I,al,aq,T,Y,rfl,e,f⟩:=k.t;obtain ⟨S,ah,K,L,M,N,an,au,W,ae,rfl,g,h⟩:=l.t;refine hg (aL.at (m:=11) rfl rfl rfl rfl rfl (by simp only [aO,z];rfl) rfl rfl ?_);simp only [go_sem,e.J,f.J,g.J,h.J,x,y,B,d,r,q,dX];exact ak.mk b o c (U.refl _)
end
def DS (u:Sub) (l m:Nat):List aa:=((u.find? λa=>(cz a.1).1==l&&(cz a.1).2==m).map (·.2)).getD eb
def V8 {u:Sub} (l:c7 u) {a:Nat} (i:a<10):DS u (cz a).1 (cz a).2=(dw u a).getD eb:=by
 unfold DS dw;congr 2;have: ∀(c:Sub),(∀b∈c,b.1<10)->c.find? (λb=>(cz b.1).1==(cz a).1&&(cz b.1).2==(cz a).2)=c.find? λb=>b.1==a:=by
  intro c g
  induction c with
  |nil=>rfl
  | cons b c m=>
    have d:((cz b.1).1==(cz a).1&&(cz b.1).2==(cz a).2)=(b.1==a):=by
     have j:=g b (dF ..);by_cases e:b.1=a
     . rw [e];simp
     . have:cz b.1≠cz a:=λd=>e (WQ _ j _ i d);have h:(b.1==a)=false:=by simpa using e
       rw [h]
       cases f:((cz b.1).1==(cz a).1&&(cz b.1).2==(cz a).2) with
       |false=>rfl
       | true=>
         simp only [br,beq_iff_eq] at f;exact absurd (Prod.ext f.1 f.2) this
    simp only [yK,d,m λn k=>g n (h8 _ k)]
 exact this u l.lt
def cj (u:Sub):Nat->List aa->List aa
 |0,_=>eb
 | a+1,g=>match g with
   | [.int .i64 b,_,.str c d,_,h,i]=>if b=6 then DS u c d else [.int .i64 b,.int .i64 0,.str c d,.str 0 0,dk ((f h).map (cj u a)++(f i).flatMap λe=>f (M (cj u a e) 4)),.V]
   |_=>eb
theorem BN {u:Sub} (f:c7 u) {d a c e:Nat} (b:a<10):cj u (d+1) (c_ a c e)=(dw u a).getD eb:=by rw [<-V8 f b];unfold c_ cn;rw [cj];exact if_pos rfl
def BM (u:Sub) (d:Nat) {k:Int} (n:Int) {a b:Nat} (h j:Nat) {y z:aa} {ky i:Y} (c:k≠6) (e:F y ky) (g:F z i):cj u (d+1) [.int .i64 k,.int .i64 n,.str a b,.str h j,y,z]= [.int .i64 k,.int .i64 0,.str a b,.str 0 0,dk (ky.map (cj u d)++i.flatMap λq=>f (M (cj u d q) 4)),.V]:=by
 rw [<-bm e,<-bm g];exact if_neg c
def iB:Nat->List aa->Prop
 |0,_=>False
 |f+1,c=>(∃e h i,c=c_ e h i/\e<10/\aN c)\/ ∃g n j l k m o p a b,kX c g n j l k m o p a b/\g≠6/\a.length<=8/\b.length<=1/\(∀d∈a,iB f d)/\ ∀d∈b,iB f d
def iB.wt: ∀ {d r},iB d r->aN r
 |0,_,a=>a.elim
 | d+1,r,a=>by
   rcases a with ⟨_,_,_,-,-,a⟩|⟨g,n,j,l,k,m,o,p,h,i,a,-,-,-,e,f⟩
   . exact a
   . exact .mk a (λc b=>(e c b).wt) λc b=>(f c b).wt
def AN (u:Sub):Prop:= ∀a∈u,(f (M a.2 4)).length<=100000
def w7:aN eb:= .mk (ky:= []) (i:= []) ⟨rfl,by unfold T;decide,by unfold T;decide,al,al,.inl ⟨rfl,rfl⟩,.inl ⟨rfl,rfl⟩,al,al⟩ (λ_ a=>by cases a) (λ_ a=>by cases a)
def VS {r:List aa} (a:aN r): ∀x∈f (M r 4),aN x:=by
 obtain ⟨e,m,i,k,j,l,d,n,g,h,a,b,-⟩:=a.ea;obtain ⟨rfl,-,-,-,-,c,-⟩:=a;show∀x∈f d,aN x;rw [bm c];exact b
def rh {u:Sub} (h:c7 u) (k:AN u): ∀ {d r},d<1000->iB d r->aN (cj u d r)/\(f (M (cj u d r) 4)).length<=100000+8*d
 |0,_,_,c=>c.elim
 | d + 1,r,I,c=>by
   rcases c with ⟨n,F,G,rfl,t,J⟩|⟨K,B,L,P,z,A,W,X,q,l,c,v,O,y,s,o⟩
   . rw [BN h t]
     cases b:dw u n with
     |none=>exact ⟨w7,by show (f (M eb 4)).length<=_;exact fV _⟩
     | some U=>
       unfold dw at b
       cases m:u.find? λj=>j.1==n with
       |none=>rw [m] at b;cases b
       | some j=>
         rw [m] at b;simp only [jV,N] at b;subst b;have p:=yS m;exact ⟨h.wt j p,by have:=k j p;show (f (M j.2 4)).length<=_;omega⟩
   . obtain ⟨rfl,D,V,C,S,w,x,Q,R⟩:=c;rw [BM u d B z A v w x];have b:(q.map (cj u d)++l.flatMap λa=>f (M (cj u d a) 4)).length<=100000+8*(d+1):=by have:=nF (λa=>f (M (cj u d a) 4)) (100000+8*d) l λa g=>(rh h k ab (o a g)).2;rw [bD,di];have H:l.length*(100000+8*d)<=1*(100000+8*d):=fU _ y;omega
     refine ⟨.mk (ky:=q.map (cj u d)++l.flatMap λa=>f (M (cj u d a) 4)) (i:= []) ⟨rfl,D,by unfold T;decide,C,al,fW _,.inl ⟨rfl,rfl⟩,ab,al⟩ (λE e=> ?_) (λ_ c=>by cases c),?_⟩
     . rcases cr.1 e with e|e
       . obtain ⟨a,g,rfl⟩:=cd.1 e;exact (rh h k ab (s a g)).1
       . obtain ⟨a,g,e⟩:=fC.1 e;exact VS (rh h k ab (o a g)).1 E e
     . show (f (dk _)).length<=_;rw [bm (fW _)];exact b
def Ah:aW G 33=some (.slice 35):=aq
theorem Vm (d:Nat):d<1000->bo λad n=> ∀r (u:Sub) x H,iB d r->c7 u->AN u->F x (u.map cg)->Z H-> ∀tm,az G (X G R ad n) 51 [.agg r,x] H tm= .ok (.agg (cj u d r)) tm H:=by
 induction d with
 |zero=>exact λ_=>⟨0,λ_ _ _ _ _ _ _ _ aF=>aF.elim⟩
 |succ d bJ=>
 intro b3;obtain ⟨bK,aX⟩:=bJ ab;obtain ⟨bL,bu⟩:=DD;refine ⟨bK+bL+20,λad n b4 b6 r u x H U z Y L aN=> ?_⟩;obtain ⟨n,rfl⟩:=bY n;have bc:=(rh z Y ab U).1;have: ∃e l,(e= .agg (cj u (d+1) r)/\l=H)/\ ∀tm,az G (X G R ad (n+1)) 51 [.agg r,x] H tm= .ok e tm l:=by
  refine dJ.at (m:=59) rfl rfl rfl rfl rfl (by simp only [aO,L.aD];rfl) rfl rfl ?_;rcases U with ⟨aR,bW,aS,rfl,aY,-⟩|⟨v,bd,C,I,bj,bk,bO,bp,h,o,aF,a7,cb,ca,bl,bn⟩
  . have N:=λtm=>bu ad n ab ab u x aR H z L aY aN tm;rw [BN z aY] at bc|-;generalize (dw u aR).getD eb=cl at*;obtain ⟨ar,aw,ag,ah,ai,ak,aA,aB,bf,bh,rfl,S,T⟩:=bc.t;simp only [c_,cn];simp only [go_sem,L.O,N,S.J,T.J];refine dJ.mk (fi H _ _ ?_) ⟨rfl,ft (aT _)⟩;show [aa.int .i64 ar,.int .i64 aw,.str ag ah,.str ai ak,aA,aB].all (D 49)=true;simp only [aO,S.aI 48,T.aI 48];rfl
  . have b7: ∀x∈h,iB d x:=bl;obtain ⟨rfl,cp,cq,ch,ck,ae,B,cd,cf⟩:=aF;rw [BM u d bd bj bk a7 ae B];have bE:(v==6)=false:=by simpa using a7
    have a8:(h.map (cj u d)).length=h.length:=di ..
    refine dJ.bM (λtm j=>H=j/\aM 61 [(1,x),(2,.W 0 [.int .i64 v,.int .i64 bd,.str C I,.str bj bk,bO,bp]),(4,.W 0 [.int .i64 0,.int .i64 0,.str 0 0,.str 0 0,.V,.V]),(7,.av []),(9,.av []),(11,.av [])] tm) ?_ ?_
    . simp only [go_sem,ae.J,B.J];exact an.mk ⟨rfl,dC⟩
    rintro tm _ ⟨rfl,hF⟩;refine dJ.bF hF (λq tm j=>H=j/\q tm) ?_ ?_
    . simp only [go_sem,hF,bE];exact an.mk ⟨rfl,ay⟩
    clear hF;rintro tm _ ⟨rfl,hF⟩;refine dJ.kp [1,2,4] (λq tm j=>H=j/\M tm 7= .W 0 [.int .i64 v,.int .i64 0,.str C I,.str 0 0,.V,.V]/\q tm) ?_ ?_
    . simp only [go_sem,hF];exact an.mk ⟨rfl,ay⟩
    clear hF;rintro tm _ ⟨rfl,hF⟩;refine dJ.kp [1,2,4] (λq tm j=> ∃e,P 35 6 H j e (h.map (cj u d))/\M tm 7= .W 0 [.int .i64 v,.int .i64 0,.str C I,.str 0 0,e,.V]/\q tm) ?_ ?_
    . simp only [go_sem,hF,ae.O,ae.len];generalize bx:a1 _ _ _ _ _ _ _ _ _ _=aC;revert aC;refine cv [1,2,4,29] (λp=> [(7,.W 0 [.int .i64 v,.int .i64 0,.str C I,.str 0 0,p.1,.V])]) (λp=>p.2) (λc p=>P 35 6 H p.2 p.1 ((h.map (cj u d)).take c)) h.length (.V,H) (P.new _ _ aN) ?_ ?_
      . clear hF;rintro c ⟨e,l⟩ tm aH g hF;simp only at g hF|-;obtain ⟨a,w⟩:=bA aH;have aJ:=aV w;have K:=bl a aJ;have N:=λtm=>aX ad n ab ab a u x l K z Y L g.tidy tm;have aL:=(rh z Y ab K).1.row;have bz:=ki aL l;have b0:=k7 aL;have bb:Rows 6 [cj u d a]:=λbp B=>by rw [bs.1 B];exact aL
        obtain ⟨aP,af,aE,s,-⟩:=g.app (k:=6) (E:=G) (t:=33) (b:=96) (i:=t35) Ah aq rfl rfl al al (x:= .A [cj u d a] true) (aQ:= [_]) (dR (.inr ⟨_,rfl⟩) bb.len) bb (by rw [h6,a8];show _+1<_;omega);have bt:(h.map (cj u d))[c]? =some (cj u d a):=by rw [hO,w];rfl
        rw [<-od bt] at s;generalize cj u d a=bZ at*;have ao:=K.wt;have aK:=ae.a_ (k:=6) w ao.len;obtain ⟨ar,aw,ag,ah,ai,ak,aA,aB,bf,bh,rfl,S,T⟩:=ao.t;refine au.kp [31,30,1,2,4,29] (λq tm j=>l=j/\ ∃ax,M tm 7= .W 0 [.int .i64 v,.int .i64 0,.str C I,.str 0 0,e,.V]/\M tm 9= .W ax [.int .i64 ar,.int .i64 aw,.str ag ah,.str ai ak,aA,aB]/\q tm) ?_ ?_
        . simp only [go_sem,hF,ae.O,aK,S.J,T.J];exact an.mk ⟨rfl,_,by simp only [go_sem,hF];trivial⟩
        clear hF;rintro tm _ ⟨rfl,ax,hF⟩;simp only [go_sem,hF,L.O,N,bz,bH,g.O,aE,s.O,s.ok,s.cs];exact au.next (aP,af) rfl s ay
      . rintro ⟨e,l⟩ tm g hF;simp only at g hF;rw [fT ab] at g;simp only [go_sem];exact an.mk ⟨e,g,ay⟩
    clear hF;rintro tm l ⟨e,Q,hF⟩;have bB: ∀c,((o.take c).flatMap λa=>f (M (cj u d a) 4)).length<=110000:=λc=>by
     have:=nF (λa=>f (M (cj u d a) 4)) (100000+8*d) (o.take c) λa bG=>(rh z Y ab (bn a (hQ bG))).2;have bw:(o.take c).length<=1:=by rw [h6];omega
     have b1:(o.take c).length*(100000+8*d)<=1*(100000+8*d):=fU _ bw;omega
    refine dJ.kp [4] (λq tm j=> ∃e,P 35 6 H j e (h.map (cj u d)++o.flatMap λa=>f (M (cj u d a) 4))/\M tm 7= .W 0 [.int .i64 v,.int .i64 0,.str C I,.str 0 0,e,.V]/\q tm) ?_ ?_
    . simp only [go_sem,hF,B.O,B.len];generalize bx:a1 _ _ _ _ _ _ _ _ _ _=aC;revert aC;refine cv [1,4,45] (λp=> [(7,.W 0 [.int .i64 v,.int .i64 0,.str C I,.str 0 0,p.1,.V])]) (λp=>p.2) (λc p=>P 35 6 H p.2 p.1 (h.map (cj u d)++(o.take c).flatMap λa=>f (M (cj u d a) 4))) o.length (e,l) (by simpa using Q) ?_ ?_
      . clear hF;rintro c ⟨e,l⟩ tm aH g hF;simp only at g hF|-;obtain ⟨a,w⟩:=bA aH;have aJ:=aV w;have K:=bn a aJ;have N:=λtm=>aX ad n ab ab a u x l K z Y L g.tidy tm;have bC:=(rh z Y ab K).1;have ba:=bB (c+1);rw [kR _ w,bD] at ba;have aU:h.map (cj u d)++(o.take (c+1)).flatMap (λa=>f (M (cj u d a) 4))=(h.map (cj u d)++(o.take c).flatMap λa=>f (M (cj u d a) 4))++f (M (cj u d a) 4):=by rw [kR _ w,fu]
        have b5:(h.map (cj u d)++(o.take c).flatMap λa=>f (M (cj u d a) 4)).length=h.length+((o.take c).flatMap λa=>f (M (cj u d a) 4)).length:=by rw [bD,a8]
        generalize h.map (cj u d)++(o.take c).flatMap (λa=>f (M (cj u d a) 4))=bQ at*;obtain ⟨b8,cc,bS,bT,bU,bV,bP,cr,bg,b9,bI,a6,-⟩:=bC.ea;obtain ⟨aW,-,-,-,-,aG,b2,-,-⟩:=bI;have br:f (M (cj u d a) 4)=bg:=by rw [aW];exact bm aG
        rw [br] at ba aU;rw [aW] at N;obtain ⟨aP,af,aE,s,-⟩:=g.app (k:=6) (E:=G) (t:=33) (b:=96) (i:=t35) Ah aq rfl rfl al al (x:=bP) (aQ:=bg) (dR aG λr U=>(a6 r U).len) (λr U=>(a6 r U).row) ab;have ao:=K.wt;have aK:=B.a_ (k:=6) w ao.len;obtain ⟨ar,aw,ag,ah,ai,ak,aA,aB,bf,bh,rfl,S,T⟩:=ao.t;refine au.kp [47,46,1,4,45] (λq tm j=>l=j/\ ∃ax,M tm 7= .W 0 [.int .i64 v,.int .i64 0,.str C I,.str 0 0,e,.V]/\M tm 11= .W ax [.int .i64 ar,.int .i64 aw,.str ag ah,.str ai ak,aA,aB]/\q tm) ?_ ?_
        . simp only [go_sem,hF,B.O,aK,S.J,T.J];exact an.mk ⟨rfl,_,by simp only [go_sem,hF];trivial⟩
        clear hF;rintro tm _ ⟨rfl,ax,hF⟩;simp only [go_sem,hF,L.O,N,aG.O,bH,g.O,aE,s.O,s.ok,s.cs];exact au.next (aP,af) rfl (by show P _ 6 H _ _ (_++(o.take (c+1)).flatMap _);rw [aU];exact s) ay
      . rintro ⟨e,l⟩ tm g hF;simp only at g hF;rw [bX] at g;simp only [go_sem];exact an.mk ⟨e,g,ay⟩
    clear hF Q;rintro tm bR ⟨e,Q,hF⟩;obtain ⟨af,bq,cm,bN,-⟩:=Q.aZ 48 al al;simp only [go_sem,hF,Q.ok];refine dJ.mk (wB (H':=af) ?_) ⟨rfl,gV aN (bN H (aT _) Q.up) ?_⟩
    . simp only [cD,Go.aj.zB,Go.aj.wC,Go.aj.Ez,bq]
    . show List.all [_,_,_,_,_,_] (y H.n 19)=true;simp only [aO,fR H.n 19 19 _ (aT _) ((fW _).aI 18)];rfl
 obtain ⟨_,_,⟨rfl,rfl⟩,aS⟩:=this;exact aS
def jf (q:Bool×Nat×Nat×Nat):List aa:=if q.1 then fb (c_ q.2.1 q.2.2.1 q.2.2.2) else n2 (c_ q.2.1 q.2.2.1 q.2.2.2)
theorem Ql (q):(jf q).length=6:=by unfold jf;split<;>rfl
section
variable {ax:aa} {s:List aa} {ar aw rop ao aJ:Y} (ag:dO ax s ar aw rop ao aJ)
include ag
def l7 (ar aw rop ao aJ:Y) (t:List aa):Bool:=pt ar aw aJ (eh ar rop ao t).1 (eh ar rop ao t).2
theorem Vs (a:List (Bool×Nat×Nat×Nat)) (aK: ∀q∈a,q.2.1<10) (bl:a.length<=100) {u:Sub} (aj:c7 u):bo λad n=> ∀y x H,F y (a.map jf)->F x (u.map cg)->Z H->
  ∀tm,az G (X G R ad n) 52 [ax,y,x] H tm= .ok (.bool (a.all λq=>l7 ar aw rop ao aJ ((dw u q.2.1).getD eb)==q.1)) tm H:=by
 obtain ⟨bd,bs,bf,bt,bu,bw⟩:=ag.val;have ae: ∀b,aN ((dw u b).getD eb):=λb=>by
  cases e:dw u b with
  |none=>exact w7
  | some bc=>
    unfold dw at e
    cases I:u.find? λP=>P.1==b with
    |none=>rw [I] at e;cases e
    | some P=>
      rw [I] at e;simp only [jV,N] at e;subst e;exact aj.wt P (yS I)
 obtain ⟨aZ,aG⟩:=DD;obtain ⟨a6,aH⟩:=C.all (l:=a) (f:=87) (g:=λq=> [ax,.agg ((dw u q.2.1).getD eb)]) (v:=λq=> .str (eh ar rop ao ((dw u q.2.1).getD eb)).1 (eh ar rop ao ((dw u q.2.1).getD eb)).2) λq _=>v_ ag (ae _);obtain ⟨a7,aI⟩:=C.all (l:=a) (f:=86) (g:=λq=> [ax,.str (eh ar rop ao ((dw u q.2.1).getD eb)).1 (eh ar rop ao ((dw u q.2.1).getD eb)).2]) (v:=λq=> .bool (l7 ar aw rop ao aJ ((dw u q.2.1).getD eb))) λq _=>Jg ag _ _;refine ⟨aZ+a6+a7+110,λad n e bn y x H j L p=> ?_⟩;obtain ⟨n,rfl⟩:=bY n;have aP:(a.map jf).length=a.length:=di ..
 have al:=j.len;rw [aP] at al;refine fa (aL.at (m:=40) (rs:= [.tmp 6]) rfl rfl rfl rfl rfl (by simp only [aO,j.aD,L.aD,bf];rfl) rfl rfl ?_);simp only [go_sem,j.O,al];have hF:=trivial;generalize bm:a1 _ _ _ _ _ _ _ _ _ _=av;revert av;refine dA [0,2,12] (λr=>(a.take r).all (λq=>l7 ar aw rop ao aJ ((dw u q.2.1).getD eb)==q.1)=true) a.length ai ?_ ?_
 . rintro r bb tm aU w hF;obtain ⟨q,K⟩:=bA aU;have B:=aV K;have V:=aK q B;have aY:(a.map jf)[r]? =some (jf q):=by rw [hO,K];rfl
   have z:=j.a_ (k:=6) aY (Ql q);have E:=λtm=>aG ad n ab ab u x q.2.1 H aj L V p tm;have S:=λtm=>aH ad n ab ab q B H tm p;have T:=λtm=>aI ad n ab ab q B H tm p;have af: ∀c:(l7 ar aw rop ao aJ ((dw u q.2.1).getD eb)==q.1)=true,(a.take (r+1)).all (λq=>l7 ar aw rop ao aJ ((dw u q.2.1).getD eb)==q.1)=true:=λc=>by rw [fg,K];simp only [rE,w,Db,aO,jm,c,tu]
   have ah: ∀c:(l7 ar aw rop ao aJ ((dw u q.2.1).getD eb)==q.1)=false,(a.all λq=>l7 ar aw rop ao aJ ((dw u q.2.1).getD eb)==q.1)=false:=λc=>by rw [List.all_eq_false];exact ⟨q,B,by rw [c];decide⟩
   have aX:=ae q.2.1;generalize (a.all λq=>l7 ar aw rop ao aJ ((dw u q.2.1).getD eb)==q.1)=bj at*;generalize l7 ar aw rop ao aJ ((dw u q.2.1).getD eb)=bk at*;generalize aW:eh ar rop ao ((dw u q.2.1).getD eb)=br at*;clear aW;generalize (dw u q.2.1).getD eb=bc at*;obtain ⟨a8,ba,aA,aB,aC,aF,bg,bh,bp,bq,rfl,aQ,aR⟩:=aX.t;obtain ⟨D,b,h,i⟩:=q;simp only at E S T af ah V;have aS:F (.A [c_ b h i] true) [c_ b h i]:= .inr ⟨_,rfl⟩;have Y:=aS.vJ (k:=6) rfl rfl;have aT:F (.A [fb (c_ b h i)] true) [fb (c_ b h i)]:= .inr ⟨_,rfl⟩;have aa:=aT.vJ (k:=6) rfl rfl;refine au.bM (λtm d=>H=d/\ ∃Q,aM 43 [(14,.int .i64 (r:Nat)),(13,.int .i64 (a.length:Nat)),(0,ax),(2,x),(12,y),(8,.W Q (jf (D,b,h,i)))] tm) ?_ ?_
   . cases D
     . simp only [jf,n2,fb,cm,eJ,if_false] at z|-;simp only [go_sem,hF,j.O,z];exact an.mk ⟨rfl,_,by simp only [go_sem,hF];trivial⟩
     . simp only [jf,n2,fb,cm,if_true] at z|-;simp only [go_sem,hF,j.O,z];exact an.mk ⟨rfl,_,by simp only [go_sem,hF];trivial⟩
   clear hF;rintro tm _ ⟨rfl,Q,hF⟩;refine au.bF hF (λo tm d=>H=d/\aM 43 [(9,.bool true)] tm/\o tm) ?_ ?_
   . simp only [go_sem];exact an.mk ⟨rfl,ay⟩
   clear hF;rintro tm _ ⟨rfl,hF⟩;refine au.kp [14,13,0,2,12] (λo tm d=>H=d/\M tm 8= .W Q (fb (c_ b h i))/\M tm 9= .bool D/\o tm) ?_ ?_
   . cases D
     . simp only [jf,n2,fb,cm,eJ,if_false] at hF aa|-;simp only [go_sem,hF,aa];exact an.mk ⟨rfl,ay⟩
     . simp only [jf,n2,fb,cm,if_true] at hF|-;simp only [go_sem,hF];exact an.mk ⟨rfl,ay⟩
   clear hF;rintro tm _ ⟨rfl,hF⟩;refine au.kp [14,13,0,2,12,9] (λo tm d=>H=d/\ ∃aq,M tm 10= .W aq [.int .i64 a8,.int .i64 ba,.str aA aB,.str aC aF,bg,bh]/\o tm) ?_ ?_
   . simp only [fb,cm,c_,cn] at hF Y E|-;simp only [go_sem,hF.1,hF,Y,L.O,E,aQ.J,aR.J];exact an.mk ⟨rfl,_,by simp only [go_sem,hF];trivial⟩
   clear hF;rintro tm _ ⟨rfl,aq,hF⟩;simp only [go_sem,hF,bd,S,T];refine au.aE ?_ ?_<;>intro c<;>try simp only [go_sem,c]
   . refine au.stop rfl ?_;simp only [go_sem,hF];exact ak.mk (by rw [ah (by simpa using c)]) rfl p (U.refl _)
   . exact au.next () rfl (af (by simpa using c)) ay
 . rintro bb tm w hF;rw [bX] at w;simp only [go_sem,hF];exact ak.mk (by rw [w]) rfl p (U.refl _)
end
def sU (a b:Int):Int:=if decide (a<b) then -1 else if decide (a>b) then 1 else 0
def abq:d G R 234 (λ_:Int×Int=>True) (λp=> [.int .i64 p.1,.int .i64 p.2]) (λp=> .int .i64 (sU p.1 p.2)):=by
 obtain ⟨q,o⟩:d G R 297 (λ_:Int=>True) (λp=> [.int .i64 p]) (λ_=> .bool false):=by refine d.run (m:=5) rfl rfl rfl rfl (λ_=>rfl) (λ_ _=>rfl) rfl rfl 0 λj k g h b _ c a=> ?_;have l:(b !=b)=false:=ai;simp only [go_sem,l];exact e.mk rfl a (U.refl _)
 refine d.run (m:=18) rfl rfl rfl rfl (λ_=>rfl) (λ_ _=>rfl) rfl rfl q λj k g h b _ c a=> ?_;have f:=λr s=>o j k g h r trivial c s a;simp only at f;simp only [go_sem,f]
 iterate 2 all_goals try (refine e.aE ?_ ?_<;>intro n<;>try simp only [go_sem,n])
 all_goals refine e.i a (U.refl _) ?_
 all_goals unfold sU
 all_goals simp [*]
def abr:d G R 233 (λ_:Int×Int=>True) (λp=> [.int .i64 p.1,.int .i64 p.2]) (λp=> .int .i64 (sU p.1 p.2)):=by
 obtain ⟨q,o⟩:d G R 296 (λ_:Int=>True) (λp=> [.int .i64 p]) (λ_=> .bool false):=by refine d.run (m:=5) rfl rfl rfl rfl (λ_=>rfl) (λ_ _=>rfl) rfl rfl 0 λj k g h b _ c a=> ?_;have l:(b !=b)=false:=ai;simp only [go_sem,l];exact e.mk rfl a (U.refl _)
 refine d.run (m:=18) rfl rfl rfl rfl (λ_=>rfl) (λ_ _=>rfl) rfl rfl q λj k g h b _ c a=> ?_;have f:=λr s=>o j k g h r trivial c s a;simp only at f;simp only [go_sem,f]
 iterate 2 all_goals try (refine e.aE ?_ ?_<;>intro n<;>try simp only [go_sem,n])
 all_goals refine e.i a (U.refl _) ?_
 all_goals unfold sU
 all_goals simp [*]
def UW:bo λad n=> ∀x rows H,F x rows->(∀r∈rows,∃i:Int,r= [.int .i64 i])->rows.length<=10->Z H-> ∃i:Int,∀tm,az G (X G R ad n) 232 [x] H tm= .ok (.int .i64 i) tm H:=by
 refine ⟨20,λad n p s x rows H a j q d=> ?_⟩;obtain ⟨n,rfl⟩:=bY n;have: ∃b,me b/\ ∀tm,az G (X G R ad (n+1)) 232 [x] H tm= .ok b tm H:=by
  refine hg (aL.at (m:=17) (rs:= [.tmp 2]) rfl rfl rfl rfl rfl (by simp only [aO,a.aD];rfl) rfl rfl ?_);simp only [go_sem,a.O,a.len];have hF:=trivial;generalize o:a1 _ _ _ _ _ _ _ _ _ _=e;revert e;refine dA [3,6] (λ_=>True) rows.length trivial ?_ ?_
  . rintro t l tm h-hF;obtain ⟨r,c⟩:=bA h;obtain ⟨i,rfl⟩:=j r (aV c);simp only [go_sem,hF,a.O,a.a_ (k:=1) c rfl];refine au.aE ?_ ?_<;>intro g<;>try simp only [go_sem,hF,g]
    . exact au.stop rfl (by simp only [go_sem,hF];exact ak.it d (U.refl _))
    . exact au.next () rfl trivial ay
  . rintro l tm-hF;simp only [go_sem,hF];exact ak.it d (U.refl _)
 obtain ⟨b,⟨i,rfl⟩,f⟩:=this;exact ⟨i,f⟩
theorem I6 {ad n:Nat} {x y:aa} {A e:Y} (d:F x A) (c:F y e) (ae: ∀r∈A,aN r) (ag: ∀r∈e,aN r) (aP:A.length<ad) (aJ:A.length<4611686018427387904) {H:af} (p:Z H)
  (V: ∀a∈A,∀b∈e,∃i:Int,∀tm,az G (X G R ad n) 159 [.agg a,.agg b] H tm= .ok (.int .i64 i) tm H):
  ∃i:Int,∀tm,az G (X G R ad (n+1)) 236 [x,y,.fn (.func 159) [] []] H tm= .ok (.int .i64 i) tm H:=by
 have : ∃q,me q/\ ∀tm,az G (X G R ad (n+1)) 236 [x,y,.fn (.func 159) [] []] H tm= .ok q tm H:=by
  refine hg (aL.at (m:=36) (rs:= [.tmp 6]) rfl rfl rfl rfl rfl (by simp only [aO,d.aD,c.aD];rfl) rfl rfl ?_);simp only [go_sem,d.O,d.len];have hF:=trivial;generalize aK:a1 _ _ _ _ _ _ _ _ _ _=E;revert E;refine dA [0,1,2,11] (λ_=>True) A.length trivial ?_ ?_
  . rintro g aC tm ar-hF;obtain ⟨a,s⟩:=bA ar;have u:=aV s;have v:=ae a u;have aj:=d.a_ (k:=6) s v.len;have ab:=V a u;obtain ⟨aw,aA,I,K,L,N,aF,aH,aQ,aS,rfl,ah,ai⟩:=v.t;refine au.bM (λtm f=>H=f/\ ∃C,aM 39 [(13,.int .i64 (g:Nat)),(12,.int .i64 (A.length:Nat)),(0,x),(1,y),(2,.fn (.func 159) [] []),(11,x),(7,.int .i64 (g:Nat)),(8,.W C [.int .i64 aw,.int .i64 aA,.str I K,.str L N,aF,aH])] tm) ?_ ?_
    . simp only [go_sem,hF,d.O,aj,ah.J,ai.J];exact an.mk ⟨rfl,_,by simp only [go_sem,hF];trivial⟩
    clear hF;rintro tm _ ⟨rfl,C,hF⟩;by_cases av:g<e.length
    . have j:decide ((g:Int)>=(e.length:Int))=false:=da;obtain ⟨b,w⟩:=bA av;have z:=aV w;have B:=ag b z;have aq:=c.a_ (k:=6) w B.len;obtain ⟨i,l⟩:=ab b z;obtain ⟨ax,aB,P,Q,S,T,aG,aI,aR,aT,rfl,al,ao⟩:=B.t;refine au.bF hF (λh tm f=>H=f/\h tm) ?_ ?_
      . simp only [go_sem,hF,c.O,c.len,j];exact an.mk ⟨rfl,ay⟩
      clear hF;rintro tm _ ⟨rfl,hF⟩;refine au.kp [13,12,0,1,2,11,8] (λh tm f=>H=f/\ ∃D,M tm 9= .W D [.int .i64 ax,.int .i64 aB,.str P Q,.str S T,aG,aI]/\h tm) ?_ ?_
      . simp only [go_sem,hF,c.O,aq,al.J,ao.J];exact an.mk ⟨rfl,_,by simp only [go_sem,hF];trivial⟩
      clear hF;rintro tm _ ⟨rfl,D,hF⟩;simp only [go_sem,hF,eg,l];refine au.aE ?_ ?_<;>intro o<;>try simp only [go_sem,hF,o]
      . exact au.stop rfl (by simp only [go_sem,hF];exact ak.it p (U.refl _))
      . exact au.next () rfl trivial ay
    . have j:decide ((g:Int)>=(e.length:Int))=true:=da;simp only [go_sem,hF,c.O,c.len,j];exact au.stop rfl (by simp only [go_sem,hF];exact ak.it p (U.refl _))
  . rintro aC tm-hF;simp only [go_sem,hF,d.O,d.len,c.O,c.len];refine ak.aE ?_ ?_<;>intro o<;>try simp only [go_sem,hF,o]
    all_goals exact ak.it p (U.refl _)
 obtain ⟨q,⟨i,rfl⟩,l⟩:=this;exact ⟨i,l⟩
theorem O5 (a b c d:Int) (H:af):cT G 50 4 [(0,.int .i64 a),(1,.int .i64 b),(2,.int .i64 c),(3,.int .i64 d)] H=some (.A [[.int .i64 a],[.int .i64 b],[.int .i64 c],[.int .i64 d]] true,H):=by rfl
theorem O4 (a b:Int) (H:af):cT G 50 2 [(0,.int .i64 a),(1,.int .i64 b)] H=some (.A [[.int .i64 a],[.int .i64 b]] true,H):=by rfl
def UX {a:List aa} (r:aN a): ∀ {b:List aa},aN b->dt 159 [.agg a,.agg b] me bQ:=by
 induction r with
 | @mk ax ae ag aq au ar av bd bg ah al q aS aT aZ a1=>
 intro b s;obtain ⟨af,aw,D,E,F,H,bf,bh,aj,ao,aW,V,Y⟩:=s.ea;obtain ⟨rfl,u,v⟩:=aW.c;obtain ⟨rfl,-,-,-,-,y,z,aU,aV⟩:=q
 obtain ⟨a6,aK⟩:=dE (l:=ah) (Q:=λp i h=> ∀k∈aj,∀e,Z e-> ∃o,me o/\ ∀d,az G (X G R i h) 159 [.agg p,.agg k] e d= .ok o d e) λp x=>
  aL.j8 (l:=aj) (f:=159) (g:=λk=> [.agg p,.agg k]) (S:=λ_=>me) λk w=>aZ p x (V k w)
 obtain ⟨a7,aO⟩:=dE (l:=al) (Q:=λp i h=> ∀k∈ao,∀e,Z e-> ∃o,me o/\ ∀d,az G (X G R i h) 159 [.agg p,.agg k] e d= .ok o d e) λp x=>
  aL.j8 (l:=ao) (f:=159) (g:=λk=> [.agg p,.agg k]) (S:=λ_=>me) λk w=>a1 p x (Y k w)
 obtain ⟨a8,aP⟩:=abq;obtain ⟨ba,aQ⟩:=abr;obtain ⟨bb,aR⟩:=MS;obtain ⟨bc,P⟩:=UW;refine aL.run (m:=41) rfl rfl rfl rfl rfl rfl rfl rfl (a6+a7+a8+ba+bb+bc+ah.length+al.length+2) λi h bj bk e j=> ?_;obtain ⟨h,rfl⟩:=bY h;have I:=λa b d=>aP i (h+1) ab ab (a,b) trivial e d j;have K:=λa b d=>aQ i (h+1) ab ab (a,b) trivial e d j;have L:=λa b aB aC d=>aR i (h+1) ab ab (a,b,aB,aC) trivial e d j;simp only at I K L;obtain ⟨bl,aF⟩:=P i (h+1) ab ab (.A [[.int .i64 (sU ae af)],[.int .i64 (sU ag aw)],[.int .i64 (u6 aq au D E)],[.int .i64 (u6 ar av F H)]] true) _ e (.inr ⟨_,rfl⟩) (λax q=>by simp only [b2,dG,or_false] at q;rcases q with rfl|rfl|rfl|rfl<;>exact ⟨_,rfl⟩) ai j;have T: ∀ {M:Nat} {C:List aa} {e},(∃o,me o/\ ∀d,az G (X G R i h) M C e d= .ok o d e)-> ∃B:Int,∀d,az G (X G R i h) M C e d= .ok (.int .i64 B) d e:=λ⟨o,⟨B,aD⟩,N⟩=>⟨B,by rw [aD] at N;exact N⟩;obtain ⟨aX,aG⟩:=I6 (ad:=i) (n:=h) y u aS V ab aU j λa r b s=>T (aK i h ab ab a r b s e j);obtain ⟨aY,aH⟩:=I6 (ad:=i) (n:=h) z v aT Y ab aV j λa r b s=>T (aO i h ab ab a r b s e j);obtain ⟨bm,aI⟩:=P i (h+1) ab ab (.A [[.int .i64 aX],[.int .i64 aY]] true) _ e (.inr ⟨_,rfl⟩) (λax q=>by simp only [b2,dG,or_false] at q;rcases q with rfl|rfl<;>exact ⟨_,rfl⟩) ai j;refine ak.bM (λd t=>e=t/\aM 43 [(2,.W 0 [.int .i64 ae,.int .i64 ag,.str aq au,.str ar av,bd,bg]),(3,.W 0 [.int .i64 af,.int .i64 aw,.str D E,.str F H,bf,bh])] d) ?_ ?_
 . simp only [go_sem,y.J,z.J,u.J,v.J];exact an.mk ⟨rfl,dC⟩
 rintro d _ ⟨rfl,hF⟩;refine ak.bF hF (λaA d t=>e=t/\aA d) ?_ ?_
 . simp only [go_sem,hF,I,K,L,O5,bH,aF];refine an.aE ?_ ?_<;>intro aJ<;>try simp only [go_sem,hF,aJ]
   . exact an.stop rfl (by simp only [go_sem,hF];exact ak.it j (U.refl _))
   . exact an.mk ⟨rfl,ay⟩
 clear hF;rintro d _ ⟨rfl,hF⟩;simp only [go_sem,hF,y.O,z.O,u.O,v.O,aG,aH,O4,bH,aI];exact ak.it j (U.refl _)
section
variable {ax:aa} {s:List aa} {ar aw rop ao aJ:Y} (ag:dO ax s ar aw rop ao aJ)
include ag
theorem UZ {r} (aF:aN r):dt 83 [ax,.agg r] dI bQ:=by
 induction aF with
 | @mk r z a8 A B ae af aR bc d ck aF n b8 bH _=>
 obtain ⟨bI,bn⟩:=aL.j8 bH;obtain ⟨bJ,bo⟩:=MO ag;obtain ⟨bK,bp⟩:=C.all (l:=d) (f:=87) (g:=λb=> [ax,.agg b]) (v:=λb=> .str (eh ar rop ao b).1 (eh ar rop ao b).2) λb aG=>v_ ag (n b aG);obtain ⟨bL,bq⟩:=Af ag;obtain ⟨bN,br⟩:=aL.j8 (l:=d) (f:=158) (g:=λr=> [.agg r]) (S:=λ_=>dI) λr i=>Jd (n r i)
 obtain ⟨bO,bs⟩:=dE (l:=d) (Q:=λb u w=> ∀y∈d,∀h,Z h-> ∃L,me L/\ ∀a,az G (X G R u w) 159 [.agg b,.agg y] h a= .ok L a h) λb aG=>
  aL.j8 (l:=d) (f:=159) (g:=λy=> [.agg b,.agg y]) (S:=λ_=>me) λy bB=>UX (n b aG) (n y bB)
 obtain ⟨aP,cv,b0,cw,cx,cy⟩:=ag.val;have bx:=qA ag.bT.op A B;refine aL.run (m:=108) rfl rfl rfl rfl rfl (by simp only [aO,b0];rfl) rfl rfl (bI+bJ+bK+bL+bN+bO+d.length+2) λu w aZ ca h j=> ?_;have aS:=λa=>bo u w ab ab (A,B) trivial h a j;simp only at aS;have aT:=λbP bU ae af a=>bq u w ab ab (bP,bU,ae,af) trivial h a j;simp only at aT;obtain ⟨rfl,-,-,-,-,c,aH,cb,cc⟩:=aF;generalize iQ rop A B=cm at*;generalize j0 rop A B=cn at*;obtain ⟨bR,bV,aq,bS,bX,cr,⟨⟨bf,bY,bZ,bG,aa,rfl,F,bC,⟨cq,bz,-⟩⟩,-,-,-,-,bD,-,-,-⟩⟩:=bx;refine ak.bM (λa o=>h=o/\aM 110 [(0,ax),(3,.W 0 [.int .i64 z,.int .i64 a8,.str A B,.str ae af,aR,bc]),(7,.av [])] a) ?_ ?_
 . simp only [go_sem,c.J,aH.J];exact an.mk ⟨rfl,dC⟩
 rintro a _ ⟨rfl,hF⟩;refine ak.bF hF (λD a o=>h=o/\D a) ?_ ?_
 . simp only [go_sem,hF]
   iterate 2 all_goals try (refine an.aE ?_ ?_<;>intro p<;>simp only [go_sem,hF,p,aH.O,aH.len])
   all_goals first
    |exact an.mk ⟨rfl,ay⟩
    |exact an.stop rfl (by simp only [go_sem,hF];exact ak.bW j (U.refl _))
 clear hF;rintro a _ ⟨rfl,hF⟩;refine ak.bF hF (λD a o=>h=o/\D a) ?_ ?_
 . simp only [go_sem,hF,c.O,c.len];generalize aX:a1 _ _ _ _ _ _ _ _ _ _=E;revert E;refine dA [0,3,7,22] (λ_=>True) d.length trivial ?_ ?_
   . clear hF;intro aa s a Y aC hF;obtain ⟨b,q⟩:=bA Y;have i:=aV q;obtain ⟨L,⟨bg,rfl⟩,bh⟩:=bn u w ab ab b i h j;have H:=(n b i).len;have x:=c.a_ (k:=6) q H;obtain ⟨ad,ah,M,P,N,T,aj,al,aI,aK,rfl,I,K⟩:=(n b i).t;simp only [go_sem,hF,c.O,x,I.J,K.J,aP,bh];refine au.aE ?_ ?_<;>intro p<;>try simp only [go_sem,p]
     all_goals first
      |exact au.next () rfl trivial ay
      |exact au.stop rfl (by simp only [go_sem];exact an.stop rfl (by simp only [go_sem,hF];exact ak.bW j (U.refl _)))
   . intro s a aC hF;simp only [go_sem];exact an.mk ⟨rfl,ay⟩
 clear hF;rintro a _ ⟨rfl,hF⟩;refine ak.bM (λa o=>h=o/\aM 110 [] a) ?_ ?_
 rotate_left
 . rintro a _ ⟨rfl,hF⟩;simp only [go_sem,hF];exact ak.bW j (U.refl _)
 refine an.bF hF (λD a o=>h=o/\aM 110 [(34,.int .i64 z)] a/\D a) ?_ ?_
 . simp only [go_sem,hF];exact an.mk ⟨rfl,ay⟩
 clear hF;rintro a _ ⟨rfl,hF⟩;by_cases aY:z=5
 . have aB:(z==5)=true:=by simpa using aY
   simp only [go_sem,hF,aB,aP,aS,F.J,bC.J,bz.J];refine an.aE ?_ ?_<;>intro p<;>try simp only [go_sem,hF,p,F.O,F.len,c.O,c.len]
   rotate_left
   . exact an.stop rfl (by simp only [go_sem,hF];exact ak.bW j (U.refl _))
   refine an.aE ?_ ?_<;>intro aW<;>try simp only [go_sem,hF,aW,c.O,c.len]
   . exact an.stop rfl (by simp only [go_sem,hF];exact ak.bW j (U.refl _))
   have b9:aq.length=d.length:=by simp at aW;omega
   generalize aX:a1 _ _ _ _ _ _ _ _ _ _=E;revert E;refine dA [0,7,56] (λ_=>True) d.length trivial ?_ ?_
   . clear hF;intro e s a Y aC hF;obtain ⟨b,q⟩:=bA Y;obtain ⟨y,a6⟩: ∃r,aq[e]? =some r:=⟨aq[e]'ab,ai⟩;have i:=aV q;have bj:=λa=>bp u w ab ab b i h a j;obtain ⟨b2,b5,rfl,-⟩:=bD y (aV a6);have H:=(n b i).len;have x:=c.a_ (k:=6) q H;have bt:=F.a_ (k:=1) a6 rfl;generalize eh ar rop ao b=ct at*;obtain ⟨ad,ah,M,P,N,T,aj,al,aI,aK,rfl,I,K⟩:=(n b i).t;refine au.bM (λa o=>h=o/\ ∃ba,aM 110 [(58,.int .i64 (e:Nat)),(57,.int .i64 (d.length:Nat)),(0,ax),(7,.W 0 [.str bR bV,bf,.str bS bX,bY,.int .i64 bG,.int .i64 aa,bZ]),(56,aR),(9,.int .i64 (e:Nat)),(10,.W ba [.int .i64 ad,.int .i64 ah,.str M P,.str N T,aj,al])] a) ?_ ?_
     . simp only [go_sem,hF,c.O,x,I.J,K.J];exact an.mk ⟨rfl,_,by simp only [go_sem,hF];trivial⟩
     clear hF;rintro a _ ⟨rfl,ba,hF⟩;simp only [go_sem,hF,aP,bj,F.O,bt,aT];refine au.aE ?_ ?_<;>intro p<;>try simp only [go_sem,p]
     all_goals first
      |exact au.next () rfl trivial ay
      |exact au.stop rfl (by simp only [go_sem];exact an.stop rfl (by simp only [go_sem,hF];exact ak.bW j (U.refl _)))
   . intro s a aC hF;have aZ:=hF.len;simp only [go_sem];exact an.mk ⟨rfl,aZ⟩
 . have aB:(z==5)=false:=by simpa using aY
   simp only [go_sem,hF,aB];refine an.aE ?_ ?_<;>intro bl<;>try simp only [go_sem,bl]
   rotate_left
   . exact an.mk ⟨rfl,ay⟩
   generalize aX:a1 _ _ _ _ _ _ _ _ _ _=E;revert E;refine rP _ _ _ _ (λaa a bd=>h=bd/\aM 110 [(3,.W 0 [.int .i64 z,.int .i64 a8,.str A B,.str ae af,aR,bc]),(11,.int .i64 ((2*aa:Nat):Int))] a) d.length ab ⟨rfl,by simp only [go_sem,hF];trivial⟩ ?_;clear hF;rintro e a _ Y ⟨rfl,hF⟩;by_cases bw:2*e<d.length
   . have V:decide (((2*e:Nat):Int)<(d.length:Int))=true:=da;obtain ⟨b,q⟩: ∃r,d[2*e]? =some r:=⟨d[2*e],by simp [bw]⟩;have i:=aV q;obtain ⟨L,⟨bg,rfl⟩,aU⟩:=br u w ab ab b i h j;have H:=(n b i).len;have x:=c.a_ (k:=6) q H;have bb:IntKind.i64.wrap (((2*e:Nat):Int)+2)=((2*(e+1):Nat):Int):=by rw [wrap64 _ ab ab];omega
     by_cases bm:e=0
     . subst bm;have aA:decide (((2*0:Nat):Int)>0)=false:=rfl;obtain ⟨ad,ah,M,P,N,T,aj,al,aI,aK,rfl,I,K⟩:=(n b i).t;simp only [go_sem,hF,c.O,c.len,V,x,aU]
       iterate 2 all_goals try (refine dy.aE ?_ ?_<;>intro p<;>try simp only [go_sem,hF,p,aA,bb])
       all_goals first
        |exact dy.next (by show 0<d.length;omega) ⟨rfl,ay⟩
        |exact dy.stop rfl (by simp only [go_sem];exact an.stop rfl (by simp only [go_sem,hF];exact ak.bW j (U.refl _)))
     . have aA:decide (((2*e:Nat):Int)>0)=true:=da;have b1:IntKind.i64.wrap (((2*e:Nat):Int)-2)=((2*(e-1):Nat):Int):=by rw [wrap64 _ ab ab];omega
       obtain ⟨aQ,a7⟩: ∃r,d[2*(e-1)]? =some r:=⟨d[2*(e-1)]'ab,ai⟩;have aD:=aV a7;have bE:=(n aQ aD).len;have bu:=c.a_ (k:=6) a7 bE;obtain ⟨L,⟨cp,rfl⟩,bk⟩:=bs u w ab ab aQ aD b i h j;obtain ⟨ad,ah,M,P,N,T,aj,al,aI,aK,rfl,I,K⟩:=(n b i).t;obtain ⟨cj,cl,b3,b6,b4,b7,cu,cz,cg,ch,rfl,cd,cf⟩:=(n aQ aD).t;simp only [go_sem,hF,c.O,c.len,V,x,aU]
       iterate 2 all_goals try (refine dy.aE ?_ ?_<;>intro p<;>try simp only [go_sem,hF,p,c.O,x,bu,aA,b1,bk,bb])
       all_goals first
        |exact dy.next (by show e<d.length;omega) ⟨rfl,ay⟩
        |exact dy.stop rfl (by simp only [go_sem];exact an.stop rfl (by simp only [go_sem,hF];exact ak.bW j (U.refl _)))
   . have V:decide (((2*e:Nat):Int)<(d.length:Int))=false:=da;simp only [go_sem,hF,c.O,c.len,V];refine dy.stop rfl ?_;simp only [go_sem];exact an.mk ⟨rfl,ay⟩
end
section
variable {ax:aa} {s:List aa} {ar aw rop ao aJ:Y} (ag:dO ax s ar aw rop ao aJ)
include ag
theorem Jf {r} (b:aN r):dt 49 [ax,.agg r] (j9 (om 60 r)) bQ:=by
 obtain ⟨o,i⟩:=(Dz b).gg;obtain ⟨p,j⟩:=(UZ ag b).bW;obtain ⟨q,H,u,I,K,L⟩:=ag.val;refine aL.run (m:=10) rfl rfl rfl rfl rfl (by simp only [aO,u];rfl) rfl rfl (o+p) λe f B C c a=> ?_;obtain ⟨z,k,g⟩:=i e f ab ab c a;obtain ⟨A,h⟩:=j e f ab ab c a;obtain ⟨D,E,v,w,x,y,M,N,F,G,rfl,l,n⟩:=b.t;simp only [go_sem,l.J,n.J,g];refine ak.aE ?_ ?_<;>intro d<;>try simp only [go_sem,d,q,h]
 . exact ak.gg a (U.refl _) λ_=>k d
 . exact ak.gg a (U.refl _) λag=>by cases ag
end
inductive ek (B:Nat):List aa->Prop
  |mk {r k n gI mP gJ mQ y z ky i} (ag:kX r k n gI mP gJ mQ y z ky i) (afG:ky.length<=B) (afH:i.length<=B) (dh: ∀x∈ky,ek B x) (cq: ∀x∈i,ek B x):ek B r
def ek.wt {a r} (ag:ek a r):aN r:=by
 induction ag with
 |mk ag _ _ _ _ b c=>exact .mk ag b c
def ek.mono {a b r} (ag:ek a r) (e:a<=b):ek b r:=by
 induction ag with
 |mk ag f g _ _ c d=>exact .mk ag ab ab c d
def e1.abS {r n} (ag:e1 r n):ek n r:=by
 induction ag with
 | @mk r l n m p o q t u d e c ag g h j k=>
   have i:(d++e).length<=((d++e).map c).sum:=qq λb a=>((cr.1 a).elim (g b) (h b)).pos;rw [bD] at i;exact .mk ag ab ab (λb a=>(j b a).mono (by have:=o3 (f:=c) (hP e a);omega)) λb a=>(k b a).mono (by have:=o3 (f:=c) (h7 d a);omega)
inductive l_:List aa->List aa->Prop
  |mk {r k n gI mP gJ mQ y z ky i} (f:List aa->List aa) (ag:kX r k n gI mP gJ mQ y z ky i) (dh: ∀x∈ky,l_ x (f x)) (cq: ∀x∈i,l_ x (f x)):l_ r [.int .i64 k,.int .i64 n,.str gI mP,.str gJ mQ,dk (ky.map f),dk (i.map f)]
def l_.wt {r e} (ag:l_ r e):aN e:=by
 induction ag with
 | @mk r l q m o n p t u h j d ag _ _ f g=>
   exact .mk (ky:=h.map d) (i:=j.map d) ⟨rfl,ag.c5,ag.pw,ag.s1,ag.s2,fW _,fW _,by rw [di];exact ag.zm,by rw [di];exact ag.Kn⟩ (λk b=>by obtain ⟨c,a,rfl⟩:=cd.1 b;exact f c a) (λk b=>by obtain ⟨c,a,rfl⟩:=cd.1 b;exact g c a)
def I4 {ad n:Nat} {x:aa} {rows:Y} {f:List aa->List aa} {H:af} (w:Z H) (e:F x rows) (aB: ∀r∈rows,aN r) (aj: ∀r∈rows,aN (f r)) (aM:rows.length<900000) (aP:rows.length<ad)
    (T: ∀r∈rows,∀H tm,Z H->az G (X G R ad n) 53 [.agg r] H tm= .ok (.agg (f r)) tm H):
    ∃v H',P 35 6 H H' v (rows.map f)/\ ∀tm,az G (X G R ad (n+1)) 88 [x] H tm= .ok v tm H':=by
 have av:(rows.map f).length=rows.length:=di ..
 refine bn.at (m:=18) rfl rfl rfl rfl rfl (by simp only [aO,e.aD];rfl) rfl rfl ?_;simp only [go_sem,e.O,e.len];have hF:=trivial;generalize aL:a1 _ _ _ _ _ _ _ _ _ _=C;revert C;refine cv [6] (λs=> [(3,s.1)]) (λs=>s.2) (λo s=>P 35 6 H s.2 s.1 ((rows.map f).take o)) rows.length (.V,H) (P.new _ _ w) ?_ ?_
 . rintro o ⟨v,g⟩ tm ak a hF;simp only at a hF|-;obtain ⟨c,j⟩:=bA ak;have l:=aV j;have N:=λtm=>T c l g tm a.tidy;have q:=(aj c l).row;have ai:=ki q g;have u:Rows 6 [f c]:=λaT aC=>by rw [bs.1 aC];exact q
   obtain ⟨aG,B,Q,h,-⟩:=a.app (k:=6) (E:=G) (t:=33) (b:=96) (i:=t35) Ah aq rfl rfl al al (x:= .A [f c] true) (aQ:= [_]) (dR (.inr ⟨_,rfl⟩) u.len) u (by rw [h6,av];show _+1<_;omega);have S:(rows.map f)[o]? =some (f c):=by rw [hO,j];rfl
   rw [<-od S] at h;generalize f c=aK at*;have p:=aB c l;have aA:=e.a_ (k:=6) j p.len;obtain ⟨aE,aF,D,I,K,L,aH,aI,aR,aS,rfl,ae,ah⟩:=p.t;refine au.kp [8,7,6] (λz tm H'=>g=H'/\ ∃y,M tm 3=v/\M tm 5= .W y [.int .i64 aE,.int .i64 aF,.str D I,.str K L,aH,aI]/\z tm) ?_ ?_
   . simp only [go_sem,hF,e.O,aA,ae.J,ah.J];exact an.mk ⟨rfl,_,by simp only [go_sem,hF];trivial⟩
   clear hF;rintro tm _ ⟨rfl,y,hF⟩;simp only [go_sem,hF,N,ai,bH,a.O,Q,h.O];exact au.next (aG,B) rfl h ay
 . rintro ⟨v,g⟩ tm a hF;simp only at a hF;rw [fT ab] at a;simp only [go_sem,hF,a.O,a.nl,dX,if_true];exact bn.mk (a.gc w (U.refl _) (d:=19) id)
def Uk {z:Nat} (aP:z<900000) {r:List aa} (b:ek z r): ∃i,l_ r i/\K 53 [.agg r] (.agg i):=by
 induction b with
 | @mk r I L M P N Q aK aL w x b aV aW ah ai an aq=>
 have ak: ∀a∈w++x,∃i,l_ a i/\K 53 [.agg a] (.agg i):=λa d=>(cr.1 d).elim (an a) (aq a)
 classical
 let c:List aa->List aa:=λa=>if d: ∃i,l_ a i/\K 53 [.agg a] (.agg i) then Classical.choose d else []
 have q: ∀a∈w++x,l_ a (c a)/\K 53 [.agg a] (.agg (c a)):=λa d=>by have ag:=ak a d;have B:c a=Classical.choose ag:=dif_pos ag;rw [B];exact Classical.choose_spec ag
 obtain ⟨au,u⟩:=C.all (l:=w++x) (f:=53) (g:=λa=> [.agg a]) (v:=λa=> .agg (c a)) λa d=>(q a d).2;generalize c=c at*;refine ⟨_,.mk c b (λa d=>(q a (hP _ d)).1) (λa d=>(q a (h7 _ d)).1),au+z+2,λt h aQ aR e j p=> ?_⟩;obtain ⟨h,rfl⟩: ∃av,h=av+1+1:=⟨h-2,ab⟩;obtain ⟨rfl,-,-,-,-,D,E,aS,aU⟩:=b;obtain ⟨aE,A,k,U⟩:=I4 (ad:=t) (n:=h) (f:=c) p D (λr b=>(ah r b).wt) (λr b=>(q r (hP _ b)).1.wt) ab ab λr b e j p=>u t h ab ab r (hP _ b) e j p;obtain ⟨aF,aM,o,V⟩:=I4 (ad:=t) (n:=h) (f:=c) k.tidy E (λr b=>(ai r b).wt) (λr b=>(q r (h7 _ b)).1.wt) ab ab λr b e j p=>u t h ab ab r (h7 _ b) e j p;have F:=k.at o.tidy o.up;have Y:=o.mono k.up;have ae: ∀id,cW aF=some id->cW aE≠some id:=λid u Z=>by have:=o.W.ge u;have:=k.W.lt Z;omega
 obtain ⟨aN,aB,aD,aG,aA⟩:=F.aZ 48 al al;have H:=Y.bS aD (aG e (aT _) F.up) λid ay af ag=>aA id ay af (ae id ag);obtain ⟨T,aC,aX,aH,-⟩:=H.aZ 48 al al;have: ∃S A,(S= .agg [.int .i64 I,.int .i64 L,.str M P,.str N Q,dk (w.map c),dk (x.map c)]/\A=e)/\ ∀j,az G (X G R t (h+1+1)) 53 [.agg [.int .i64 I,.int .i64 L,.str M P,.str N Q,aK,aL]] e j= .ok S j A:=by
  refine dJ.at (m:=11) rfl rfl rfl rfl rfl rfl rfl rfl ?_;simp only [go_sem,D.J,E.J,D.O,E.O,U,k.O,V,o.O,k.ok,o.ok,k.cs,o.cs];refine dJ.mk (wB (H':=T) ?_) ⟨rfl,gV p (aH e (aT _) H.up) ?_⟩
  . simp only [cD,Go.aj.zB,Go.aj.wC,aB,aC]
  . show List.all [_,_,_,_,_,_] (y e.n 19)=true;simp only [aO,fR e.n 19 19 _ (aT _) ((fW _).aI 18)];rfl
 obtain ⟨_,_,⟨rfl,rfl⟩,B⟩:=this;exact B j
abbrev oj:=List (Bool×Nat×Nat×Nat)
def vv (ar aw rop ao aJ:Y) (b:oj) (u:Sub):Bool:=b.all λa=>l7 ar aw rop ao aJ ((dw u a.2.1).getD eb)==a.1
structure sz (ax:aa) (VT r:List aa) (O:Option Sub) (AA:oj) (rg:List aa):Prop where
  eq: ∃p nl n3 qT qU w n_ pc,r=j5 p nl n3 qT qU w/\F w (AA.map jf)/\rg=eX qU cM/\F qT n_/\F qU pc/\bo λad n=> ∀(PK:Bool) H,Z H-> ∃v,ka O v/\ ∀tm,az G (X G R ad n) 50 [ax,.A [[.V]] PK,.agg (eX qT cM),.agg VT] H tm= .ok v tm H
  aaJ: ∀u,O=some u->c7 u/\AN u/\ek 200000 (cj u 4 rg)
  Am:iB 4 rg
  c: ∀q∈AA,q.2.1<10
  P1:AA.length<=100
section
variable {ax:aa} {s:List aa} {ar aw rop ao aJ:Y} (ag:dO ax s ar aw rop ao aJ)
include ag
def pB (ar aw rop ao aJ:Y) (P:Option Sub->oj->List aa->Prop) (v:aa):Prop:=v= .av [.agg eb,.int .i64 4]\/
 ∃d c b a e,P d c b/\d=some a/\c7 a/\vv ar aw rop ao aJ c a=true/\om 60 (cj a 4 b)/\l_ (cj a 4 b) e/\v= .av [.agg e,.int .i64 0]
theorem Vn {aF:List aa} (cd:aN aF) (P:Option Sub->oj->List aa->Prop) (y:Y) (cH:y.length<1048560) (b3: ∀r∈y,∃g e d,sz ax aF r g e d/\P g e d):bo λad n=> ∀x H,F x y->Z H->
  ∃v,pB ar aw rop ao aJ P v/\ ∀tm,az G (X G R ad n) 28 [ax,x,.agg aF] H tm= .ok v tm H:=by
 obtain ⟨bd,cW,cA,cX,cY,cZ⟩:=ag.val;obtain ⟨cu,bW⟩:=dE (l:=y) (Q:=λr ad n=> ∃g e d,P g e d/\(∃q C E i h u aj aq,r=j5 q C E i h u/\F u (e.map jf)/\d=eX h cM/\F i aj/\F h aq/\ ∀(S:Bool) H,Z H-> ∃v,ka g v/\ ∀tm,az G (X G R ad n) 50 [ax,.A [[.V]] S,.agg (eX i cM),.agg aF] H tm= .ok v tm H)/\
   ∀ a,g=some a->c7 a/\aN (cj a 4 d)/\(∀x H,F x (a.map cg)->Z H-> ∀tm,az G (X G R ad n) 51 [.agg d,x] H tm= .ok (.agg (cj a 4 d)) tm H)/\
     (∀aG x H,F aG (e.map jf)->F x (a.map cg)->Z H-> ∀tm,az G (X G R ad n) 52 [ax,aG,x] H tm= .ok (.bool (vv ar aw rop ao aJ e a)) tm H)/\
     (∀H,Z H-> ∃aA,(aA=true->om 60 (cj a 4 d))/\ ∀tm,az G (X G R ad n) 49 [ax,.agg (cj a 4 d)] H tm= .ok (.bool aA) tm H)/\
     ∃B,l_ (cj a 4 d) B/\ ∀H tm,Z H->az G (X G R ad n) 53 [.agg (cj a 4 d)] H tm= .ok (.agg B) tm H) λr ch=>by
  obtain ⟨g,e,d,ae,aC⟩:=b3 r ch;obtain ⟨q,C,E,i,h,u,aj,aq,br,b,bw,aY,aZ,I,bk⟩:=ae.eq
  cases af:g with
  |none=>exact ⟨I,λad n bB bC=>⟨none,e,d,by rw [<-af];exact aC,⟨q,C,E,i,h,u,aj,aq,br,b,bw,aY,aZ,λS H b=>by rw [<-af];exact bk ad n bB bC S H b⟩,λa T=>by cases T⟩⟩
  | some a=>
    obtain ⟨ba,cz,bb⟩:=ae.aaJ a af;obtain ⟨K,bS⟩:=Vm 4 al;obtain ⟨L,bT⟩:=Vs ag e ae.c ae.P1 ba;obtain ⟨M,bU⟩:=(Jf ag bb.wt).gg;obtain ⟨B,ca,bE,bV⟩:=Uk al bb;refine ⟨I+K+L+M+bE,λad n bB bC=>⟨some a,e,d,by rw [<-af];exact aC,⟨q,C,E,i,h,u,aj,aq,br,b,bw,aY,aZ,λS H b=>by rw [<-af];exact bk ad n ab ab S H b⟩,λcV T=> ?_⟩⟩;cases T;exact ⟨ba,bb.wt,λx H p b tm=>bS ad n ab ab d a x H ae.Am ba cz p b tm,λaG x H cr p b tm=>bT ad n ab ab aG x H cr p b tm,λH b=>bU ad n ab ab H b,B,ca,λH tm b=>bV ad n ab ab H tm b⟩
 refine ⟨cu+y.length+10,λad n cJ cK x H p b=> ?_⟩;obtain ⟨n,rfl⟩:=bY n;have cf:=cd;obtain ⟨a6,a7,I,K,L,M,bf,bg,cP,cS,rfl,b4,b5⟩:=cf.t;refine hg (aL.at (m:=54) rfl rfl rfl rfl rfl (by simp only [aO,p.aD,cA];rfl) rfl rfl ?_);refine ak.bM (λtm o=>H=o/\aM 57 [(0,ax),(1,x),(5,.W 0 [.int .i64 a6,.int .i64 a7,.str I K,.str L M,bf,bg]),(6,.W 0 [.int .i64 0,.int .i64 0,.str 0 0,.str 0 0,.V,.V]),(7,.int .i64 0)] tm) ?_ ?_
 . simp only [go_sem,b4.J,b5.J];exact an.mk ⟨rfl,dC⟩
 rintro tm _ ⟨rfl,hF⟩;simp only [go_sem,hF,p.O,p.len];generalize b1:a1 _ _ _ _ _ _ _ _ _ _=aK;revert aK;refine dA [0,5,6,7,13] (λ_=>True) y.length trivial ?_ ?_
 rotate_left
 . rintro a8 tm-hF;simp only [go_sem,hF];exact ak.mk (.inl rfl) rfl b (U.refl _)
 clear hF;rintro bz a8 tm cc-hF;obtain ⟨r,bu⟩:=bA cc;have cl:=aV bu;obtain ⟨g,e,d,aC,⟨q,C,E,i,h,u,aj,aq,rfl,aX,rfl,aY,aZ,bX⟩,bx⟩:=bW ad n ab ab r cl;obtain ⟨v,ah,bj⟩:=bX true H b;obtain ⟨-,cO,cp⟩:=ah.aI 0;have cN:J cM=true:=rfl;have bs:=p.a_ (k:=7) bu rfl;have bt:F (.A [wH q i h] true) [wH q i h]:= .inr ⟨_,rfl⟩;have aW:=bt.vJ (k:=11) rfl rfl;have b7:=Gl (w:= .V) (r:= []) (.inl ⟨rfl,rfl⟩) H;have cL:J (if rp q then aa.str 0 0 else .str 1 105)=true:=by split<;>rfl
 simp only [j5,wH,eX] at bs aW bj bx bt;generalize (if rp q then aa.str 0 0 else .str 1 105)=bh at*;refine au.bM (λtm o=>H=o/\ ∃bc,aM 57 [(15,.int .i64 (bz:Nat)),(14,.int .i64 (y.length:Nat)),(0,ax),(5,.W 0 [.int .i64 a6,.int .i64 a7,.str I K,.str L M,bf,bg]),(6,.W 0 [.int .i64 0,.int .i64 0,.str 0 0,.str 0 0,.V,.V]),(7,.int .i64 0),(13,x),(9,.W bc [.str C E,.A [[.str 1 107,bh,.int .i64 7,.int .i64 0,.str 0 0,.str 0 0,i,cM,.A [[.int .i64 7,.int .i64 0,.str 0 0,.str 0 0,h,cM]] true,.int .i64 0,.int .i64 0]] true,u,.V,.V,.int .i64 0,.int .i64 0])] tm) ?_ ?_
 . simp only [go_sem,hF,p.O,bs,aX.J];exact an.mk ⟨rfl,_,by simp only [go_sem,hF];trivial⟩
 clear hF;rintro tm _ ⟨rfl,bc,hF⟩;refine au.bF hF (λaH tm o=>H=o/\ ∃f:Nat,(iL v=some (.int .i64 (f:Nat))/\f<=1/\(f=0->g=none))/\aM 57 [(27,v),(28,.int .i64 (f:Nat)),(29,.int .i64 0)] tm/\aH tm) ?_ ?_
 . obtain ⟨f,aB,bl,bm⟩: ∃f:Nat,iL v=some (.int .i64 (f:Nat))/\f<=1/\(f=0->g=none):=by
    cases g with
    |none=>cases ah;exact ⟨0,rfl,al,λ_=>rfl⟩
    |some a=>obtain ⟨z,aP,-,rfl⟩:=ah;exact ⟨1,rfl,al,λag=>absurd ag al⟩
   have bQ:D bR .V=true:=rfl;simp only [go_sem,hF,bd,b7,bQ,bH,aW,bj,cp,aB];exact an.mk ⟨rfl,f,⟨aB,bl,bm⟩,ay⟩
 clear hF;rintro tm _ ⟨rfl,f,⟨aB,bl,bm⟩,hF⟩;simp only [go_sem];generalize b1:a1 _ _ _ _ _ _ _ _ _ _=aK;revert aK;refine dA [15,14,0,5,6,7,13,9,27] (λ_=>True) f trivial ?_ ?_
 rotate_left
 . rintro a8 tm-hF;simp only [go_sem];exact au.next () rfl trivial ay
 clear hF;rintro ct a8 tm cI-hF;obtain rfl:ct=0:=ab
 cases g with
 |none=>cases ah;simp only [iL,N,aa.int.injEq,true_and] at aB;omega
 | some a=>
   obtain ⟨z,aP,ai,rfl⟩:=ah;obtain ⟨cn,cq,aQ,aR,aS,B,bq,aT⟩:=bx a rfl;have aQ:=λtm=>aQ z H ai.A b tm;have aR:=λtm=>aR u z H aX ai.A b tm;obtain ⟨aA,b6,aS⟩:=aS H b;have aT:=λtm=>aT H tm b;have bZ:=λ(T:aA=true) (aU:vv ar aw rop ao aJ e a=true)=>(show pB ar aw rop ao aJ P (.av [.agg B,.int .i64 0]) from .inr ⟨some a,e,_,a,B,aC,rfl,cn,aU,b6 T,bq,rfl⟩);have cb:=bq.wt;generalize vv ar aw rop ao aJ e a=cG at*;generalize cj a 4 _=cF at*;obtain ⟨cv,cx,bG,bI,bJ,bK,cB,cD,cQ,cT,rfl,b8,b9⟩:=cq.t;obtain ⟨cw,cy,bL,bN,bO,bP,cC,cE,cR,cU,rfl,bn,bp⟩:=cb.t;have b0:F (.A [[z]] aP) [[z]]:= .inr ⟨_,rfl⟩;have b2:=b0.a_ (k:=1) (j:=0) (r:= [z]) rfl rfl;have ck:F (.A [[.int .i64 7,.int .i64 0,.str 0 0,.str 0 0,h,cM]] true) [[.int .i64 7,.int .i64 0,.str 0 0,.str 0 0,h,cM]]:= .inr ⟨_,rfl⟩;have cm:=ck.vJ (k:=6) rfl rfl;refine au.bM (λtm o=>H=o/\aM 57 [(29,.int .i64 ((0:Nat):Int)),(28,.int .i64 (f:Nat)),(15,.int .i64 (bz:Nat)),(14,.int .i64 (y.length:Nat)),(0,ax),(5,.W 0 [.int .i64 a6,.int .i64 a7,.str I K,.str L M,bf,bg]),(6,.W 0 [.int .i64 0,.int .i64 0,.str 0 0,.str 0 0,.V,.V]),(7,.int .i64 0),(13,x),(9,.W bc [.str C E,.A [[.str 1 107,bh,.int .i64 7,.int .i64 0,.str 0 0,.str 0 0,i,cM,.A [[.int .i64 7,.int .i64 0,.str 0 0,.str 0 0,h,cM]] true,.int .i64 0,.int .i64 0]] true,u,.V,.V,.int .i64 0,.int .i64 0]),(27,.A [[z]] aP),(11,z)] tm) ?_ ?_
   . simp only [go_sem,hF,b2,ai.A.O];exact an.mk ⟨rfl,ay⟩
   clear hF;rintro tm _ ⟨rfl,hF⟩;refine au.bF hF (λaH tm o=>H=o/\ ∃bD,aM 57 [(12,.W bD [.int .i64 cv,.int .i64 cx,.str bG bI,.str bJ bK,cB,cD])] tm/\aH tm) ?_ ?_
   . simp only [go_sem,hF,aW,cm,ai.A.O,aQ,b8.J,b9.J];exact an.mk ⟨rfl,_,by simp only [go_sem,hF];trivial⟩
   clear hF;rintro tm _ ⟨rfl,bD,hF⟩;simp only [go_sem,hF,bd,aX.O,ai.A.O,aR]
   iterate 2 all_goals try (refine au.aE ?_ ?_<;>intro aU<;>try simp only [go_sem,hF,aU,bd,aS,aT,bn.J,bp.J])
   all_goals first
    |exact au.next () rfl trivial ay
    |skip
   refine au.stop rfl ?_;simp only [go_sem];refine au.stop rfl ?_;simp only [go_sem,hF];refine ak.mk (bZ (by assumption) (by assumption)) ?_ b (U.refl _);show ([aa.int .i64 cw,.int .i64 cy,.str bL bN,.str bO bP,cC,cE].all (D 18)&&_)=true;simp only [aO,bn.aI 17,bp.aI 17];rfl
end
def BR {l m j:Nat} (f:T l m) (e:j<8):T (fe l) (gD l m j):=by
 unfold T at*;unfold fe gD;rw [yY,yY];have b:2^(8*l)=256^l:=by rw [vW]
 have c:2^(8*(l+1))=256*256^l:=by rw [vW,rL,rK]
 have d:256^(l+1+1)=65536*256^l:=by rw [rL,rL];omega
 rw [b,c,d];generalize 256^l=a at*;have:(48+(j+1))*(256*a)<=56*(256*a):=fU _ ab;omega
def ek.kids {a:Nat} {r:List aa} (b:ek a r):(f (M r 4)).length<=a/\ ∀x∈f (M r 4),ek a x:=by
 cases b with
 | @mk _ g n i l j m o p h s b k t e q=>
   obtain ⟨rfl,-,-,-,-,d,-⟩:=b;have c:f (M [.int .i64 g,.int .i64 n,.str i l,.str j m,o,p] 4)=h:=bm d;rw [c];exact ⟨k,e⟩
def ach (B):ek B eb:= .mk (ky:= []) (i:= []) ⟨rfl,by unfold T;decide,by unfold T;decide,al,al,.inl ⟨rfl,rfl⟩,.inl ⟨rfl,rfl⟩,al,al⟩ (fV _) (fV _) (λ_ a=>by cases a) (λ_ a=>by cases a)
def V9 {u:Sub} {a:Nat} {P:List aa->Prop} (c:P eb) (b: ∀p∈u,P p.2):P ((dw u a).getD eb):=by
 unfold dw
 cases d:u.find? λp=>p.1==a with
 |none=>exact c
 |some p=>exact b p (yS d)
def vg {u:Sub} (j:c7 u) {b:Nat} (l:b<1048560) (h: ∀p∈u,ek b p.2): ∀ {d r},d<1000->iB d r->ek (b+8*d) (cj u d r)
 |0,_,_,c=>c.elim
 | d +1,r,I,c=>by
   rcases c with ⟨E,F,G,rfl,q,J⟩|⟨K,A,L,O,y,z,V,W,n,k,c,s,N,x,o,m⟩
   . rw [BN j q];exact (V9 (P:=ek b) (ach b) h).mono ab
   . obtain ⟨rfl,C,U,B,S,v,w,Q,R⟩:=c;rw [BM u d A y z s v w];have t:(n.map (cj u d)++k.flatMap λa=>f (M (cj u d a) 4)).length<=b+8*(d+1):=by have:=nF (λa=>f (M (cj u d a) 4)) (b+8*d) k λa g=>(vg j l h ab (m a g)).kids.1;rw [bD,di];have H:k.length*(b+8*d)<=1*(b+8*d):=fU _ x;omega
     refine .mk (ky:=n.map (cj u d)++k.flatMap λa=>f (M (cj u d a) 4)) (i:= []) ⟨rfl,C,by unfold T;decide,B,al,fW _,.inl ⟨rfl,rfl⟩,ab,al⟩ t (fV _) (λD e=> ?_) (λ_ c=>by cases c);rcases cr.1 e with e|e
     . obtain ⟨a,g,rfl⟩:=cd.1 e;exact (vg j l h ab (o a g)).mono ab
     . obtain ⟨a,g,e⟩:=fC.1 e;exact ((vg j l h ab (m a g)).kids.2 D e).mono ab
def Fk {d a c e:Nat} (b:a<10) (f:T c e/\c<4611686018427387904):iB (d+1) (c_ a c e):= .inl ⟨a,c,e,rfl,b,pr f.1 f.2 b⟩
def Nt {d l m:Nat} {y:aa} {rows:Y} (b:T l m/\l<4611686018427387904) (e:F y rows) (c:rows.length<=8) (a: ∀r∈rows,iB d r):iB (d+1) (cm l m y):=
 .inr ⟨5,0,l,m,0,0,y,.V,rows,[],⟨rfl,b.1,by unfold T;decide,b.2,al,e,.inl ⟨rfl,rfl⟩,ab,al⟩,al,c,al,a,λ_ a=>by cases a⟩
def Nu {d:Nat} {y:aa} {rows:Y} (e:F y rows) (b:rows.length<=8) (a: ∀r∈rows,iB (d+1) r):iB (d+2) (eX y cM):=
 .inr ⟨7,0,0,0,0,0,y,cM,rows,[c_ 0 4 1953720652],⟨rfl,by unfold T;decide,by unfold T;decide,al,al,e,zH,ab,al⟩,al,b,al,a,λr c=>by rw [bs.1 c];exact Fk al rQ⟩
theorem Nj {args:Y} (e:b8 args) {i:Nat} (f:i<args.length): ∃a b,args[i]? =some [.str a b]/\(cp args)[i]? =some (c_ (i+2) a b)/\T a b/\a<4611686018427387904:=by obtain ⟨g,c⟩:=bA f;obtain ⟨a,b,rfl,d⟩:=e g (aV c);refine ⟨a,b,c,?_,d⟩;unfold cp;rw [yO,c];rfl
def abN {args:Y} (g:b8 args) (j:args.length<=8): ∀r∈cp args,∃i a b,i<args.length/\r=c_ (i+2) a b/\T a b/\a<4611686018427387904:=λr h=>by
 obtain ⟨i,c⟩:=jo h;have d:=(e6.1 c).1;rw [qP] at d;obtain ⟨a,b,-,e,f⟩:=Nj g d;rw [e] at c;cases c;exact ⟨i,a,b,d,rfl,f⟩
def wZ {args:Y} (a:b8 args) (b:args.length<=8) (d:Nat): ∀r∈cp args,iB (d+1) r:=λr c=>by
 obtain ⟨i,f,g,h,rfl,e⟩:=abN a b r c;exact Fk ab e
def nL (args st:Y) (a j:Nat):oj:=((st.take a).map λb=>(true,(hh args)[(j7 b-1).toNat]?.getD (0,0,0)))++ [(false,(hh args)[j]?.getD (0,0,0))]
def Nq {args:Y} (d:b8 args) {i:Nat} (e:i<args.length): ∃a b,args[i]? =some [.str a b]/\(hh args)[i]? =some (i+2,a,b):=by
 obtain ⟨f,c⟩:=bA e;obtain ⟨a,b,rfl,g⟩:=d f (aV c);exact ⟨a,b,c,by unfold hh;rw [yO,c];rfl⟩
theorem M6 {args:Y} (d:b8 args) {i:Int} (k:1<=i) (l:i<=args.length): ∃a b,(hh args)[(i-1).toNat]? =some ((i-1).toNat+2,a,b)/\jA args i=c_ ((i-1).toNat+2) a b:=by obtain ⟨a,b,e,f⟩:=Nq d (i:=(i-1).toNat) ab;obtain ⟨h,j,c,g,-⟩:=Nj d (i:=(i-1).toNat) ab;rw [e] at c;cases c;refine ⟨a,b,f,?_⟩;unfold jA;rw [g];rfl
theorem Sy {args st:Y} (c:b8 args) {d j:Nat} (m: ∀q∈st,∃i:Int,q= [.int .i64 i]/\1<=i/\i<=args.length) (n:j<args.length):(nL args st d j).map jf=lQ args st d j:=by
 unfold nL lQ;rw [vR,tB];congr 1
 . refine vS λq l=> ?_;obtain ⟨i,rfl,h,k⟩:=m q (hQ l);obtain ⟨e,f,a,b⟩:=M6 c h k;show jf (true,(hh args)[(i-1).toNat]?.getD (0,0,0))=fb (jA args i);rw [a,b];rfl
 . obtain ⟨e,f,a,b⟩:=M6 c (i:=((j+1:Nat):Int)) ab ab;have g:(((j+1:Nat):Int)-1).toNat=j:=ab;rw [g] at a b;rw [b,a];rfl
def Sx {args st:Y} (e:b8 args) (l:args.length<=8) {g j:Nat} (k:j<args.length): ∀q∈nL args st g j,q.2.1<10:=λq a=>by
 have c: ∀b:Nat,((hh args)[b]?.getD (0,0,0)).1<10:=λb=>by
  by_cases f:b<args.length
  . obtain ⟨h,i,-,d⟩:=Nq e f;rw [d];show b+2<10;omega
  . have:(hh args)[b]? =none:=List.getElem?_eq_none_iff.2 (by unfold hh;rw [C2];omega);rw [this];decide
 unfold nL at a;rcases cr.1 a with a|a
 . obtain ⟨m,-,rfl⟩:=cd.1 a;exact c _
 . rw [bs.1 a];exact c j
def Cc (l m:Nat) (args:Y) (j:Nat):List aa:=eX (.A [jA args ((j+1:Nat):Int),cm (fe l) (gD l m j) (.A ((cp args).eraseIdx j) false)] true) cM
def A7 (l m:Nat) (args:Y) (j:Nat):List aa:=eX (.A [cm l m (dk ((cp args).set j (ps args j)))] true) cM
def NG {y:aa} {rows:Y} (c:F y rows) (b: ∀r∈rows,aN r) (a:rows.length<4611686018427387904):aN (eX y cM):=
 .mk (ky:=rows) (i:= [c_ 0 4 1953720652]) ⟨rfl,by unfold T;decide,by unfold T;decide,al,al,c,zH,a,al⟩ b λr ag=>by rw [bs.1 ag];exact pr rQ.1 rQ.2 al
def NF {l m:Nat} {y:aa} {rows:Y} (a:T l m/\l<4611686018427387904) (d:F y rows) (c: ∀r∈rows,aN r) (b:rows.length<4611686018427387904):aN (cm l m y):=
 .mk (ky:=rows) (i:= []) ⟨rfl,a.1,by unfold T;decide,a.2,al,d,.inl ⟨rfl,rfl⟩,b,al⟩ c λ_ ag=>by cases ag
def Mf {ar aw rop ao:Y} {a c d:Nat} {t:List aa} {u f:Sub} {P:List aa->Prop} (ag: ∀p∈u,P p.2) (g:P t) (e:fx ar aw rop ao a c d t u=some f): ∀p∈f,P p.2:=λp b=>by
 unfold fx at e;split at e
 . cases e;unfold gj at b;rcases cr.1 b with b|b
   . exact ag p (hQ b)
   . rcases b2.1 b with rfl|b
     . exact g
     . exact ag p (List.mem_of_mem_drop b)
 . cases e
def Lj {a:Nat} {y:aa} {rows:Y} (c:F y rows) (d:a<1048560) (e:rows.length<=a) (b: ∀r∈rows,ek a r) (n:Nat):ek a (j2 y n):=
 .mk (ky:=rows.drop n) (i:= []) ⟨rfl,by unfold T;decide,by unfold T;decide,al,al,BB c n,.inl ⟨rfl,rfl⟩,by rw [oW];omega,al⟩ (by rw [oW];omega) (fV _) (λr ag=>b r (List.mem_of_mem_drop ag)) (λ_ ag=>by cases ag)
def Mb {ar aw rop ao:Y} {l m:Nat} {L:gS} (c:jG L) {t:List aa} {u b:Sub} {P:List aa->Prop} (g: ∀p∈u,∀q∈L,p.1<q.1) (ag: ∀p∈u,P p.2) (d: ∀x∈f (M t 4),P x) (e:ly ar aw rop ao l m L t u=some b): ∀p∈b,P p.2:=λp a=>by
 obtain ⟨k,n,o,r,i,rfl,j,rfl⟩:=zW c g e;rcases cr.1 a with a|a
 . exact ag p a
 . unfold k2 at a;obtain ⟨i,h,rfl⟩:=cd.1 a;exact d _ (C5 h).2
section
variable {ar aw rop ao:Y}
theorem Md {g:Nat} (T:g<1048560) {l m:Nat} {L:gS} (i:jG L) {t:List aa} (D:ek g t) {u:Sub} (e:sd ar aw rop ao l m L t []=some u):
  c7 u/\(∀p∈u,ek g p.2)/\ ∃k n w y z q rest,t= [.int k 7,n,.str 0 0,w,y,z]/\f y=q::rest/\(∃r v w' d x,q= [.int r 5,v,.str l m,w',d,x]/\L.length=(f d).length/\u=(0,j2 y 1)::k2 L (f d)):=by
 have W:=D;obtain ⟨X,F,ah,ai,K,N,I,J,H,av,E,ak,an⟩:=D.wt.ea;have aq:=E.zm;obtain ⟨rfl,h,au⟩:=E.c;obtain ⟨A,j⟩:=W.kids;have S:f (M [.int .i64 X,.int .i64 F,.str ah ai,.str K N,I,J] 4)=H:=bm h;rw [S] at A j;simp only [sd,bm h] at e;split at e
 . rename_i U;obtain ⟨rfl,rfl,rfl⟩:=U
   cases H with
   |nil=>cases e
   | cons q af=>
     simp only at e
     cases b:ly ar aw rop ao l m L q [] with
     |none=>rw [b] at e;cases e
     | some aj=>
       rw [b] at e;simp only [nT] at e;have B:=j q (dF ..);have o: ∀p∈([]:Sub),∀q∈L,p.1<q.1:=λ_ ag=>by cases ag
       obtain ⟨Z,ab⟩:=zX (u:= []) i B.wt wP o b;have G: ∀p∈aj,0<p.1:=λp V=>by
        rcases ab p V with ag|ag
        . cases ag
        . omega
       have C:=Lj h T A j 1;obtain ⟨ad,ae⟩:=se (a:=0) al C.wt Z (s7 G) e;have Y:=Mb (P:=ek g) i o (λ_ ag=>by cases ag) B.kids.2 b;refine ⟨ad,Mf Y C e,.i64,.int .i64 F,.str K N,I,J,q,af,rfl,bm h,?_⟩;obtain ⟨r,v,w',d,x,O,Q,R⟩:=zW i o b;refine ⟨r,v,w',d,x,O,Q,?_⟩;rw [ae,IQ G,R];rfl
 . cases e
theorem Mc {j:Nat} (Z:j<1048560) {c d l m:Nat} {L:gS} (o:jG L) {t:List aa} (I:ek j t) {u:Sub} (e:sc ar aw rop ao c d l m L t []=some u):
  c7 u/\(∀p∈u,ek j p.2)/\ ∃k n w y z q q' rest,t= [.int k 7,n,.str 0 0,w,y,z]/\f y=q::q'::rest/\ja ar aw (eh ar rop ao q).1 (eh ar rop ao q).2 c d=true/\(∃A B w' i D,q'= [.int A 5,B,.str l m,w',i,D]/\L.length=(f i).length/\u=(0,j2 y 2)::(1,q)::k2 L (f i)):=by
 have af:=I;obtain ⟨aj,K,aA,aB,S,T,Q,R,O,aI,J,aE,aF⟩:=I.wt.ea;have aG:=J.zm;obtain ⟨rfl,v,aH⟩:=J.c;obtain ⟨E,r⟩:=af.kids;have Y:f (M [.int .i64 aj,.int .i64 K,.str aA aB,.str S T,Q,R] 4)=O:=bm v;rw [Y] at E r;simp only [sc,bm v] at e;split at e
 . rename_i ad;obtain ⟨rfl,rfl,rfl⟩:=ad
   cases O with
   |nil=>cases e
   |cons q C=>
   cases C with
   |nil=>cases e
   | cons q' C=>
     simp only at e
     cases b:fx ar aw rop ao 1 c d q [] with
     |none=>rw [b] at e;cases e
     |some aC=>
     rw [b] at e;simp only [nT] at e;have F:=r q (dF ..);have G:=r q' ai;have ae:oq 1 ([]:Sub):=x_ λ_ ag=>by cases ag
     obtain ⟨an,aq⟩:=se (a:=1) al F.wt wP ae b;have U:aC= [(1,q)]:=by rw [aq];rfl
     have ab:ja ar aw (eh ar rop ao q).1 (eh ar rop ao q).2 c d=true:=by
      unfold fx at b;split at b
      . assumption
      . cases b
     subst U
     cases g:ly ar aw rop ao l m L q' [(1,q)] with
     |none=>rw [g] at e;cases e
     | some aD=>
       rw [g] at e;simp only [nT] at e;have x: ∀p∈([(1,q)]:Sub),∀z∈L,p.1<z.1:=λp h z ah=>by rw [bs.1 h];have:=(o.lt z ah).1;show 1<z.1;omega
       obtain ⟨au,av⟩:=zX o G.wt an x g;have N: ∀p∈aD,0<p.1:=λp h=>by
        rcases av p h with ag|ag
        . rw [bs.1 ag];show 0<1;decide
        . omega
       have H:=Lj v Z E r 2;obtain ⟨ay,az⟩:=se (a:=0) al H.wt au (s7 N) e;have ak:=Mb (P:=ek j) o x (λp h=>by rw [bs.1 h];exact F) G.kids.2 g;refine ⟨ay,Mf ak H e,.i64,.int .i64 K,.str S T,Q,R,q,q',C,rfl,bm v,ab,?_⟩;obtain ⟨A,B,w',i,D,V,W,X⟩:=zW o x g;refine ⟨A,B,w',i,D,V,W,?_⟩;rw [az,IQ N,X];rfl
 . cases e
end
def SB {l m:Nat} {args:Y} (g:T l m/\l<1000) (c:b8 args) (b:args.length<=8) {j:Nat} (h:j<args.length):iB 4 (Cc l m args j):=by
 have i:(cp args).length<=8:=by rw [qP];exact b
 have f:jA args ((j+1:Nat):Int)∈cp args:=M5 ab ab;have e:T (fe l) (gD l m j)/\fe l<4611686018427387904:=⟨BR g.1 ab,by unfold fe;omega⟩;exact Nu (.inr ⟨_,rfl⟩) ai λd a=>by
  simp only [b2,dG,or_false] at a;rcases a with rfl|rfl
  . exact wZ c b 2 _ f
  . exact Nt e (.inr ⟨_,rfl⟩) (by have:=C0 (cp args) j;omega) λd a=>wZ c b 1 d (tC a)
section
variable {ax:aa} {s:List aa} {ar aw rop ao aJ:Y} (ag:dO ax s ar aw rop ao aJ)
include ag
theorem Zi {p:Y} {h:List aa} {k:Nat} (H:k<=100000) (e:ek k h) {l m:Nat} {args st:Y} (r:T l m/\l<1000) (b:b8 args) (a:args.length<=8) (D: ∀q∈st,∃i:Int,q= [.int .i64 i]/\1<=i/\i<=args.length) (I:st.length<=8) {g j:Nat} (d:j<args.length):
  sz ax h (gX p l m args st g j) (sd ar aw rop ao l m (hh args) h []) (nL args st g j) (Cc l m args j):=by
 obtain ⟨n,y⟩:=Al b a;have t:T l m/\l<4611686018427387904:=⟨r.1,ab⟩;have C:F (dk (cp args)) (gv (hh args)):=by rw [y];exact fW _
 have E: ∀c∈cp args,aN c:=λc f=>(wZ b a 0 c f).wt;have J:(cp args).length<=8:=by rw [qP];exact a
 have z:aN (eX (.A [cm l m (dk (cp args))] true) cM):=NG (.inr ⟨_,rfl⟩) (λc f=>by rw [bs.1 f];exact NF t (fW _) E ab) ai;have x:=I3 ag z e.wt (QR ag n t C e.wt);have o:=SB r b a d;refine ⟨⟨p,_,_,_,_,dk (lQ args st g j),_,_,rfl,by rw [Sy b D d];exact fW _,rfl,.inr ⟨_,rfl⟩,.inr ⟨_,rfl⟩,x⟩,λK w=> ?_,o,Sx b a d,?_⟩
 . obtain ⟨u,v,-⟩:=Md ab n e w;exact ⟨u,λG B=>by have:=(v G B).kids.1;omega,(vg u ab v al o).mono ab⟩
 . unfold nL;rw [bD,di,h6,yQ];omega
theorem Zh {p:Y} {o:List aa} {q:Nat} (M:q<=100000) (i:ek q o) {l m:Nat} {args:Y} (w:T l m/\l<1000) (f:b8 args) (e:args.length<=8) {j:Nat} (N:j<args.length) {a b:Nat} (t:args[j]? =some [.str a b]):
  sz ax o (kl p l m args j) (sc ar aw rop ao a b (fe l) (gD l m j) ((hh args).eraseIdx j) o []) [(true,1,a,b)] (A7 l m args j):=by
 obtain ⟨B,C⟩:=Al f e;have r:=B.erase j;have G:F (.A ((cp args).eraseIdx j) false) (gv ((hh args).eraseIdx j)):=by rw [abO,C];exact .inr ⟨_,rfl⟩
 have I:(cp args).length<=8:=by rw [qP];exact e
 have h:ps args j=c_ 1 a b:=by unfold ps;rw [t];rfl
 obtain ⟨n,k⟩:T a b/\a<4611686018427387904:=by obtain ⟨K,L,g,ag⟩:=f _ (aV t);cases g;exact ag
 have u:T (fe l) (gD l m j)/\fe l<4611686018427387904:=⟨BR w.1 ab,by unfold fe;omega⟩;have D:aN (eX (.A [c_ 1 a b,cm (fe l) (gD l m j) (.A ((cp args).eraseIdx j) false)] true) cM):=NG (.inr ⟨_,rfl⟩) (λd c=>by
  simp only [b2,dG,or_false] at c;rcases c with rfl|rfl
  . exact pr n k al
  . exact NF u (.inr ⟨_,rfl⟩) (λd c=>(wZ f e 0 d (tC c)).wt) (by have:=C0 (cp args) j;omega)) ai
 have z:=I3 ag D i.wt (QO ag r ⟨n,k⟩ u G i.wt);have v:iB 4 (A7 l m args j):=Nu (.inr ⟨_,rfl⟩) ai λd c=>by
  rw [bs.1 c];refine Nt ⟨w.1,ab⟩ (fW _) (by rw [List.length_set];exact I) λd c=> ?_;rcases C4 c with c|rfl
  . exact wZ f e 1 d c
  . rw [h];exact Fk al ⟨n,k⟩
 refine ⟨⟨p,_,_,_,_,.A [fb (ps args j)] true,_,_,rfl,by rw [h];exact .inr ⟨_,rfl⟩,rfl,.inr ⟨_,rfl⟩,.inr ⟨_,rfl⟩,by rw [h];exact z⟩,λP g=> ?_,v,(λO H=>by rw [bs.1 H];show 1<10;decide),ai⟩;obtain ⟨x,y,-⟩:=Mc ab r i g;exact ⟨x,λJ E=>by have:=(y J E).kids.1;omega,(vg x ab y al v).mono ab⟩
end
def NT (p rop u ar aw ao aJ:Y) (v:aa):Prop:= ∃k e a c b f h l i j m n o g,v= .av [.agg [k,e,a,c,b,f,h,l,i,j,m,n,o],.int .i64 g]/\
 (∀q∈ [k,e,a,c,b,f,h,l,i,j,m,n,o],J q=true/\D 18 q=true)/\(g=0->gf ar aw rop ao aJ/\lD p rop u/\F e ar/\F a aw/\F c (eZ rop)/\F b (ao.map ct)/\F f aJ)
structure oA (ar aw rop ao aJ req p aU u:Y):Prop where
  Ii:ar.length+aw.length+rop.length+ao.length+aJ.length<800000
  cP: ∀r∈ao,nk r
  t: ∃N,bL (eE req p aU u) N/\N<50000
def En {r} (c:c6 r):c6 (il r)/\ ∃l m args ls ms st a p i j,fB r l m args ls ms st/\il r= [.str l m,a,.str ls ms,p,.int .i64 i,.int .i64 j,.V]:=by
 obtain ⟨-,l,m,args,ls,ms,st,a,p,t,i,j,b,f,g,q,o,h,k,n⟩:=Kw c;have e:il r= [.str l m,a,.str ls ms,p,.int .i64 i,.int .i64 j,.V]:=by unfold il;rw [f];rfl
 refine ⟨⟨l,m,args,ls,ms,[],⟨⟨a,p,.V,i,j,e,g,.inl ⟨rfl,rfl⟩,o,h,k,n⟩,b.c5,b.pw,b.s1,b.s2,b.hS,b.zk,λ_ c=>(by cases c),al⟩⟩,l,m,args,ls,ms,st,a,p,i,j,b,e⟩
def XD {r} (f:c6 r):c6 (ct r):=by
 obtain ⟨-,n,q,c,o,t,y,b,v,x,l,m,a,e,g,k,w,h,i,j⟩:=Kw f;exact ⟨n,q,c,o,t,y,⟨⟨b,v,x,l,m,e,g,k,w,h,i,j⟩,a.c5,a.pw,a.s1,a.s2,a.hS,a.zk,a.rs,a.rS⟩⟩
def LD {p rop ao u:Y} (I: ∀r∈rop,c6 r) (K:nm rop ao) (F:lD p rop u) {b c:Bool} {v:List aa} (a:v∈kO p b c rop):
    ∃ r∈rop,∃l m args ls ms st e j,fB r l m args ls ms st/\st[e]? =some [.int .i64 ((j+1:Nat):Int)]/\j<args.length/\args.length<=8/\(∀q∈st,∃i:Int,q= [.int .i64 i]/\1<=i/\i<=args.length)/\st.length<=8/\l<1000/\
      ((b=true/\v=gX p l m args st e j)\/(c=true/\v=kl p l m args j)):=by
 obtain ⟨r,t,a⟩:=fC.1 a;obtain ⟨e,w,a⟩:=fC.1 a;obtain ⟨l,m,args,ls,ms,st,x⟩:=I r t;obtain ⟨D,A,E⟩:=K.st t x;have H:=x;obtain ⟨g,k,o,n,ac,rfl,B,J,Q,N,-⟩:=H.eq;have h:f (M [.str l m,g,.str ls ms,k,.int .i64 n,.int .i64 ac,o] 6)=st:=bm J;rw [h,h9] at w;obtain ⟨q,y⟩:=bA w;obtain ⟨i,rfl,O,P⟩:=A q (aV y);have z:iR [.str l m,g,.str ls ms,k,.int .i64 n,.int .i64 ac,o] e=i.toNat-1:=by unfold iR;rw [h,y];rfl
 have C:i=((i.toNat-1+1:Nat):Int):=ab;have G:l<1000:=by have:=F.n3 (gX p l m args st e (i.toNat-1)) (fC.2 ⟨_,t,fC.2 ⟨e,by rw [h];exact h9.2 w,by show _∈(if true then [gX p l m (f g) (f (M _ 6)) e (iR _ e)] else [])++_;rw [h,z,bm B];simp⟩⟩);have L:l+6+1<=40:=this;omega
 refine ⟨_,t,l,m,args,ls,ms,st,e,i.toNat-1,x,by rw [y,<-C],ab,D,A,E,G,?_⟩;have a:v∈(if b then [gX p l m (f g) (f (M [.str l m,g,.str ls ms,k,.int .i64 n,.int .i64 ac,o] 6)) e (iR [.str l m,g,.str ls ms,k,.int .i64 n,.int .i64 ac,o] e)] else [])++(if c then [kl p l m (f g) (iR [.str l m,g,.str ls ms,k,.int .i64 n,.int .i64 ac,o] e)] else []):=a;rw [h,z,bm B] at a;rcases cr.1 a with a|a
 . cases b with
   |false=>cases a
   |true=>exact .inl ⟨rfl,bs.1 a⟩
 . cases c with
   |false=>cases a
   |true=>exact .inr ⟨rfl,bs.1 a⟩
section
variable {d s:List aa} {ar aw rop ao aJ req p aU u:Y} (aX:fz d s ar aw rop ao aJ req p aU u) (nO:oA ar aw rop ao aJ req p aU u)
include aX
theorem abR (nO:oA ar aw rop ao aJ req p aU u) (D:gf ar aw rop ao aJ) (J:lD p rop u) {so be op cP bJ:aa} (N:F so ar) (O:F be aw) (P:F op (eZ rop)) (Q:F cP (ao.map ct)) (R:F bJ aJ):oz [so,be,op,cP,bJ] ar aw (eZ rop) (ao.map ct) aJ:=by
 refine ⟨⟨so,be,op,cP,bJ,rfl,N,O,P,Q,R⟩,aX.bT.so,aX.bT.be,λx a=> ?_,λx a=> ?_,aX.bT.bJ,?_⟩
 . rcases cr.1 a with a|a
   . obtain ⟨m,e,rfl⟩:=cd.1 a;exact (En (aX.bT.op m e)).1
   . obtain ⟨m,e,a⟩:=fC.1 a;obtain ⟨g,r,rfl⟩:=cd.1 a;obtain ⟨b,c,n,j,k,E,h⟩:=aX.bT.op m e;obtain ⟨H,A,I⟩:=D.v.st e h;have K:=h;obtain ⟨l,t,y,w,ac,rfl,B,L,Z,W,-⟩:=K.eq;have o:f (M [.str b c,l,.str j k,t,.int .i64 w,.int .i64 ac,y] 6)=E:=bm L;rw [o,h9] at r;obtain ⟨S,C⟩:=bA r;obtain ⟨i,rfl,X,Y⟩:=A S (aV C);have z:iR [.str b c,l,.str j k,t,.int .i64 w,.int .i64 ac,y] g=i.toNat-1:=by unfold iR;rw [o,C];rfl
     have V:b<1000:=by have:=J.n3 (gX p b c n E g (i.toNat-1)) (fC.2 ⟨_,e,fC.2 ⟨g,by rw [o];exact h9.2 r,by show _∈(if true then [gX p b c (f l) (f (M _ 6)) g (iR _ g)] else [])++_;rw [o,z,bm B];simp⟩⟩);have q:b+6+1<=40:=this;omega
     have G:oM [.str b c,l,.str j k,t,.int .i64 w,.int .i64 ac,y] g=ko b c n j k (i.toNat-1):=by show ko b c (f l) j k (iR _ g)=_;rw [bm B,z]
     rw [G];have U:=C0 n (i.toNat-1);exact ⟨fe b,gD b c (i.toNat-1),n.eraseIdx (i.toNat-1),j,k,[],⟨⟨_,_,_,_,_,rfl,.inr ⟨_,rfl⟩,.inl ⟨rfl,rfl⟩,[],.inl ⟨rfl,rfl⟩,al,λ_ q=>by cases q⟩,BR h.c5 ab,h.pw,by unfold fe;omega,h.s2,λx a=>h.hS x (tC a),ab,λ_ q=>(by cases q),al⟩⟩
 . obtain ⟨m,e,rfl⟩:=cd.1 a;exact XD (aX.bT.cP m e)
 . have H:=nO.Ii;have A:=HQ aX D.v;have I:(eZ rop).length=rop.length+(oN rop).length:=by unfold eZ;rw [bD,di]
   have T:(ao.map ct).length=ao.length:=di ..
   omega
include nO
theorem U5:dt 9 [.agg d] (NT p rop u ar aw ao aJ) bQ:=by
 obtain ⟨aO,hT,K⟩:=nO.t;obtain ⟨av,H⟩:=(U3 aX hT K).gg;obtain ⟨ax,I⟩:bo λf g=>gf ar aw rop ao aJ-> ∀b,Z b-> ∃E,xe p rop u ar aw ao aJ E/\ ∀ae,az G (X G R f g) 26 [.agg d] b ae= .ok E ae b:=by
  by_cases M:gf ar aw rop ao aJ
  . obtain ⟨au,an⟩:=(UT aX M.v nO.Ii nO.cP hT K).val;exact ⟨au,λf g af i _ b e=>an f g af i b e⟩
  . exact ⟨0,λ_ _ _ _ h=>absurd h M⟩
 have al:=aX.eq;obtain ⟨bb,aR,bc,aW,a8,bf,bh,bk,rfl,⟨bs,bx,rfl,bn,aZ⟩,O,S,⟨br,bw,rfl,bm,aY⟩,Q,W,⟨bt,bz,rfl,bp,a1⟩,⟨bu,bA,rfl,bq,a7⟩⟩:=al;obtain ⟨bg,aP,bd,aS,bj,rfl,Y,N,T,P,ad⟩:=aX.bT.eq;simp only [bl,a6] at H I|-;refine aL.run (m:=11) rfl rfl rfl rfl rfl rfl rfl rfl (av+ax) λf g aT aV b e=> ?_;obtain ⟨i,L,F⟩:=H f g ab ab b e;have aq: ∀a∈([.str 0 0,.V,.V,.V,.V,.V,.V,.V,.str 0 0,.V,.V,.str 0 0,.str 0 0]:List aa),J a=true/\D 18 a=true:=λa c=>by simp only [b2,dG,or_false] at c;rcases c with rfl|rfl|rfl|rfl|rfl|rfl|rfl|rfl|rfl|rfl|rfl|rfl|rfl<;>exact ⟨rfl,rfl⟩
 cases i with
 | false=>
   simp only [go_sem,Y.J,N.J,T.J,P.J,ad.J,O.J,S.J,Q.J,W.J,F];exact ak.mk ⟨_,_,_,_,_,_,_,_,_,_,_,_,_,2,rfl,aq,λh=>by cases h⟩ rfl e (U.refl _)
 | true=>
   obtain ⟨E,⟨j,k,q,r,w,x,y,z,A,B,l,n,o,ag,rfl,C,aj⟩,ah⟩:=I f g ab ab (L rfl) b e;have ok:=λa c=>(C a c).1;have aQ:=λa c=>rU (ok a c);have ay:=ok j ai;have aA:=ok k ai;have aE:=ok q ai;have aF:=ok r ai;have aG:=ok w ai;have aH:=ok x ai;have aI:=ok y ai;have aK:=ok z ai;have aM:=ok A ai;have aN:=ok B ai;have aB:=ok l ai;have aC:=ok n ai;have aD:=ok o ai;simp only [go_sem,Y.J,N.J,T.J,P.J,ad.J,O.J,S.J,Q.J,W.J,F,ah,ay,aA,aE,aF,aG,aH,aI,aK,aM,aN,aB,aC,aD];refine ak.mk ⟨j,k,q,r,w,x,y,z,A,B,l,n,o,ag,rfl,C,λh=>⟨L rfl,aj h⟩⟩ ?_ e (U.refl _);show ([j,k,q,r,w,x,y,z,A,B,l,n,o].all (D 18)&&_)=true;rw [ba.2 λa c=>(C a c).2];rfl
end
def EP (f g h i j:Y):Y:=(oF f).flatMap λa=>(oF g).flatMap λb=>(oF h).flatMap λc=>(oF i).flatMap λd=>(oF j).map λe=> [a,b,c,d,e]
def ZB {f g h i j:Y} {a b c d e:aa} (k:F a f) (l:F b g) (m:F c h) (n:F d i) (o:F e j): [a,b,c,d,e]∈EP f g h i j:=
 fC.2 ⟨a,sO k,fC.2 ⟨b,sO l,fC.2 ⟨c,sO m,fC.2 ⟨d,sO n,cd.2 ⟨e,sO o,rfl⟩⟩⟩⟩⟩
def xv (a b c e f:Y):List aa:=(EP a b c e f).flatMap λs=>uV s a b c e
def pI (rop ar aw ao aJ:Y) (ax:aa):Prop:= ∃s,dO ax s ar aw (eZ rop) (ao.map ct) aJ
def Av (p rop u ar aw ao aJ:Y) (c:List aa) (v:aa):Prop:=(∃a,v= .av [a,.int .i64 0]/\pI rop ar aw ao aJ a/\a∈xv ar aw (eZ rop) (ao.map ct) aJ/\gf ar aw rop ao aJ/\lD p rop u/\om 60 c)\/ ∃b,b≠0/\v= .av [.dz,.int .i64 b]
section
variable {d s:List aa} {ar aw rop ao aJ req p aU u:Y} (aX:fz d s ar aw rop ao aJ req p aU u) (nO:oA ar aw rop ao aJ req p aU u)
include aX nO
theorem Va {n:List aa} (j:aN n):dt 27 [.agg d,.agg n] (Av p rop u ar aw ao aJ n) bQ:=by
 obtain ⟨bx,aF⟩:=(U5 aX nO).val;obtain ⟨bz,aZ⟩:=dE (l:=EP ar aw (eZ rop) (ao.map ct) aJ) (Q:=λs e f=>oz s ar aw (eZ rop) (ao.map ct) aJ-> ∀a,Z a-> ∃c,(dO c s ar aw (eZ rop) (ao.map ct) aJ/\c∈uV s ar aw (eZ rop) (ao.map ct))/\ ∀b,az G (X G R e f) 48 [.agg s] a b= .ok c b a) λs _=>by
  by_cases r:oz s ar aw (eZ rop) (ao.map ct) aJ
  . obtain ⟨K,j⟩:=(Dw r).val;exact ⟨K,λe f B i _ a g=>j e f B i a g⟩
  . exact ⟨0,λ_ _ _ _ H=>absurd H r⟩
 obtain ⟨bA,a1⟩:=dE (l:=xv ar aw (eZ rop) (ao.map ct) aJ) (Q:=λc e f=>pI rop ar aw ao aJ c-> ∀a,Z a-> ∃i,(i=true->om 60 n)/\ ∀b,az G (X G R e f) 49 [c,.agg n] a b= .ok (.bool i) b a) λc _=>by
  by_cases o:pI rop ar aw ao aJ c
  . obtain ⟨ch,bh⟩:=id o;obtain ⟨K,j⟩:=(Jf bh j).gg;exact ⟨K,λe f B i _ a g=>j e f B i a g⟩
  . exact ⟨0,λ_ _ _ _ H=>absurd H o⟩
 have bk:=λ(r:gf ar aw rop ao aJ) (bf:lD p rop u) {O C L E P:aa} (v:F O ar) (w:F C aw) (x:F L (eZ rop)) (y:F E (ao.map ct)) (z:F P aJ)=>abR aX nO r bf v w x y z;have bc:=aX.eq;obtain ⟨cg,aT,bC,b8,bB,bU,cj,cp,rfl,⟨bZ,b3,rfl,cr,cc⟩,bo,br,⟨bY,b2,rfl,cq,cb⟩,bq,bt,⟨b0,b4,rfl,cu,cd⟩,⟨b1,b5,rfl,cv,cf⟩⟩:=bc;obtain ⟨O,C,L,E,P,rfl,bu,bn,bs,bp,bw⟩:=aX.bT.eq;simp only [bl,a6] at aF|-;have bd:=j;obtain ⟨aO,aP,S,T,V,Y,aR,aS,b9,ca,rfl,a7,a8⟩:=bd.t;refine aL.run (m:=28) rfl rfl rfl rfl rfl rfl rfl rfl (bx+bz+bA) λe f b6 b7 a g=> ?_;obtain ⟨ck,⟨ad,ae,aj,aq,au,ax,ay,aA,aB,aC,af,ag,ah,k,rfl,bg,bb⟩,aV⟩:=aF e f ab ab a g;have ok:=λbX bm=>(bg bX bm).1;have bD:=ok ad ai;have bE:=ok ae ai;have bJ:=ok aj ai;have bK:=ok aq ai;have bL:=ok au ai;have bN:=ok ax ai;have bO:=ok ay ai;have bP:=ok aA ai;have bR:=ok aB ai;have bS:=ok aC ai;have bG:=ok af ai;have bH:=ok ag ai;have bI:=ok ah ai;refine ak.bM (λb h=>a=h/\aM 30 [(2,.W 0 [.str bZ b3,O,C,L,E,P,aT,bC,.str bY b2,bB,bU,.str b0 b4,.str b1 b5]),(3,.W 0 [.int .i64 aO,.int .i64 aP,.str S T,.str V Y,aR,aS]),(6,.av [])] b) ?_ ?_
 . simp -implicitDefEqProofs only [go_sem,bu.J,bn.J,bs.J,bp.J,bw.J,bo.J,br.J,bq.J,bt.J,a7.J,a8.J];exact an.mk ⟨rfl,w0⟩
 rintro b _ ⟨rfl,hF⟩;refine ak.bM (λb h=>a=h/\aM 30 [(3,.W 0 [.int .i64 aO,.int .i64 aP,.str S T,.str V Y,aR,aS]),(6,.W 0 [ad,ae,aj,aq,au,ax,ay,aA,aB,aC,af,ag,ah]),(7,.int .i64 k)] b) ?_ ?_
 . simp -implicitDefEqProofs only [go_sem,hF,aV,bD,bE,bJ,bK,bL,bN,bO,bP,bR,bS,bG,bH,bI];exact an.mk ⟨rfl,dm⟩
 clear hF;rintro b _ ⟨rfl,hF⟩;by_cases q:k=0
 rotate_left
 . have N:(k !=0)=true:=by simpa using q
   simp -implicitDefEqProofs only [go_sem,hF,N];exact ak.mk (.inr ⟨k,q,rfl⟩) rfl g (U.refl _)
 have N:(k !=0)=false:=by simpa using q
 obtain ⟨aH,aG,v,w,x,y,z⟩:=bb q;have bj:=bk aH aG v w x y z;have aK:=ZB v w x y z;obtain ⟨c,⟨I,ba⟩,aW⟩:=aZ e f ab ab _ aK bj a g;have aI:c∈xv ar aw (eZ rop) (ao.map ct) aJ:=fC.2 ⟨_,aK,ba⟩;obtain ⟨i,o,aY⟩:=a1 e f ab ab c aI ⟨_,I⟩ a g;obtain ⟨aQ,cl,bV,cm,cn,bW⟩:=I.val;refine ak.bF hF (λA b h=>a=h/\A b) ?_ ?_
 . simp -implicitDefEqProofs only [go_sem,hF,N];exact an.mk ⟨rfl,dm⟩
 clear hF;rintro b _ ⟨rfl,hF⟩;refine ak.kp [3] (λA b h=>a=h/\M b 8=c/\A b) ?_ ?_
 . simp -implicitDefEqProofs only [go_sem,hF,aW,aQ];exact an.mk ⟨rfl,dm⟩
 clear hF;rintro b _ ⟨rfl,hF⟩;simp -implicitDefEqProofs only [go_sem,hF]
 iterate 2 all_goals try (refine ak.aE ?_ ?_<;>intro aD<;>try simp -implicitDefEqProofs only [go_sem,hF,aD,aQ,bV,aY])
 all_goals first
  |exact ak.mk (.inr ⟨2,al,rfl⟩) rfl g (U.refl _)
  |exact ak.mk (.inl ⟨c,rfl,⟨_,I⟩,aI,aH,aG,o (by simpa using aD)⟩) (by show (D 19 c&&_)=true;rw [bW 18];rfl) g (U.refl _)
end
structure FL (rop:Y) (r:List aa) (l m:Nat) (args:Y) (ls ms:Nat) (st:Y) (rN j:Nat):Prop where
  mem:r∈rop
  Ef:fB r l m args ls ms st
  dp:st[rN]? =some [.int .i64 ((j+1:Nat):Int)]
  gE:j<args.length
  FX:args.length<=8
  bB: ∀q∈st,∃i:Int,q= [.int .i64 i]/\1<=i/\i<=args.length
  ag7:st.length<=8
  cQ:l<1000
section
variable (rop ar aw ao:Y) (ig:List aa)
def FK (i:Option Sub) (h:oj) (m:List aa):Prop:= ∃l c e a j k g f b,FL rop l c e a j k g f b/\i=sd ar aw (eZ rop) (ao.map ct) c e (hh a) ig []/\h=nL a g f b/\m=Cc c e a b
def FJ (i:Option Sub) (h:oj) (n:List aa):Prop:= ∃m c g b k l o j a e f,FL rop m c g b k l o j a/\b[a]? =some [.str e f]/\i=sc ar aw (eZ rop) (ao.map ct) e f (fe c) (gD c g a) ((hh b).eraseIdx a) ig []/\h= [(true,1,e,f)]/\n=A7 c g b a
end
def pB.wt {ar aw rop ao aJ:Y} {P:Option Sub->oj->List aa->Prop} {v:aa} (a:pB ar aw rop ao aJ P v): ∃t e,v= .av [.agg t,.int .i64 e]/\aN t:=by
 rcases a with rfl|⟨_,_,_,_,c,_,_,_,_,_,b,rfl⟩
 . exact ⟨_,_,rfl,w7⟩
 . exact ⟨_,_,rfl,b.wt⟩
section
variable {d s:List aa} {ar aw rop ao aJ req p aU u:Y} (aX:fz d s ar aw rop ao aJ req p aU u)
include aX
theorem Zg {ax:aa} (t:pI rop ar aw ao aJ ax) (q:gf ar aw rop ao aJ) (o:lD p rop u) {ig:List aa} {b:Nat} (n:b<=100000) (x:ek b ig): ∀r∈kO p true false rop,∃e c k,sz ax ig r e c k/\FK rop ar aw ao ig e c k:=λJ A=>by
 obtain ⟨r,z,D,F,l,E,G,I,C,B,a,H,f,g,h,i,j,y⟩:=LD aX.bT.op q.v o A;rcases y with ⟨-,rfl⟩|⟨m,-⟩
 . obtain ⟨K,w⟩:=t;exact ⟨_,_,_,Zi w n x ⟨a.c5,j⟩ a.hS g h i f,r,D,F,l,E,G,I,C,B,⟨z,a,H,f,g,h,i,j⟩,rfl,rfl,rfl⟩
 . cases m
theorem Zf {ax:aa} (w:pI rop ar aw ao aJ ax) (t:gf ar aw rop ao aJ) (q:lD p rop u) {ig:List aa} {e:Nat} (o:e<=100000) (y:ek e ig): ∀r∈kO p false true rop,∃g f j,sz ax ig r g f j/\FJ rop ar aw ao ig g f j:=λN B=>by
 obtain ⟨r,A,E,G,l,F,H,M,D,C,a,J,c,h,K,L,i,z⟩:=LD aX.bT.op t.v q B;rcases z with ⟨n,-⟩|⟨-,rfl⟩
 . cases n
 . obtain ⟨O,x⟩:=w;obtain ⟨I,b⟩:=bA c;obtain ⟨k,m,rfl,-⟩:=a.hS I (aV b);exact ⟨_,_,_,Zh x o y ⟨a.c5,i⟩ a.hS h c b,r,E,G,l,F,H,M,D,C,k,m,⟨A,a,J,c,h,K,L,i⟩,b,rfl,rfl,rfl⟩
theorem Jb {ig:List aa} {aq:Nat} (g:ek aq ig) {P:Option Sub->oj->List aa->Prop} {f:Nat} {b:Bool} (o:f=if b then 10 else 14) (aT: ∀ax,pI rop ar aw ao aJ ax->gf ar aw rop ao aJ->lD p rop u-> ∀r∈kO p b (!b) rop,∃E C an,sz ax ig r E C an/\P E C an):bo λad n=> ∀j H,Z H->Av p rop u ar aw ao aJ ig j->(∀tm,az G (X G R ad n) 27 [.agg d,.agg ig] H tm= .ok j tm H)->
  (∃c,c≠0/\j= .av [.dz,.int .i64 c]/\ ∀tm,az G (X G R ad (n+1)) f [.agg d,.agg ig] H tm= .ok (.av [.agg eb,.int .i64 c]) tm H)\/
  (∃ax,j= .av [ax,.int .i64 0]/\ ∃v,pB ar aw (eZ rop) (ao.map ct) aJ P v/\ ∀tm,az G (X G R ad (n+1)) f [.agg d,.agg ig] H tm= .ok v tm H):=by
 obtain ⟨aN,k⟩:bo λad n=>gf ar aw rop ao aJ-> ∀H,Z H-> ∃v,F v (kO p b (!b) rop)/\ ∀tm,az G (X G R ad n) 29 [.agg d,.bool b,.bool !b] H tm= .ok v tm H:=by
  by_cases V:gf ar aw rop ao aJ
  . obtain ⟨B,g⟩:=Jx aX V.v;exact ⟨B,λad n w b _ H e=>g ad n w b _ _ H e⟩
  . exact ⟨0,λ_ _ _ _ aD=>absurd aD V⟩
 obtain ⟨aP,x⟩:=dE (l:=xv ar aw (eZ rop) (ao.map ct) aJ) (Q:=λax ad n=>pI rop ar aw ao aJ ax->gf ar aw rop ao aJ->lD p rop u-> ∀h H,F h (kO p b (!b) rop)->Z H-> ∃v,pB ar aw (eZ rop) (ao.map ct) aJ P v/\ ∀tm,az G (X G R ad n) 28 [ax,h,.agg ig] H tm= .ok v tm H) λax _=>by
  by_cases a:pI rop ar aw ao aJ ax/\gf ar aw rop ao aJ/\lD p rop u
  . obtain ⟨a,i,y⟩:=a;obtain ⟨aV,z⟩:=id a;obtain ⟨B,g⟩:=Vn z g.wt P (kO p b (!b) rop) (by have:=LC (p:=p) aX i.v b (!b);omega) (aT ax a i y);exact ⟨B,λad n w b _ _ _ h H q e=>g ad n w b h H q e⟩
  . exact ⟨0,λ_ _ _ _ k x aE=>absurd ⟨k,x,aE⟩ a⟩
 have aG:=aX.eq;obtain ⟨bx,bc,bA,bj,bw,bC,bE,bM,rfl,⟨bS,bY,rfl,bO,bs⟩,Y,ag,⟨bR,bX,rfl,bN,br⟩,af,ai,⟨bU,bZ,rfl,bP,bt⟩,⟨bV,b0,rfl,bQ,bu⟩⟩:=aG;obtain ⟨bD,bb,bB,bf,bL,rfl,aj,W,ah,ae,al⟩:=aX.bT.eq;simp only [bl,a6] at k|-;have aH:=g.wt;obtain ⟨bk,bz,a1,a7,a8,ba,bW,b1,bm,bp,rfl,L,M⟩:=aH.t;refine ⟨aN+aP,λad n bg bh j H e aM I=> ?_⟩;rcases aM with ⟨ax,rfl,a,aF,i,y,-⟩|⟨c,N,rfl⟩
 . refine .inr ⟨ax,rfl,?_⟩;obtain ⟨h,q,K⟩:=k ad n ab ab i H e;obtain ⟨v,A,aC⟩:=x ad n ab ab ax aF a i y h H q e;obtain ⟨aV,z⟩:=id a;obtain ⟨aW,bG,bH,bI,bJ,bK⟩:=z.val;obtain ⟨bF,bd,rfl,aK⟩:=A.wt;refine ⟨_,A,?_⟩;clear A;obtain ⟨aQ,aR,au,ay,aA,aB,aY,aZ,bn,bq,rfl,S,T⟩:=aK.t;cases b<;>simp only [Bool.not_true,Bool.not_false,if_true,eJ,if_false] at K o<;>subst o<;>
   . refine jQ (aL.at (m:=23) rfl rfl rfl rfl rfl rfl rfl rfl ?_);simp only [go_sem,aj.J,W.J,ah.J,ae.J,al.J,Y.J,ag.J,af.J,ai.J,L.J,M.J,I,aW,K,q.O,aC,S.J,T.J];refine ak.mk rfl ?_ e (U.refl _);show ([aa.int .i64 aQ,.int .i64 aR,.str au ay,.str aA aB,aY,aZ].all (D 18)&&_)=true;simp only [aO,S.aI 17,T.aI 17];rfl
 . refine .inl ⟨c,N,rfl,?_⟩;have aS:(c !=0)=true:=by simpa using N
   cases b<;>simp only [if_true,eJ,if_false] at o<;>subst o<;>
   . refine jQ (aL.at (m:=23) rfl rfl rfl rfl rfl rfl rfl rfl ?_);simp only [go_sem,aj.J,W.J,ah.J,ae.J,al.J,Y.J,ag.J,af.J,ai.J,L.J,M.J,I,aS];exact ak.mk rfl rfl e (U.refl _)
end
def VX {rop:Y} {l m:Nat} {r:List aa} (k:r∈rop) (g:eV l m r=true): ∃q,lV rop l m=some q/\q∈rop/\eV l m q=true:=by
 have o : ∀(c:Y) (b:Option (List aa)),(b.isSome\/ ∃h∈c,eV l m h=true)->(c.foldl (λb r=>if eV l m r then some r else b) b).isSome=true:=by
  intro c
  induction c with
  | nil => intro b a;rcases a with a|⟨h,f,-⟩
           . exact a
           . cases f
  | cons e c n=>
    intro b a;refine n _ ?_;by_cases i:eV l m e=true
    . exact .inl (by show (if eV l m e then some e else b).isSome=true;rw [if_pos i];rfl)
    . rcases a with a|⟨h,f,g⟩
      . exact .inl (by show (if eV l m e then some e else b).isSome=true;rw [if_neg i];exact a)
      . rcases b2.1 f with rfl|f
        . exact absurd g i
        . exact .inr ⟨h,f,g⟩
 have a:=o rop none (.inr ⟨r,k,g⟩);obtain ⟨q,j⟩:=Da.1 a;have:=DP (rop:=rop) rop none (λ_ a=>a) (λ_ a=>by cases a) j;exact ⟨q,j,this.1,this.2⟩
def KF (o:List aa):Nat×Nat:=match o with
 |_::_:: .str a b::_=>(a,b)
 |_=>(0,0)
section
variable {d s:List aa} {ar aw rop ao aJ req p aU u:Y} (aX:fz d s ar aw rop ao aJ req p aU u)
include aX
theorem W9 (B:gf ar aw rop ao aJ) {r:List aa} {l m:Nat} {args:Y} {ls ms:Nat} {st:Y} (j:r∈rop) (h:fB r l m args ls ms st) (an:st≠ []) {k:IntKind} {n w y z:aa} {q:List aa} (N:q= [.int k 5,n,.str l m,w,y,z]) (aq:aN q):
  l7 ar aw (eZ rop) (ao.map ct) aJ q=false:=by
 obtain ⟨aL,S,O,Q,P,R,aR,aS,aO,aP,au,-,-⟩:=aq.ea;have a:=au.eq;rw [N] at a;simp only [jn,aa.int.injEq,aa.str.injEq,and_true] at a;obtain ⟨⟨rfl,rfl⟩,rfl,⟨rfl,rfl⟩,rfl,rfl,rfl⟩:=a;subst N;have ad:il r∈eZ rop:=hP _ (cd.2 ⟨r,j,rfl⟩);have ag:eV l m (il r)=true:=by obtain ⟨-,ay,aB,V,az,aC,aG,o,G,av,ax,i,a⟩:=En (aX.bT.op r j);obtain ⟨rfl,rfl,-⟩:=i.uniq h;rw [a];simp [eV]
 obtain ⟨T,ae,b,D⟩:=VX ad ag;have X:mr (eZ rop) (ao.map ct) l m=T:=by unfold mr j0 iQ;rw [ae];rfl
 have al:eh ar (eZ rop) (ao.map ct) [.int .i64 5,.int .i64 S,.str l m,.str P R,y,z]=KF T:=by have:eh ar (eZ rop) (ao.map ct) [.int .i64 5,.int .i64 S,.str l m,.str P R,y,z]=KF (mr (eZ rop) (ao.map ct) l m):=rfl;rw [this,X]
 unfold l7;rw [al];rcases cr.1 b with b|b
 . obtain ⟨c,g,rfl⟩:=cd.1 b;obtain ⟨-,ay,aB,V,az,aC,aG,o,G,av,ax,i,a⟩:=En (aX.bT.op c g);rw [a] at D|-;simp only [eV,br,beq_iff_eq] at D;obtain ⟨rfl,rfl⟩:=D;have aj:c=r:=by
    have ai:=B.v.names;have A:=(rH.1 ai).1;rw [List.pairwise_map] at A;obtain ⟨E,Z⟩:=jo g;obtain ⟨F,ab⟩:=jo j;obtain ⟨H,t⟩:=e6.1 Z;obtain ⟨I,x⟩:=e6.1 ab;have J:M c 0= .str l m:=by obtain ⟨_,_,_,_,_,a,-⟩:=i.eq;rw [a];rfl
    have K:M r 0= .str l m:=by obtain ⟨_,_,_,_,_,a,-⟩:=h.eq;rw [a];rfl
    rcases vV E F with e|e|e
    . have:=qj.1 A E F H I e;rw [t,x,J,K] at this;exact absurd rfl this
    . subst e;rw [<-t,<-x]
    . have:=qj.1 A F E I H e;rw [t,x,J,K] at this;exact absurd rfl this
   subst aj;obtain ⟨-,-,-,rfl,rfl,-⟩:=i.uniq h;exact B.s c j _ _ _ _ _ _ h an
 . obtain ⟨c,g,b⟩:=fC.1 b;obtain ⟨aM,C,rfl⟩:=cd.1 b;obtain ⟨O,Q,aH,aA,aD,U,L⟩:=aX.bT.op c g;have ah:=L;obtain ⟨o,G,aF,aE,ac,rfl,aI,ak,aQ,aK,-⟩:=ah.eq;have W:f (M [.str O Q,o,.str aA aD,G,.int .i64 aE,.int .i64 ac,aF] 6)=U:=bm ak;rw [W,h9] at C;have af:U≠ []:=λa=>by rw [a] at C;simp at C
   exact B.s _ g _ _ _ _ _ _ L af
theorem once (G:gf ar aw rop ao aJ) {l:List aa} {m:Nat} (n:m<1048560) (i:ek m l) {y x:aa} (z:pB ar aw (eZ rop) (ao.map ct) aJ (FK rop ar aw ao l) y) (A:pB ar aw (eZ rop) (ao.map ct) aJ (FJ rop ar aw ao l) x):
  (∃a e,y= .av [a,.int .i64 e]/\e≠0)\/ ∃b,x= .av [b,.int .i64 4]:=by
 rcases z with rfl|⟨T,R,Z,a1,X,⟨aT,aD,aH,V,aF,aK,O,aB,ax,c,E,ad,aj⟩,v,aq,an,ah,af,rfl⟩
 . exact .inl ⟨_,_,rfl,al⟩
 rcases A with rfl|⟨U,S,ab,P,Y,⟨aV,aE,aI,W,aG,aL,aZ,aC,N,a,b,o,ae,F,B,ak⟩,w,au,h,ai,ag,rfl⟩
 . exact .inr ⟨_,rfl⟩
 exfalso;have C:=(Al c.Ef.hS c.FX).1;have D:=((Al o.Ef.hS o.FX).1).erase N;rw [E] at v;rw [F] at w;obtain ⟨-,-,ay,aM,a6,Q,bc,g,aW,q,t,az,aP,a7,ba,bd,J,-,-⟩:=Md n C i v;obtain ⟨-,-,aA,aQ,a8,bb,bf,aR,aS,aY,j,k,-,_,_,_,_,_,-,-,M⟩:=Mc n D i w;rw [q] at j;simp only [jn,and_true] at j;obtain ⟨-,-,-,-,rfl,-⟩:=j;rw [t] at k;simp only [jn] at k;obtain ⟨rfl,-⟩:=k;have K:aN g:=by have r:=i.kids.2 g;rw [q] at r;exact (r (by show g∈f Q;rw [t];exact dF ..)).wt
 have L:O≠ []:=λe=>by have:=c.dp;rw [e] at this;simp at this
 have I:=W9 aX G c.mem c.Ef L J K;rw [B] at h;have H:(dw P 1).getD eb=g:=by rw [M];rfl
 simp only [vv,aO,jm,H,I,nR] at h;cases h
end
def hB (r:List aa):Y:=(f (M r 1)).flatMap (λa=>dd a::cu a)++f (M r 2)++(f (M r 3)).flatMap cC
def m1 (req p aU u:Y):Y:=req.flatMap eo++(p++aU).map dQ++u.flatMap hB
def KT: ∀(l:Y),(l.flatMap λp=>dd p::cu p).Perm (l.map dd++l.flatMap cu)
 | []=> .nil
 |a::l=>by simp only [yL,fS,bl];refine List.Perm.cons _ ?_;refine (List.Perm.append_left (cu a) (KT l)).trans ?_;rw [<-fu,<-fu];exact CO _ List.perm_append_comm
def Yo (r:List aa):(hB r).Perm (pf r):=by
 unfold hB pf Ly Lz Lx;rw [<-vO,<-vO];refine (CO _ (CO _ (KT _))).trans ?_;rw [fu,fu,fu]
def KS {α β:Type} {f g:α->List β} (b: ∀a,(f a).Perm (g a)): ∀(l:List α),(l.flatMap f).Perm (l.flatMap g)
 | []=> .nil
 |a::l=>by simp only [yL];exact (b a).append (KS b l)
def Yn (req p aU u:Y):(m1 req p aU u).Perm (eE req p aU u):=by
 unfold m1 eE;rw [<-vO,<-vO];exact List.Perm.append_left _ (KS Yo u)
def bL.perm {a b:Y} {N:Nat} (f:bL a N) (e:a.Perm b):bL b N:=by
 obtain ⟨c,g,h⟩:=f;exact ⟨c,λj i=>g j (e.mem_iff.2 i),by rw [<-(e.map c).sum_nat];exact h⟩
def qL {α β:Type} (f:α->List β) (g:α->Nat) (b: ∀a,(f a).length=g a): ∀(l:List α),(l.flatMap f).length=(l.map g).sum
 | []=>rfl
 |a::l=>by simp only [yL,bD,fS,kE,b,qL f g b l]
def K8 (req p aU u:Y):(m1 req p aU u).length=(req.map e7).sum+(p.length+aU.length)+(u.map kJ).sum:=by
 unfold m1;rw [bD,bD,di,bD,qL eo e7 (λb=>by unfold eo e7;simp;omega),qL hB kJ (λb=>by unfold hB kJ;rw [bD,bD,qL (λa=>dd a::cu a) iO (λa=>by unfold iO cu;simp;omega),qL cC lp (λ_=>rfl)])]
def z_ {α β:Type} (f:α->List β) (l:List α) (j:Nat):((l.take j).flatMap f).length<=(l.flatMap f).length:=by
 have:l.flatMap f=(l.take j).flatMap f++(l.drop j).flatMap f:=by rw [<-List.flatMap_append,yT]
 rw [this,bD];omega
def MW:aW G 28=some (.slice 83):=aq
@[go_sem] theorem acU (H):cT G 28 0 [] H=some (.A [] true,H):=aq
def Oh {H:af} (J:Z H) {o r:aa} {p aU:Y} (I:F o p) (E:F r aU) (h:Rows 10 (p++aU)) (K:p.length+aU.length<1048560):
    ∃e f l b,cI G 28 28 (.A [] true) o H=some (e,f)/\(∀t,O t e=e)/\cI G 28 28 e r f=some (l,b)/\bd H.n 83 10 (p.length+aU.length) b (p++aU) l/\Z b/\U H b:=by
 have q:Rows 10 p:=λj m=>h j (hP _ m);have z:Rows 10 aU:=λj m=>h j (h7 _ m);obtain ⟨e,f,C,a,w⟩:=bd.app (c:=0) (n0:=H.n) (H:=H) (rows:= []) (aQ:=p) (v:= .A [] true) (x:=o) (k:=10) MW (i:=t83) aq rfl rfl al al (.inr (.inl rfl)) J (aT _) (λj h=>by cases h) (dR (H:=H) I q.len) q (by
  have a:(([]:Y).length+p.length)<=1048560:=by simp only [h5];omega
  have g:t83.bytes+1<=300:=al;exact eT (kF a g) (by unfold b7;omega)) ab
 rw [gH,a6] at a;have B:=w.up H (aT _) (U.refl _);obtain ⟨l,b,D,g,y⟩:=bd.app (aQ:=aU) (x:=r) (k:=10) MW (i:=t83) aq rfl rfl al al a w.tidy B.n q (dR (H:=f) E z.len) z (by have a:(p.length+aU.length)<=1048560:=ab;have g:t83.bytes+1<=300:=al;exact eT (kF a g) (by unfold b7;omega)) ab;exact ⟨e,f,l,b,C,a.O,D,g,y.tidy,y.up H (aT _) B⟩
section
variable {d:List aa} {s:List aa} {ar aw rop ao aJ req p aU u:Y} (aX:fz d s ar aw rop ao aJ req p aU u)
include aX
theorem VG:dt 34 [.agg d] (λv=>F v (m1 req p aU u)) bQ:=by
 have er:=aX.n1;have ev:=K8 req p aU u;have ca: ∀w∈p++aU,iz w:=λw o=>(cr.1 o).elim (aX.b9 w) (aX.hm w);obtain ⟨eL,N,bO,eB,df,dv,eM,eO,cP,⟨dm,dn,rfl,-⟩,aH,bu,⟨c6,c7,rfl,-⟩,br,o,⟨dw,dx,rfl,-⟩,⟨dA,dB,rfl,-⟩⟩:=aX.eq;obtain ⟨dy,cA,dp,cK,dz,rfl,dL,dM,dN,dO,dP⟩:=aX.bT.eq;have eH:req.length<1048559:=by have:=aX.iN;omega
 have eI:u.length<1048559:=by have b6:=aX.iN;have:=D9 u;omega
 refine aL.run (m:=90) rfl rfl rfl rfl rfl rfl rfl rfl 1048570 λeG eJ cc ep r cg=> ?_;rw [cP];simp only [bl,a6];refine ak.bM (λe l=>r=l/\aM 91 [(1,.W 0 [.str dm dn,dy,cA,dp,cK,dz,N,bO,.str c6 c7,df,dv,.str dw dx,.str dA dB])] e) ?_ ?_
 . simp only [go_sem,dL.J,dM.J,dN.J,dO.J,dP.J,aH.J,bu.J,br.J,o.J];exact an.mk ⟨rfl,dC⟩
 rintro e _ ⟨rfl,hF⟩;refine ak.bF hF (λq e l=>r=l/\aM 91 [(3,.V)] e/\q e) ?_ ?_
 . simp only [go_sem];exact an.mk ⟨rfl,ay⟩
 clear hF;rintro e _ ⟨rfl,hF⟩
 have ae: ∀ {aR h:af} {v y:aa} {aP z:Y},P 35 6 aR h v aP->F y z->(∀w∈z,aN w)->aP.length+z.length<1048560-> ∃bU B,cI G 33 33 v y h=some (bU,B)/\P 35 6 aR B bU (aP++z)/\iX aR.n v bU h B:=λ{aR h v y aP z} bo cY bg cc=>
  bo.app (k:=6) (E:=G) (t:=33) (b:=96) (i:=t35) Ah aq rfl rfl al al (x:=y) (aQ:=z) (dR cY λw o=>(bg w o).len) (λw o=>(bg w o).row) cc
 refine ak.kp [1] (λq e l=> ∃v,P 35 6 r l v (req.flatMap eo)/\M e 3=v/\q e) ?_ ?_
 . simp only [go_sem,hF,aH.O,aH.len];generalize a7:a1 _ _ _ _ _ _ _ _ _ _=R;revert R;refine cv [1,15] (λs=> [(3,s.1)]) (λs=>s.2) (λj s=>P 35 6 r s.2 s.1 ((req.take j).flatMap eo)) req.length (.V,r) (P.new _ _ cg) ?_ ?_
   . clear hF;rintro j ⟨v,h⟩ e av a hF;simp only at a hF|-;obtain ⟨y,D⟩:=bA av;have aI:=aV D;have Q:=z_ eo req (j+1);have ew:(req.flatMap eo).length<1048560:=by rw [qL eo e7 (λaW=>by unfold eo e7;simp;omega)];omega
     rw [kR _ D,bD] at Q;have S:=kR eo D;obtain ⟨aC,bY,aK,aW,cz,rfl,L,a8,⟨ez,U,bp,-⟩,⟨dj,rfl⟩,⟨dk,rfl⟩⟩:=aX.kx y aI;rw [xO L.len a8.len,bm U] at Q S;have aG:=A4 L a8 h;have cL:=k7 L.row;have ec:=k7 a8.row;simp only [bD,cl,h5] at Q;obtain ⟨Z,B,T,C,-⟩:= @ae _ _ _ (.A [aC,bY] true) _ [aC,bY] a (.inr ⟨_,rfl⟩) (λw o=>by simp only [b2,dG,or_false] at o;rcases o with rfl|rfl<;>assumption) og;obtain ⟨bV,aB,bf,aj,-⟩:=ae C U bp (by simp only [bD,cl,h5];omega);rw [fu] at aj;obtain ⟨c4,dg,da,dc,db,de,dJ,dS,eC,eE,cM,-,-⟩:=L.ea;obtain ⟨c5,dh,dq,ds,dr,du,dK,dT,eD,eF,cN,-,-⟩:=a8.ea;obtain ⟨rfl,c0,c2⟩:=cM.c;obtain ⟨rfl,c1,c3⟩:=cN.c;simp only [bl,a6] at D;refine au.kp [17,16,1,15] (λq e l=>h=l/\ ∃cm,M e 3=v/\M e 5= .W cm [.int .i64 c4,.int .i64 dg,.str da dc,.str db de,dJ,dS,.int .i64 c5,.int .i64 dh,.str dq ds,.str dr du,dK,dT,aK,.int .i64 dj,.int .i64 dk]/\q e) ?_ ?_
     . simp only [go_sem,hF,aH.O,aH.a_ (k:=15) D rfl,c0.J,c2.J,c1.J,c3.J,U.J];exact an.mk ⟨rfl,_,by simp only [go_sem,hF];trivial⟩
     clear hF;rintro e _ ⟨rfl,cm,hF⟩;simp only [go_sem,hF,U.O,aG,bH,a.O,T,C.O,bf,aj.O];exact au.next (bV,aB) rfl (by show P _ 6 r _ _ ((req.take (j+1)).flatMap eo);rw [S];exact aj) ay
   . rintro ⟨v,h⟩ e a hF;simp only at a hF;rw [bX] at a;simp only [go_sem];exact an.mk ⟨v,a,ay⟩
 clear hF;rintro e h ⟨v,a,hF⟩;have bk:Rows 10 (p++aU):=λw o=>(ca w o).row;obtain ⟨eN,dU,ad,B,b3,b5,b4,H,cq,ct⟩:=Oh a.tidy bu br bk (by have:=aX.iN;omega);have b7:=a.at cq ct;have cf:=H.cw bk.len;have bx: ∀id,cW ad=some id->h.n<=id/\id<B.n:=λid N=>⟨H.ge N,H.lt N⟩;have bB:=H.O;have bz:=H.len;have b8:((p++aU).map dQ).length=p.length+aU.length:=by rw [di,bD]
 refine ak.kp [1] (λq e l=> ∃v,P 35 6 r l v (req.flatMap eo++(p++aU).map dQ)/\M e 3=v/\q e) ?_ ?_
 . rw [bD] at bz;simp only [go_sem,hF,bu.O,br.O,b3,b5,b4,bH,bB,bz];generalize a7:a1 _ _ _ _ _ _ _ _ _ _=R;revert R;refine cv [1,38] (λs=> [(3,s.1)]) (λs=>s.2) (λj s=>P 35 6 r s.2 s.1 (req.flatMap eo++((p++aU).map dQ).take j)/\cG s.2 10 ad (p++aU)/\(∀id,cW s.1=some id->cW ad≠some id)/\B.n<=s.2.n) (p.length+aU.length) (v,B) ⟨by simpa using b7,cf,λid N ah=>by have:=a.W.lt N;have:=(bx id ah).1;omega,aT _⟩ ?_ ?_
   . clear hF;rintro j ⟨v,h⟩ e av ⟨a,bw,bn,cb⟩ hF;simp only at a bw bn cb hF|-;obtain ⟨y,D⟩: ∃w,(p++aU)[j]? =some w:=⟨(p++aU)[j]'(by rw [bD];exact av),by simp only [lj (show j<(p++aU).length by rw [bD];exact av)]⟩;have aI:=aV D;have I:((p++aU).map dQ)[j]? =some (dQ y):=by rw [hO,D];rfl
     have Q:(req.flatMap eo++((p++aU).map dQ).take (j+1)).length<1048560:=by have b6:(req.flatMap eo).length=(req.map e7).sum:=qL eo e7 (λaW=>by unfold eo e7;simp;omega) req;rw [bD,h6,b8];omega
     have S:req.flatMap eo++((p++aU).map dQ).take (j+1)=(req.flatMap eo++((p++aU).map dQ).take j)++ [dQ y]:=by rw [od I,fu]
     rw [S,bD] at Q;obtain ⟨dY,dZ,aS,bc,bd,rfl,⟨aD,aE,rfl,-⟩,⟨bZ,b0,rfl,-⟩,aZ,⟨bc,rfl⟩,⟨bd,rfl⟩⟩:=ca y aI;have cH:dQ ([.str aD aE,.str bZ b0]++aS++ [.int .i64 bc,.int .i64 bd])=aS:=by unfold dQ;rw [fu,qh ai];simp [aZ.len]
     rw [cH] at S;have aG:=jc aZ h;obtain ⟨Z,aB,T,C,bj⟩:= @ae _ _ _ (.A [aS] true) _ [aS] a (.inr ⟨_,rfl⟩) (λw o=>by rw [bs.1 o];exact aZ) Q;have cV:=bw.bS λid bO bo N=>bj.other id bO bo λah=>bn id ah N;obtain ⟨g,cS,cT,cd,-⟩:=bw.at bk.len D;obtain ⟨bL,bN,bG,bI,bJ,bK,bR,bP,c9,c8,rfl,bE,bC⟩:=aZ.t;simp only [bl,a6] at cd;refine au.kp [40,1,38] (λq e l=>h=l/\ ∃cn,M e 39= .int .i64 ((p.length:Int)+(aU.length:Int))/\M e 3=v/\M e 7= .W cn [.str aD aE,.str bZ b0,.int .i64 bL,.int .i64 bN,.str bG bI,.str bJ bK,bR,bP,.int .i64 bc,.int .i64 bd]/\q e) ?_ ?_
     . simp only [go_sem,hF,bB,cS,cT,cd,bE.J,bC.J];exact an.mk ⟨rfl,_,by simp only [go_sem,hF];exact ⟨rfl,rfl⟩⟩
     clear hF;rintro e _ ⟨rfl,cn,hF⟩;simp only [go_sem,hF,aG,bH,a.O,T,C.O];exact au.next (Z,aB) rfl ⟨by show P _ 6 r _ _ (_++((p++aU).map dQ).take (j+1));rw [S];exact C,cV,λid N ah=>by
      rcases bj.new id N with aY|aY
      . exact bn id aY ah
      . have:=(bx id ah).2;omega,eT cb bj.n⟩ (by simp only [go_sem,hF];rfl)
   . rintro ⟨v,h⟩ e ⟨a,-⟩ hF;simp only at a hF;rw [fT ab] at a;simp only [go_sem];exact an.mk ⟨v,a,ay⟩
 clear hF a b7 cf bx bB bz H ct cq b3 b4 b5;rintro e h ⟨v,a,hF⟩;have ee:(req.flatMap eo++(p++aU).map dQ).length=(req.map e7).sum+(p.length+aU.length):=by rw [bD,b8,qL eo e7 (λaW=>by unfold eo e7;simp;omega)]
 have eu:(u.flatMap hB).length=(u.map kJ).sum:=by
  have b6:(m1 req p aU u).length=(req.flatMap eo++(p++aU).map dQ).length+(u.flatMap hB).length:=by unfold m1;rw [bD]
  omega
 have cR:m1 req p aU u=(req.flatMap eo++(p++aU).map dQ)++u.flatMap hB:=rfl;rw [cR];generalize ed:req.flatMap eo++(p++aU).map dQ=X at*;refine ak.bM (λe l=> ∃v,P 35 6 r l v (X++u.flatMap hB)/\aM 91 [(3,v)] e) ?_ ?_
 . simp only [go_sem,hF,o.O,o.len];generalize a7:a1 _ _ _ _ _ _ _ _ _ _=R;revert R;refine cv [51] (λs=> [(3,s.1)]) (λs=>s.2) (λj s=>P 35 6 r s.2 s.1 (X++(u.take j).flatMap hB)) u.length (v,h) (by simpa using a) ?_ ?_
   . clear hF;rintro j ⟨v,h⟩ e av a hF;simp only at a hF|-;obtain ⟨y,D⟩:=bA av;have aI:=aV D;have Q:=z_ hB u (j+1);rw [kR _ D,bD] at Q;have S:=kR hB D;obtain ⟨eK,g,aK,ad,b1,aW,cz,rfl,⟨aD,aE,rfl,-⟩,⟨K,ax,cU,et⟩,⟨aO,U,bp,ej⟩,⟨aA,H,cX,ey⟩,⟨eb,cQ,ei,eh⟩,⟨ch,rfl⟩,⟨cj,rfl⟩⟩:=aX.bh y aI;have cE:hB [.str aD aE,g,aK,ad,b1,.int .i64 ch,.int .i64 cj]=K.flatMap (λg=>dd g::cu g)++aO++aA.flatMap cC:=by show (f g).flatMap _++f aK++(f ad).flatMap cC=_;rw [bm ax,bm U,bm H]
     rw [cE] at Q S;simp only [bD] at Q;have ef:(X++(u.take j).flatMap hB).length=X.length+((u.take j).flatMap hB).length:=bD;have cF:X++(u.take (j+1)).flatMap hB=(X++(u.take j).flatMap hB)++K.flatMap (λg=>dd g::cu g)++aO++aA.flatMap cC:=by rw [S];simp only [fu]
     generalize bg:X++(u.take j).flatMap hB=z at*;refine au.kp [53,52,51] (λq e l=>h=l/\ ∃cp,M e 3=v/\M e 9= .W cp [.str aD aE,g,aK,ad,b1,.int .i64 ch,.int .i64 cj]/\q e) ?_ ?_
     . simp only [go_sem,hF,o.O,o.a_ (k:=7) D rfl,ax.J,U.J,H.J,cQ.J];exact an.mk ⟨rfl,_,by simp only [go_sem,hF];trivial⟩
     clear hF;rintro e _ ⟨rfl,cp,hF⟩;refine au.kp [53,52,51,9] (λq e l=> ∃v,P 35 6 r l v (z++K.flatMap λg=>dd g::cu g)/\M e 3=v/\q e) ?_ ?_
     . simp only [go_sem,hF,ax.O,ax.len];generalize a7:a1 _ _ _ _ _ _ _ _ _ _=R;revert R;refine cv [53,52,51,9,58] (λs=> [(3,s.1)]) (λs=>s.2) (λj s=>P 35 6 r s.2 s.1 (z++(K.take j).flatMap λg=>dd g::cu g)) K.length (v,h) (by simpa using a) ?_ ?_
       . clear hF;rintro ag ⟨v,h⟩ e bq a hF;simp only at a hF|-;obtain ⟨y,I⟩:=bA bq;have bt:=aV I;have az:=z_ (λg=>dd g::cu g) K (ag+1);rw [kR _ I,bD] at az;have aF:=kR (λg=>dd g::cu g) I;obtain ⟨dV,dW,aC,dF,cx,cy,rfl,⟨dD,dH,rfl,-⟩,⟨dE,dI,rfl,-⟩,L,⟨eA,bb,cZ,-⟩,⟨cx,rfl⟩,⟨cy,rfl⟩⟩:=cU y bt;rw [zy L.len,zz L.len,bm bb] at az aF;simp only [cl] at az;have aG:=jc L h;have cL:=k7 L.row;have ek:(z++(K.take ag).flatMap λg=>dd g::cu g).length=z.length+((K.take ag).flatMap λg=>dd g::cu g).length:=bD;obtain ⟨Z,B,T,C,-⟩:= @ae _ _ _ (.A [aC] true) _ [aC] a (.inr ⟨_,rfl⟩) (λw o=>by rw [bs.1 o];exact L) og;obtain ⟨bV,aB,bf,aj,-⟩:=ae C bb cZ (by simp only [bD,cl,h5];omega);obtain ⟨bL,bN,bG,bI,bJ,bK,bR,bP,c9,c8,rfl,bE,bC⟩:=L.t;simp only [bl,a6] at I;refine au.kp [60,59,53,52,51,9,58] (λq e l=>h=l/\ ∃ck,M e 3=v/\M e 11= .W ck [.str dD dH,.str dE dI,.int .i64 bL,.int .i64 bN,.str bG bI,.str bJ bK,bR,bP,dF,.int .i64 cx,.int .i64 cy]/\q e) ?_ ?_
         . simp only [go_sem,hF,ax.O,ax.a_ (k:=11) I rfl,bE.J,bC.J,bb.J];exact an.mk ⟨rfl,_,by simp only [go_sem,hF];trivial⟩
         clear hF;rintro e _ ⟨rfl,ck,hF⟩;simp only [go_sem,hF,bb.O,aG,bH,a.O,T,C.O,bf,aj.O];exact au.next (bV,aB) rfl (by show P _ 6 r _ _ (z++(K.take (ag+1)).flatMap _);rw [aF];simpa only [fu,bl,a6] using aj) ay
       . rintro ⟨v,h⟩ e a hF;simp only at a hF;rw [bX] at a;simp only [go_sem];exact an.mk ⟨v,a,ay⟩
     clear hF a;rintro e h ⟨v,a,hF⟩;obtain ⟨Z,B,T,C,-⟩:=ae a U bp uF;refine au.kp [53,52,51,9] (λq e l=>B=l/\M e 3=Z/\q e) ?_ ?_
     . simp only [go_sem,hF,U.O,a.O,T,bH,C.O];exact an.mk ⟨rfl,ay⟩
     clear hF a;rintro e _ ⟨rfl,hF⟩;have en:(z++K.flatMap (λg=>dd g::cu g)++aO).length=z.length+(K.flatMap λg=>dd g::cu g).length+aO.length:=by rw [bD,bD]
     generalize z++K.flatMap (λg=>dd g::cu g)++aO=bW at*;simp only [go_sem,hF,H.O,H.len];generalize a7:a1 _ _ _ _ _ _ _ _ _ _=R;revert R;refine cv [53,52,51,78] (λs=> [(3,s.1)]) (λs=>s.2) (λj s=>P 35 6 r s.2 s.1 (bW++(aA.take j).flatMap cC)) aA.length (Z,B) (by simpa using C) ?_ ?_
     . clear hF;rintro ag ⟨v,h⟩ e bq a hF;simp only at a hF|-;obtain ⟨y,I⟩:=bA bq;have bt:=aV I;have az:=z_ cC aA (ag+1);rw [kR _ I,bD] at az;have aF:=kR cC I;obtain ⟨cD,rfl,⟨cB,ba,cO,eg⟩⟩:=cX y bt;have cJ:cC [cD]=cB:=bm ba;rw [cJ] at az aF;obtain ⟨Z,B,T,C,-⟩:=ae a ba cO uF;simp only [go_sem,hF,H.O,H.a_ (k:=1) I rfl,ba.J,ba.O,a.O,T,bH,C.O];exact au.next (Z,B) rfl (by show P _ 6 r _ _ (bW++(aA.take (ag+1)).flatMap cC);rw [aF,<-fu];exact C) ay
     . rintro ⟨v,h⟩ e a hF;simp only at a hF;rw [bX] at a;simp only [go_sem];exact au.next (v,h) rfl (by show P _ 6 r _ _ (X++(u.take (j+1)).flatMap hB);rw [cF];exact a) ay
   . rintro ⟨v,h⟩ e a hF;simp only at a hF;rw [bX] at a;simp only [go_sem];exact an.mk ⟨v,a,ay⟩
 clear hF a;rintro e h ⟨v,a,hF⟩;simp only [go_sem,hF,a.O,a.nl,dX,if_true];exact ak.W al cg a.rw a.W (aT _) a.up λad aY=>aY
end
end Go.aj
