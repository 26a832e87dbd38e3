/- A part of the proof. -/
import Derived.Test.YtiodgpibgiodcaaGreatDoorP00
import Derived.Test.YtiodgpibgiodcaaGreatDoorP06
set_option linter.all false
set_option maxHeartbeats 4000000
namespace Go.aj
def uh (e v:aa) (H:af):cY:=if aD e&&aD v then .ret (.av [e,v]) H else .fail
def EE (o:Option aa) (H:af):cY:=match o with
 |some e=>dX e H
 |none=> .fail
def EF (o:Option aa) (e:aa) (H:af):cY:=match o with
 |some f=>uh f e H
 |none=> .fail
section
variable (E:Env)
def gp (rs:List ResultVar) (tm:List aa) (H:af):cY:=match hU E tm H rs with
 |some [e]=>if aD e then .ret e H else .fail
 |some f=>if f.all aD then .ret (.av f) H else .fail
 |none=> .fail
def fin (rs:List ResultVar):bP->cY
 | .normal f e []=>gp E rs f e
 | .ret f e []=>gp E rs f e
 | .aK g _ e []=> .aK g e
 |_=> .fail
theorem RK (rs tm H):fin E rs (.normal tm H [])=gp E rs tm H:=rfl
theorem RM (rs tm H):fin E rs (.ret tm H [])=gp E rs tm H:=rfl
theorem RL (rs v tm H):fin E rs (.aK v tm H [])= .aK v H:=rfl
theorem Y9 (tm H):gp E [] tm H= .ret (.av []) H:=rfl
theorem Y_ (tm H t):gp E [.tmp t] tm H=dX (M tm t) H:=by simp [gp,hU,lx,dX]
theorem Za (tm H t u):gp E [.tmp t,.tmp u] tm H=uh (M tm t) (M tm u) H:=by simp [gp,hU,lx,uh]
theorem Y7 (tm H a t):gp E [.cell a t] tm H=EE (dW E t (O a (M tm a)) tm H) H:=by
 simp only [gp,hU,lx,EE,dX];show (match (match dW E t (O a (M tm a)) tm H with|some e=>some [e]|none=>none) with|some [e]=>_|some f=>_|none=>_)=_
 grind
theorem Y8 (tm H a t u):gp E [.cell a t,.tmp u] tm H=EF (dW E t (O a (M tm a)) tm H) (M tm u) H:=by
 simp only [gp,hU,lx,EF,uh];show (match (match dW E t (O a (M tm a)) tm H with|some e=>some [e,M tm u]|none=>none) with|some [e]=>_|some f=>_|none=>_)=_
 grind
attribute [go_sem] RK RM RL Y9 Y_ Za Y7 Y8 EE EF
end
def Y3 (v H) (ag:aD v=true):dX v H= .ret v H:=by simp [dX,ag]
def Y4 (u v H) (ag:aD u=true) (g:aD v=true):uh u v H= .ret (.av [u,v]) H:=by simp [uh,ag,g]
attribute [go_sem] Y3 Y4
theorem W6 (a b):aD (.str a b)=true:=rfl
theorem W7 (a):aD (.av a)=true:=rfl
theorem W1:aD .dz=true:=rfl
theorem WW (a b):aD (.b5 a b)=true:=rfl
theorem WX (a b):aD (.iface a b)=true:=rfl
theorem W0:aD .dj=true:=rfl
theorem WZ (a):aD (.map a)=true:=rfl
theorem WU (a b):aD (.ck a b)=true:=rfl
attribute [go_sem] W6 W7 W1 WW WX W0 WZ WU
section
variable {E:Env} {R:bU}
theorem e.aE {v H rs b x y h w} (f:b=true->e v H (fin E rs (x ()))) (g:b=false->e v H (fin E rs (y ()))):e v H (fin E rs (eH b x y h w)):=by
 cases b with
 |true=>exact f rfl
 |false=>exact g rfl
theorem mA (cf:cb) (ad:Nat) (fn:Func) (rs:List ResultVar) (j:fn.results=rs.toArray) (r:bP) (ag:fin E rs r≠ .fail):finish E cf R ad fn r=fin E rs r:=by
 have h: ∀f e,hA E fn f e=gp E rs f e:=λf e=>by unfold hA gp;rw [j];show (match hU E f e rs.toArray.toList with|some [k]=>_|some l=>_|none=>_)=_;simp
 cases r with
 | normal f e g=>cases g with
   |nil=>exact h f e
   |cons=>exact absurd rfl ag
 | ret f e g=>cases g with
   |nil=>exact h f e
   |cons=>exact absurd rfl ag
 | aK k f e g=>cases g with
   |nil=>rfl
   |cons=>exact absurd rfl ag
 |exit=>exact absurd rfl ag
 |fail=>exact absurd rfl ag
theorem C.run {f m:Nat} {args:List aa} {v:aa} {fn:Func} {c:Code} {rs:List ResultVar} (u:E.cL f=none) (q:E.fns f=some fn) (p:fn.body=some c) (w:fn.results=rs.toArray) (s:fn.ntmps=args.length+m)
  (o:args.all aD=true) (x:E.pure f=false) (r:E.bS f=false) (k:Nat)
  (ag: ∀ad n,k<=ad->k<=n-> ∀H,Z H->e v H (fin E rs (evalCode E (X E R ad n) R ad f c (args++List.replicate m (.av [])) H []))):C E R f args v:=
 C.mk u q p s o x r k λad n h j H l=>by
  have g:=ag ad n h j H l;rw [mA]
  . exact g
  . exact w
  . obtain ⟨B,y,z,A,-⟩:=g
    grind
end
inductive sC where
  |st (o5:List (Nat×Nat))
  |A (el k b:Nat)
  |str
  |mp (amX el:Nat)
  |o
structure mh where
  c9:Nat
  cK:Bool
  k:sC
section
variable (E:Env)
def mW (f:List Field):Option (List (Nat×Nat)):=f.foldr (λe h=>match bZ E e.type,h with
 |some (n+1),some g=>some ((e.offset,n+1)::g)
 |_,_=>none) (some [])
def sa (el:Nat):sC:=match E.T el,bN E el with
 | some i,some e=>match Nat.blt 0 i.size&&(Nat.ble i.bytes 4096&&(Nat.beq e.cells.length i.size&&e.cells.all J)) with
   |true=> .A el i.size i.bytes
   |false=> .o
 |_,_=> .o
def oY (t:Nat):sC:=match aW E t with
 | some (.struct f)=>match mW E f.toList with
   |some h=> .st h
   |none=> .o
 |some (.slice e)=>sa E e
 |some .string=> .str
 |some (.map g e)=> .mp g e
 |_=> .o
def n (t:Nat):Option mh:=match bZ E t,aW E t with
 |some n,some d=>some ⟨n,jS d,oY E t⟩
 |_,_=>none
def JU (x:aa):Option aa:=match x with
 | .str e _=>some (.int .i64 e)
 |_=>none
def DV (k:sC) (t:Nat) (x:aa) (H:af):Option aa:=match k with
 | .A _ _ _=>iL x
 | .str=>JU x
 |_=>fE E t x H
def IT (k:sC) (t:Nat) (x i:aa):Option aa:=match k with
 | .A _ k _=>kA k x i
 |_=>jR E t x i
def BL (k:sC) (t:Nat) (p:aa) (f:Nat):Option aa:=match k with
 | .st e=>match e[f]? with
   |some o=>gT p o.1
   |none=>jh E t p f
 |_=>jh E t p f
theorem L2 {el a k b:Nat} (ag:sa E el= .A a k b): ∃i z,E.T el=some i/\bN E el=some z/\a=el/\i.size=k/\i.bytes=b/\0<k/\b<=4096/\z.cells.length=k/\z.cells.all J=true:=by
 unfold sa at ag;split at ag
 . rename_i i z hT e;split at ag
   all_goals simp_all
 grind
theorem sb (el:Nat):sa E el= .o\/ ∃k b,sa E el= .A el k b:=by
 unfold sa
 grind
variable {E} {t:Nat} {i:mh} (ag:n E t=some i)
include ag
theorem po: ∃d,bZ E t=some i.c9/\aW E t=some d/\i.cK=jS d/\i.k=oY E t:=by
 unfold n at ag
 grind
theorem aaW (p tm H):dW E t p tm H=jY i.c9 i.cK (gq tm H p):=by obtain ⟨d,e,f,g,-⟩:=po ag;rw [Wh E t _ d p tm H e f,g]
theorem aaY (p v tm H):hd E t p v tm H=hf i.c9 p v.cells tm H:=by obtain ⟨d,e,-⟩:=po ag;exact aay E t _ p v tm H e
theorem aaX (x H):fE E t x H=DV E i.k t x H:=by
 obtain ⟨d,l,e,m,j⟩:=po ag;rw [j];unfold oY;rw [e]
 cases d with
 | slice g=>
   simp only;rcases sb E g with f|⟨k,b,f⟩<;>rw [f]
   . rfl
   . exact V5 E t g x H e
 |string=>cases x<;>simp [DV,JU,fE,e]
 | struct h=>
   simp only;cases n:mW E h.toList<;>rfl
 |_=>rfl
theorem aaV (x j):jR E t x j=IT E i.k t x j:=by
 obtain ⟨d,n,g,o,l⟩:=po ag;rw [l];unfold oY;rw [g]
 cases d with
 | slice f=>
   simp only;rcases sb E f with e|⟨k,b,e⟩<;>rw [e]
   . rfl
   . obtain ⟨i,r,hT,q,-,m,-⟩:=L2 E e;exact Tv E t f k x j g (by simp [bZ,hT,m])
 | struct h=>
   simp only;cases p:mW E h.toList<;>rfl
 |_=>rfl
omit ag in
theorem Kr: ∀(ee:List Field) (l:List (Nat×Nat)) (f:Nat) (o:Nat×Nat),mW E ee=some l->l[f]? =some o-> ∃fd m,ee[f]? =some fd/\fd.offset=o.1/\bZ E fd.type=some (m+1)
 | [],l,f,o,ag,g=>by simp [mW] at ag;grind
 | fd::ee,l,f,o,ag,g=>by
   simp only [mW,yM] at ag;split at ag
   . rename_i m wc aS bG;cases ag
     cases f with
     |zero=>grind
     |succ f=>simp at g;exact Kr ee wc f o bG g
   grind
theorem aaU (p f):jh E t p f=BL E i.k t p f:=by
 obtain ⟨d,x,h,y,r⟩:=po ag;rw [r];unfold oY;rw [h]
 cases d with
 | slice l=>
   simp only;rcases sb E l with g|⟨k,b,g⟩<;>rw [g]<;>rfl
 | struct e=>
   simp only
   cases u:mW E e.toList with
   |none=>rfl
   | some j=>
     simp only [BL]
     cases s:j[f]? with
     |none=>rfl
     | some o=>
       obtain ⟨m,v,w,n,q⟩:=Kr e.toList j f o u s;exact RF E t f o.1 v e m p h ah n q
 |_=>rfl
end
section
variable (E:Env)
def JS (o:Option mh) (t:Nat) (p:aa) (tm:List aa) (H:af):Option aa:=match o with
 |some i=>jY i.c9 i.cK (gq tm H p)
 |none=>dW E t p tm H
def Me (o:Option mh) (t:Nat) (p v:aa) (tm:List aa) (H:af):bf:=match o with
 |some i=>hf i.c9 p v.cells tm H
 |none=>hd E t p v tm H
def DW (o:Option mh) (t:Nat) (x:aa) (H:af):Option aa:=match o with
 |some i=>DV E i.k t x H
 |none=>fE E t x H
def IU (o:Option mh) (t:Nat) (x i:aa):Option aa:=match o with
 |some e=>IT E e.k t x i
 |none=>jR E t x i
def Hz (o:Option mh) (t:Nat) (p:aa) (f:Nat):Option aa:=match o with
 |some i=>BL E i.k t p f
 |none=>jh E t p f
theorem V0 (t p tm H):dW E t p tm H=JS E (n E t) t p tm H:=by
 cases ag:n E t with
 |none=>rfl
 |some i=>exact aaW ag p tm H
theorem aar (t p v tm H):hd E t p v tm H=Me E (n E t) t p v tm H:=by
 cases ag:n E t with
 |none=>rfl
 |some i=>exact aaY ag p v tm H
theorem Wc (t x H):fE E t x H=DW E (n E t) t x H:=by
 cases ag:n E t with
 |none=>rfl
 |some i=>exact aaX ag x H
theorem TS (t x i):jR E t x i=IU E (n E t) t x i:=by
 cases ag:n E t with
 |none=>rfl
 |some e=>exact aaV ag x i
theorem RC (t p f):jh E t p f=Hz E (n E t) t p f:=by
 cases ag:n E t with
 |none=>rfl
 |some i=>exact aaU ag p f
theorem VZ (c9 cK k t p tm H):JS E (some ⟨c9,cK,k⟩) t p tm H=jY c9 cK (gq tm H p):=rfl
theorem aaq (c9 cK k t p v tm H):Me E (some ⟨c9,cK,k⟩) t p v tm H=hf c9 p v.cells tm H:=rfl
theorem Wa (c9 cK a b c t x H):DW E (some ⟨c9,cK,.A a b c⟩) t x H=iL x:=rfl
theorem Wb (c9 cK t a b H):DW E (some ⟨c9,cK,.str⟩) t (.str a b) H=some (.int .i64 a):=rfl
theorem TR (c9 cK a k b t x i):IU E (some ⟨c9,cK,.A a k b⟩) t x i=kA k x i:=rfl
theorem RB (c9 cK l t p f):Hz E (some ⟨c9,cK,.st l⟩) t p f=match l[f]? with
 |some o=>gT p o.1
 |none=>jh E t p f:=rfl
def vG (o:Option mh) (t:Nat) (x i:aa):Option aa:=match o with
 | some ⟨_,_,.str⟩=>match x,i with
   | .str e f,.int _ (.ofNat n)=>if n<e then some (.int .u8 (en f n:Nat)) else none
   |_,_=>none
 |_=>oU E t x i
theorem TH (t x i):oU E t x i=vG E (n E t) t x i:=by
 cases ag:n E t with
 |none=>rfl
 | some l=>
   obtain ⟨d,q,g,r,e⟩:=po ag;obtain ⟨s,o,h⟩:=l;cases h<;>try rfl
   simp only [vG];have k:aW E t=some .string:=by
    simp only at e;unfold oY at e;rw [g] at e
    cases d with
    |string=>exact g
    | slice j=>
      simp only at e;rcases sb E j with f|⟨h,b,f⟩<;>rw [f] at e<;>cases e
    | struct p=>
      grind
    |_=>cases e
   unfold oU;rw [k];cases x<;>cases i<;>try rfl
   rename_i m;cases m<;>simp [k1]
theorem TE (c9 cK t l m k) (n:Nat):vG E (some ⟨c9,cK,.str⟩) t (.str l m) (.int k n)=if n<l then some (.int .u8 (en m n:Nat)) else none:=rfl
theorem TF (c9 cK t l m k):vG E (some ⟨c9,cK,.str⟩) t (.str l m) (.int k 0)=if 0<l then some (.int .u8 (en m 0:Nat)) else none:=rfl
theorem TG (c9 cK t l m k):vG E (some ⟨c9,cK,.str⟩) t (.str l m) (.int k 1)=if 1<l then some (.int .u8 (en m 1:Nat)) else none:=rfl
attribute [go_sem] TH TE TF TG
attribute [go_sem] V0 aar Wc TS RC VZ aaq Wa Wb TR RB
end
def fG (k:Nat) (x:aa) (lo e mx:Option aa):Option aa:=match x with
 | .V=>zS lo e mx
 | .A g c=>match r7 k g with
   |true=>qJ g c lo e mx
   |false=>none
 | .ref id gen j f h c=>match Nat.beq k f with
   |true=>l4 id gen j f h c lo e mx
   |false=>none
 |_=>none
def uq (x:aa) (lo e mx:Option aa):Option aa:=match x with
 | .str f g=>m8 f g lo e mx
 |_=>none
section
variable (E:Env)
theorem Mx {t h cK k} (ag:n E t=some ⟨h,cK,k⟩):(k= .str->aW E t=some .string)/\(∀el c b,k= .A el c b->aW E t=some (.slice el)/\sa E el= .A el c b):=by
 obtain ⟨d,l,f,m,g⟩:=po ag;simp only at g;subst g;rw [f];unfold oY;rw [f]
 cases d with
 |string=>simp
 | slice el=>
   simp only;rcases sb E el with e|⟨k,b,e⟩<;>rw [e]
   all_goals grind
 | struct j=>
   grind
 |_=>simp
def wN (o:Option mh) (t:Nat) (x:aa) (lo e mx:Option aa):Option aa:=match o with
 |some ⟨_,_,.str⟩=>uq x lo e mx
 |some ⟨_,_,.A _ f _⟩=>fG f x lo e mx
 |_=>gO E t x lo e mx
theorem L3 (t x lo a8 mx):gO E t x lo a8 mx=wN E (n E t) t x lo a8 mx:=by
 cases ag:n E t with
 |none=>rfl
 | some i=>
   obtain ⟨p,o,e⟩:=i;obtain ⟨g,h⟩:=Mx E ag
   cases e with
   |str=>unfold gO;rw [g rfl];cases x<;>rfl
   | A f e b=>
     obtain ⟨j,k⟩:=h f e b rfl;obtain ⟨i,q,hT,-,-,m,-⟩:=L2 E k;have l:bZ E f=some e:=by simp [bZ,hT,m]
     unfold gO;rw [j];simp only [l];cases x<;>rfl
   |_=>rfl
def wu (o:Option mh) (t:Nat) (x:aa) (lo e mx:Option aa) (tm:List aa) (H:af):bf:=match o with
 |some ⟨_,_,.str⟩=>bb (uq x lo e mx) tm H
 |some ⟨_,_,.A _ f _⟩=>bb (kL (fG f x lo e mx) (hC E t x lo e mx H)) tm H
 |_=>ij E t (aW E t) x lo e mx tm H
theorem KE (t x lo a8 mx tm H):ij E t (aW E t) x lo a8 mx tm H=wu E (n E t) t x lo a8 mx tm H:=by
 have e:=L3 E t x lo a8 mx
 cases ag:n E t with
 |none=>rfl
 | some i=>
   rw [ag] at e;obtain ⟨p,m,f⟩:=i;obtain ⟨j,k⟩:=Mx E ag
   cases f with
   | str=>
     have g:hC E t x lo a8 mx H=none:=by unfold hC;grind
     simp only [ij,j rfl,e,g,wu,wN];cases uq x lo a8 mx<;>rfl
   | A h f b=>
     obtain ⟨l,o⟩:=k h f b rfl;simp only [ij,l,e,wu,wN]
   |_=>rfl
theorem Z5 (c9 cK t x lo a8 mx):wN E (some ⟨c9,cK,.str⟩) t x lo a8 mx=uq x lo a8 mx:=rfl
theorem Z4 (c9 cK a k b t x lo a8 mx):wN E (some ⟨c9,cK,.A a k b⟩) t x lo a8 mx=fG k x lo a8 mx:=rfl
theorem XX (c9 cK t x lo a8 mx tm H):wu E (some ⟨c9,cK,.str⟩) t x lo a8 mx tm H=bb (uq x lo a8 mx) tm H:=rfl
theorem XW (c9 cK a k b t x lo a8 mx tm H):wu E (some ⟨c9,cK,.A a k b⟩) t x lo a8 mx tm H=bb (kL (fG k x lo a8 mx) (hC E t x lo a8 mx H)) tm H:=rfl
theorem X5 (v s):kL (some v) s=some v:=rfl
theorem Z6 (l m lo a8 mx):uq (.str l m) lo a8 mx=m8 l m lo a8 mx:=rfl
attribute [go_sem] L3 KE Z5 Z4 XX XW X5 Z6
theorem L5 (l m ag:Nat) (k:IntKind):m8 l m none (some (.int k (ag:Nat))) none=if ag<=l then some (.str ag (m%2^(8*ag))) else none:=by show (if 0<=ag/\ag<=l then _ else _)=_;simp
theorem L4 (l m ag:Nat) (k:IntKind):m8 l m (some (.int k (ag:Nat))) none none=if ag<=l then some (.str (l-ag) ((m>>>(8*ag))%2^(8*(l-ag)))) else none:=by show (if ag<=l/\l<=l then _ else _)=_;simp
end
def pS (g:List (Nat×Nat)) (f:List aa):List (Nat×aa)->Option aa
 | []=>some (.agg f)
 | (i,e)::rest=>match g[i]? with
   |some h=>if e.cells.length=h.2/\e.cells.all J=true then (match cB f h.1 e.cells with
    |some c=>pS g c rest
    |none=>none) else none
   |none=>none
section
variable (E:Env)
def AW (o:Option mh) (z:Option aa) (t:Nat) (e:List (Nat×aa)):Option aa:=match o,z with
 |some ⟨_,_,.st f⟩,some z=>pS f z.cells e
 |_,_=>oE E t e
theorem Kq: ∀(e:List Field) (l:List (Nat×Nat)),mW E e=some l->e.all (λf=>(bZ E f.type).isSome)=true/\ ∀i:Nat,(match e[i]? with
  | some f=>match bZ E f.type with
    |some n=>some (f.offset,n)
    |none=>none
  |none=>none)=l[i]?
 | [],l,ag=>by simp [mW] at ag;grind
 | j ::e,l,ag=>by
   simp only [mW,yM] at ag;split at ag
   . rename_i n h o g;cases ag;obtain ⟨k,m⟩:=Kq e h g
     grind
   grind
theorem OD (t f):oE E t f=AW E (n E t) (bN E t) t f:=by
 cases ag:n E t with
 |none=>rfl
 | some i=>
   obtain ⟨I,B,r⟩:=i
   cases r with
   | st l=>
     cases x:bN E t with
     |none=>rfl
     | some K =>
       obtain ⟨d,C,p,D,e⟩:=po ag;simp only at e;unfold oY at e;rw [p] at e
       cases d with
       | struct j =>
         simp only at e
         cases q:mW E j.toList with
         |none=>grind
         | some H =>
           rw [q] at e;cases e;obtain ⟨u,v⟩:=Kq E j.toList l q;unfold oE;simp only [p,x,AW,u,if_true]
           have G : ∀(f:List (Nat×aa)) (g:List aa),(match hn (λi=>match j[i]? with
             | some o=>match bZ E o.type with
               |some k=>some (o.offset,k)
               |none=>none
             |none=>none) g f with
            |some g=>some (aa.agg g)
            |none=>none)=pS l g f:=by
            intro f
            induction f with
            |nil=>intro g;rfl
            | cons z f F=>
              intro g;obtain ⟨i,m⟩:=z;have h:=v i;rw [CN] at h;unfold hn pS;simp only [h]
              cases l[i]? with
              |none=>rfl
              | some A=>
                obtain ⟨y,k⟩:=A;simp only;by_cases w:m.cells.length=k/\m.cells.all J=true
                . simp only [if_pos w]
                  cases cB g y m.cells with
                  |none=>rfl
                  |some c=>simp_all
                grind
           grind
       | slice s=>
         simp only at e;rcases sb E s with h|⟨r,b,h⟩<;>rw [h] at e<;>cases e
       |_=>cases e
   |_=>rfl
theorem OC (c9 cK o5 z t gm):AW E (some ⟨c9,cK,.st o5⟩) (some z) t gm=pS o5 z.cells gm:=rfl
theorem RJ (o5 cs):pS o5 cs []=some (.agg cs):=rfl
theorem RI (o5 cs i v gm):pS o5 cs ((i,v)::gm)=match o5[i]? with
 |some e=>if v.cells.length=e.2/\v.cells.all J=true then (match cB cs e.1 v.cells with
  |some c=>pS o5 c gm
  |none=>none) else none
 |none=>none:=rfl
theorem abL (cs off a b l):cB cs off (a::b::l)=if off+(l.length+2)<=cs.length then some (cs.take off++(a::b::l++cs.drop (off+(l.length+2)))) else none:=rfl
attribute [go_sem] OD OC RJ RI abL
end
section
variable (E:Env) (t a b c d:Nat)
theorem aaB:b4 E .eql t (.str a b) (.str c d)=some (.bool (a==c&&b==d)):=by simp [b4,mn]
theorem aaF:b4 E .neq t (.str a b) (.str c d)=some (.bool (!(a==c&&b==d))):=by simp [b4,mn]
theorem aaE:b4 E .lss t (.str a b) (.str c d)=some (.bool (js a b c d)):=by simp [b4,mn]
theorem aaC:b4 E .geq t (.str a b) (.str c d)=some (.bool (!(js a b c d))):=by simp [b4,mn]
theorem aaA (ag:a+c<=ht):b4 E .add t (.str a b) (.str c d)=some (.str (a+c) (b+d<<<(8*a))):=by simp [b4,mn,ag]
attribute [go_sem] aaB aaF aaE aaC aaA
end
theorem PV (a b):(aa.str a b).cells= [.str a b]:=rfl
theorem PT:(aa.dz).cells= [.dz]:=rfl
theorem PO (a b):(aa.b5 a b).cells= [.b5 a b]:=rfl
theorem PN (a b):(aa.ck a b).cells= [.ck a b]:=rfl
theorem PR (a b):(aa.iface a b).cells= [.iface a b]:=rfl
theorem Xr:J .dz=true:=rfl
theorem Xl (a b):J (.b5 a b)=true:=rfl
theorem Xj (a b):J (.ck a b)=true:=rfl
theorem Xm (a b):J (.iface a b)=true:=rfl
attribute [go_sem] PV PT PO PN PR Xr Xl Xj Xm
def T (l m:Nat):Prop:=m<256^l
def T.zero {l m:Nat} (ag:T l m) (e:l=0):m=0:=by subst e;unfold T at ag;omega
def Yr (l:Nat):256^l=2^(8*l):=by rw [show (256:Nat)=2^8 from rfl,<-vW]
def T.mod (ag m:Nat):T ag (m%2^(8*ag)):=by
 unfold T;rw [Yr];omega
section
variable {el k:Nat} {H:af} {rows:Y} {c:Nat}
theorem k3 (k:Nat): ∀(rows:Y),(∀r∈rows,r.length=k)->chunk k rows.length rows.flatten=rows
 | [],_=>rfl
 |r::l,d=>by have a:=d r (dF ..);simp only [cl,chunk,iJ];rw [vT ab,<-a,bX,vN,a,k3 k l ah]
theorem jP (k:Nat): ∀(rows:Y),(∀r∈rows,r.length=k)->rows.flatten.length=rows.length*k
 | [],_=>by simp
 |r::l,a=>by rw [iJ,bD,jP k l ah,a r (dF ..),cl,ql];omega
end
def ME (el c:Nat) (a:c<1048576):ev (q el+c)=el+1:=by
 unfold ev q;omega
def aa4 (el c:Nat) (a:c+1<1048576):m_ (q el+c) el=true:=by
 unfold m_;rw [rJ,ME el (c+1) a,ME el c ab];simp
def dR {k:Nat} {H:af} {x:aa} {rows:Y} (a:F x rows) (d: ∀r∈rows,r.length=k):e4 k H x=some (rows.flatten,rows.length):=by
 rcases a with ⟨rfl,rfl⟩|⟨c,rfl⟩
 . rfl
 . show (if rows.all (λr=>r.length==k) then _ else _)=_
   grind
def Rows (k:Nat) (rows:Y):Prop:= ∀a∈rows,a.length=k/\ ∀d∈a,J d=true/\D 20 d=true
def Rows.len {k rows} (a:Rows k rows): ∀r∈rows,r.length=k:=λr d=>(a r d).1
def Rows.ok {k rows} (d:Rows k rows):rows.flatten.all J=true:=ba.2 λg a=>by
 obtain ⟨f,e,a⟩:=kD.1 a;exact ((d f e).2 g a).1
def Rows.aI {k rows} (d:Rows k rows): ∀v∈rows.flatten,D 20 v=true:=λv a=>by
 obtain ⟨f,e,a⟩:=kD.1 a;exact ((d f e).2 v a).2
def Rows.app {k a b} (e:Rows k a) (g:Rows k b):Rows k (a++b):=λd f=>(cr.1 f).elim (e d) (g d)
def Rows.tidy {k rows} (e:Rows k rows) (n g d ro:Nat):gL n (.cells g d ro rows.flatten)=true:=
 ba.2 λa f=>fR n 20 20 a ab (e.aI a f)
section
variable {E:Env} {t el k b c:Nat} {i:TypeInfo} {H:af} {rows aQ:Y} {x:aa}
theorem o9 (n:Nat) (id a off k len:Nat) (e:Bool) (H:af) {d ro:Nat} {cs c:List aa} (h:H.get id=some (.cells a d ro cs)) (f:d<=a) (j:0<k) (l:sub cs off (len*k)=some c)
  (g: ∀v∈c,aZ n v (H.set id (.cells a d (ll ro (off+len*k)) cs))=some (v,H.set id (.cells a d (ll ro (off+len*k)) cs))):
  aZ (n+1) (.ref id a off k len e) H=some (.A (chunk k len c) e,H.set id (.cells a d (ll ro (off+len*k)) cs)):=by
 simp only [aZ,h,l,c1,c8,rf];rw [if_pos ⟨f,j⟩,wg _ _ g]
end
def e.b {b a:Bool} {H H':af} (g:Z H) (f:U H H') (d:b=a):e (.bool b) H (.ret (.bool a) H'):=by
 subst d;exact e.mk rfl g f
def ak (S N:aa->Prop) (H:af) (r:cY):Prop:=(∃d,S d/\e d H r)\/(∃d,N d/\q3 d H r)
def bQ (_:aa):Prop:=False
def j9 (p:Prop) (v:aa):Prop:= ∃b,v= .bool b/\(b=true->p)
section
variable {S N:aa->Prop} {H:af}
theorem ak.mk {v:aa} {H':af} (g:S v) (d:D 20 v=true) (h:Z H) (f:U H H'):ak S N H (.ret v H'):= .inl ⟨v,g,e.mk d h f⟩
theorem ak.aK {v:aa} {H':af} (f:N v) (d:D 20 v=true) (g:Z H) (e:U H H'):ak S N H (.aK v H'):= .inr ⟨v,f,q3.mk d g e⟩
theorem ak.aE {E rs b x y f w} (d:b=true->ak S N H (fin E rs (x ()))) (e:b=false->ak S N H (fin E rs (y ()))):ak S N H (fin E rs (eH b x y f w)):=by
 cases b with
 |true=>exact d rfl
 |false=>exact e rfl
end
section
variable (E:Env) (R:bU)
def aL (f:Nat) (args:List aa) (S N:aa->Prop):Prop:=bo λad e=> ∀H,Z H->
 (∃d,S d/\ ∀tm,az E (X E R ad e) f args H tm= .ok d tm H)\/(∃d,N d/\ ∀tm,az E (X E R ad e) f args H tm= .aK d H)
variable {E} {R}
theorem aL.run {f m:Nat} {args:List aa} {S N:aa->Prop} {fn:Func} {c:Code} {rs:List ResultVar} (r:E.cL f=none) (p:E.fns f=some fn) (o:fn.body=some c) (s:fn.results=rs.toArray) (q:fn.ntmps=args.length+m)
  (l:args.all aD=true) (t:E.pure f=false) (x:E.bS f=false) (k:Nat)
  (d: ∀ad n,k<=ad->k<=n-> ∀H,Z H->ak S N H (fin E rs (evalCode E (X E R ad n) R ad f c (args++List.replicate m (.av [])) H []))):aL E R f args S N:=by
 refine ⟨k+1,λad n A B H w=> ?_⟩;obtain ⟨n,rfl⟩: ∃y,n=y+1:=⟨n-1,ab⟩;rcases d ad n ab ab H w with ⟨j,i,z,u,v,e,g,h⟩|⟨j,i,z,u,v,e,g,h⟩
 . refine .inl ⟨j,i,λtm=> ?_⟩;rw [jL E _ f args H tm t l,lN E R ad n f m args H fn c r p o q,mA _ _ _ rs s _ (by rw [e];exact λd=>by cases d),e];simp only [hV,x,g,h];rfl
 . refine .inr ⟨j,i,λtm=> ?_⟩;rw [jL E _ f args H tm t l,lN E R ad n f m args H fn c r p o q,mA _ _ _ rs s _ (by rw [e];exact λd=>by cases d),e];simp only [hV,g,h]
theorem aL.at {f m ad n:Nat} {args:List aa} {S N:aa->Prop} {fn:Func} {c:Code} {rs:List ResultVar} {H:af} (p:E.cL f=none) (l:E.fns f=some fn) (k:fn.body=some c) (q:fn.results=rs.toArray) (o:fn.ntmps=args.length+m)
  (j:args.all aD=true) (r:E.pure f=false) (u:E.bS f=false)
  (d:ak S N H (fin E rs (evalCode E (X E R ad n) R ad f c (args++List.replicate m (.av [])) H []))):
  (∃v,S v/\ ∀tm,az E (X E R ad (n+1)) f args H tm= .ok v tm H)\/(∃v,N v/\ ∀tm,az E (X E R ad (n+1)) f args H tm= .aK v H):=by
 rcases d with ⟨v,i,w,s,t,e,g,h⟩|⟨v,i,w,s,t,e,g,h⟩
 . refine .inl ⟨v,i,λtm=> ?_⟩;rw [jL E _ f args H tm r j,lN E R ad n f m args H fn c p l k o,mA _ _ _ rs q _ (by rw [e];exact λd=>by cases d),e];simp only [hV,u,g,h];rfl
 . refine .inr ⟨v,i,λtm=> ?_⟩;rw [jL E _ f args H tm r j,lN E R ad n f m args H fn c p l k o,mA _ _ _ rs q _ (by rw [e];exact λd=>by cases d),e];simp only [hV,g,h]
theorem aL.mono {f args S N h g} (d:aL E R f args S N) (l: ∀v,S v->h v) (hN: ∀v,N v->g v):aL E R f args h g:=by
 obtain ⟨m,d⟩:=d;refine ⟨m,λad n i j H k=> ?_⟩;rcases d ad n i j H k with ⟨v,e,d⟩|⟨v,e,d⟩
 . exact .inl ⟨v,l v e,d⟩
 . exact .inr ⟨v,hN v e,d⟩
theorem aL.eq {f args} {v:aa} (d:aL E R f args (λx=>x=v) bQ):C E R f args v:=by
 obtain ⟨k,d⟩:=d;refine ⟨k,λad l e g H tm i=> ?_⟩;rcases d ad l e g H i with ⟨m,rfl,h⟩|⟨m,j,-⟩
 . exact h tm
 . exact j.elim
theorem aL.all {α:Type} {l:List α} {f:Nat} {g:α->List aa} {S N:α->aa->Prop} (e: ∀x∈l,aL E R f (g x) (S x) (N x)):
  bo λad n=> ∀x∈l,∀H,Z H->(∃v,S x v/\ ∀tm,az E (X E R ad n) f (g x) H tm= .ok v tm H)\/(∃v,N x v/\ ∀tm,az E (X E R ad n) f (g x) H tm= .aK v H):=by
 induction l with
 |nil=>exact ⟨0,λ_ _ _ _ x d=>by cases d⟩
 | cons a l j=>
   obtain ⟨k,h⟩:=e a (dF ..);obtain ⟨m,i⟩:=j λx d=>e x (h8 _ d);refine ⟨k+m,λad n o p x d=> ?_⟩;rcases b2.1 d with rfl|d
   . exact h ad n ab ab
   . exact i ad n ab ab x d
end
def dD (M:List aa->af->Prop) (_:Tok M) (r:bP):Prop:= ∃tm H,r= .normal tm H []/\M tm H
def dD.mk {M:List aa->af->Prop} {e tm H} (d:M tm H):dD M e (.normal tm H []):=⟨tm,H,rfl,d⟩
theorem dD.aE {M:List aa->af->Prop} {d b x y g w} (e:b=true->dD M d (x ())) (f:b=false->dD M d (y ())):dD M d (eH b x y g w):=by
 cases b with
 |true=>exact e rfl
 |false=>exact f rfl
def ak.cut {S N:aa->Prop} {H:af} {E rs r K g} (M:List aa->af->Prop) (d:dD M ⟨⟩ r) (e: ∀tm H',M tm H'->ak S N H (fin E rs (K tm H' []))):ak S N H (fin E rs (l3 r K g)):=by
 obtain ⟨tm,H',rfl,f⟩:=d;exact e tm H' f
section
variable {S N:aa->Prop} {a7:af} {E:Env} {rs:List ResultVar} {cf:cb} {bk:bU} {ad fid:Nat} {a b c:Code} {tm:List aa} {H:af}
theorem ak.seq (M:List aa->af->Prop) (d:dD M ⟨⟩ (evalCode E cf bk ad fid a tm H [])) (e: ∀tm H',M tm H'->ak S N a7 (fin E rs (evalCode E cf bk ad fid b tm H' []))):ak S N a7 (fin E rs (evalCode E cf bk ad fid (.seq a b) tm H [])):=by rw [nC];exact ak.cut M d e
end
def F.vJ {x:aa} {rows:Y} (a:F x rows) {k:Nat} {r:List aa} (b:rows[0]? =some r) (c:r.length=k):kA k x (.int .i64 0)=some (.b5 r 0):=a.a_ (j:=0) b c
theorem F.aI {x:aa} {rows:Y} (a:F x rows) (d:Nat):D (d+1) x=true:=by rcases a with ⟨rfl,rfl⟩|⟨b,rfl⟩<;>rfl
def yg (H:af) (a b:Obj):((H.push a).push b).get H.n=some a:=by
 rw [pW _ _ _ (by simp [lq]),dL]
def vo (H:af) (a b:Obj):((H.push a).push b).get (H.n+1)=some b:=dL (H.push a) b
def ft {n0:Nat} {v:aa} {H:af} (a:H.n<=n0):gc n0 v H=H:=by
 unfold gc
 simp_all
def df (Q:aa->af->Prop) (n0:Nat) (r:cY):Prop:= ∃a b,r= .ret a b/\D 20 a=true/\Q a (gc n0 a b)
section
variable {E:Env} {R:bU} {Q:aa->af->Prop} {n0:Nat} {rs:List ResultVar}
theorem df.aE {b x y d w} (a:b=true->df Q n0 (fin E rs (x ()))) (c:b=false->df Q n0 (fin E rs (y ()))):df Q n0 (fin E rs (eH b x y d w)):=by
 cases b with
 |true=>exact a rfl
 |false=>exact c rfl
theorem df.mk {v:aa} {H':af} (b:D 20 v=true) (a:Q v (gc n0 v H')):df Q n0 (.ret v H'):=⟨v,H',rfl,b,a⟩
theorem df.seq {cf:cb} {c:bU} {ad fid:Nat} {a b:Code} {tm:List aa} {H:af} (M:List aa->af->Prop) (e:dD M ⟨⟩ (evalCode E cf c ad fid a tm H []))
  (f: ∀tm H',M tm H'->df Q n0 (fin E rs (evalCode E cf c ad fid b tm H' []))):df Q n0 (fin E rs (evalCode E cf c ad fid (.seq a b) tm H [])):=by
 obtain ⟨h,H',d,g⟩:=e;rw [nC,d];exact f h H' g
def qX (E:Env) (R:bU) (f:Nat) {ι:Type} (args:ι->List aa) (H:ι->af) (P:ι->Prop) (Q:ι->aa->af->Prop):Prop:=
 bo λe g=> ∀a,P a-> ∃d b,Q a d b/\ ∀c,az E (X E R e g) f (args a) (H a) c= .ok d c b
theorem qX.run {f m:Nat} {ι:Type} {args:ι->List aa} {H:ι->af} {P:ι->Prop} {Q:ι->aa->af->Prop} {fn:Func} {c:Code} {rs:List ResultVar} (r:E.cL f=none) (l:E.fns f=some fn) (j:fn.body=some c) (s:fn.results=rs.toArray)
  (q: ∀i,fn.ntmps=(args i).length+m) (h: ∀i,(args i).all aD=true) (t:E.pure f=false) (p:E.bS f=false) (k:Nat)
  (d: ∀ad n,k<=ad->k<=n-> ∀i,P i->df (Q i) (H i).n (fin E rs (evalCode E (X E R ad n) R ad f c (args i++List.replicate m (.av [])) (H i) []))):qX E R f args H P Q:=by
 refine ⟨k+1,λad n x y i o=> ?_⟩;obtain ⟨n,rfl⟩: ∃v,n=v+1:=⟨n-1,ab⟩;obtain ⟨a,b,e,u,g⟩:=d ad n ab ab i o;refine ⟨a,_,g,λw=> ?_⟩;rw [jL E _ f (args i) (H i) w t (h i),lN E R ad n f m (args i) (H i) fn c r l j (q i),mA _ _ _ rs s _ ah,e];simp only [hV,p,fi b _ a (fr 20 bR a al u)];rfl
theorem qX.all {α:Type} {l:List α} {f:Nat} {ι:Type} {args:α->ι->List aa} {H:α->ι->af} {P:α->ι->Prop} {Q:α->ι->aa->af->Prop} (b: ∀x∈l,qX E R f (args x) (H x) (P x) (Q x)):
  bo λad n=> ∀x∈l,∀i,P x i-> ∃v H',Q x i v H'/\ ∀tm,az E (X E R ad n) f (args x i) (H x i) tm= .ok v tm H':=by
 induction l with
 |nil=>exact ⟨0,ai⟩
 | cons c l g=>
   obtain ⟨h,d⟩:=b c (dF ..);obtain ⟨j,e⟩:=g λx a=>b x (h8 _ a);refine ⟨h+j,λad n k m x a=> ?_⟩;rcases b2.1 a with rfl|a
   . exact d ad n ab ab
   . exact e ad n ab ab x a
end
def C.cL {E:Env} {R:bU} {f:Nat} {args:List aa} {v:aa} {p:List aa->af->cY} (e:E.cL f=some p) (g:E.pure f=false) (d:args.all aD=true) (h:D 20 v=true) (c: ∀H,p args H= .ret v H):C E R f args v:=by
 refine ⟨1,λi a _ m H k l=> ?_⟩;obtain ⟨a,rfl⟩: ∃j,a=j+1:=⟨a-1,ab⟩;rw [jL E _ f args H k g d];have b:X E R i (a+1) f args H= .ret v H:=by simp only [X,nE,e,c]
 rw [b];simp only [hV,fi H _ v (fr 20 bR v al h),ft (aT _)];simp
def c2 (eq:aa->Bool):List aa->List aa->Nat->Option (Nat×aa)
 |b::ks,c::vs,a=>if eq b then some (a,c) else c2 eq ks vs (a+1)
 |_,_,_=>none
section
variable (E:Env)
theorem BP {d c:Nat} {k:aa} {eq:aa->Bool}: ∀(ks vs:List aa) (i:Nat),(∀a∈ks,eF E d c k a=some (eq a))->ks.length=vs.length->ji E d c k ks vs i=some (c2 eq ks vs i)
 | [],[],_,_,_=>rfl
 | [],_::_,_,_,b=>by cases b
 |_::_,[],_,_,b=>by cases b
 | a::ks,f::vs,i,b,e=>by
   rw [ji,b a (dF ..)];simp only [c2]
   cases eq a with
   |true=>rfl
   |false=>exact BP ks vs (i+1) ah ah
def jX (ok:Bool) (z:aa) (o:Option (Nat×aa)):aa:=match o with
 |some a=>if ok then .av [a.2,.bool true] else a.2
 |none=>if ok then .av [z,.bool false] else z
theorem J2 {b:Nat} {k z:aa} {ok:Bool} {ks vs:List aa} {eq:aa->Bool} (d:hr E 20 b k=true) (c: ∀a∈ks,eF E 20 b k a=some (eq a)) (e:ks.length=vs.length):
  zf E b k z ok ks vs=some (jX ok z (c2 eq ks vs 0)):=by
 unfold zf;rw [d,BP E ks vs 0 c e]
 cases f:c2 eq ks vs 0 with
 |none=>cases ok<;>simp [jX]
 |some g=>cases ok<;>simp [jX]
def cU (a b:Nat):aa->Bool
 | .str c d=>a==c&&b==d
 |_=>false
def mg (ks:List aa):Prop:= ∀c∈ks,∃a b,c= .str a b
theorem DF {c:Nat} (e:aW E c=some .string) (d a b:Nat):hr E (d+1) c (.str a b)=true:=by simp [hr,e]
theorem Hk {f:Nat} (g:aW E f=some .string) (d a b c e:Nat):eF E (d+1) f (.str a b) (.str c e)=some (a==c&&b==e):=by simp [eF,g]
theorem Hl {c:Nat} (f:aW E c=some .string) (a b:Nat) {ks:List aa} (h:mg ks): ∀k∈ks,eF E 20 c (.str a b) k=some (cU a b k):=λk g=>by obtain ⟨d,e,rfl⟩:=h k g;exact Hk E f 19 a b d e
theorem qO {t h cK c el} (f:n E t=some ⟨h,cK,.mp c el⟩):aW E t=some (.map c el):=by
 obtain ⟨e,k,g,l,a⟩:=po f;simp only at a;unfold oY at a;rw [g] at a
 cases e with
 |map i d=>grind
 | slice el=>
   simp only at a;rcases sb E el with b|⟨m,d,b⟩<;>rw [b] at a<;>cases a
 | struct j=>
   grind
 |_=>cases a
theorem tP {t k cK d el:Nat} {j:Bool} {m z:aa} {a b:Nat} {ok:Bool} {H:af} {ks vs:List aa} (h:n E t=some ⟨k,j,.mp d el⟩) (c:aW E d=some .string) (f:mapOf H m=some (ks,vs)) (i:bN E el=some z)
  (g:mg ks) (e:ks.length=vs.length):iM E t m (.str a b) ok H=some (jX ok z (c2 (cU a b) ks vs 0)):=by
 unfold iM;rw [qO E h];simp only [f,i];exact J2 E (DF E c 19 a b) (Hl E c a b g) e
end
def Wm (H:af) (ks vs):mapOf (H.push (.map false ks vs)) (.map H.n)=some (ks,vs):=by
 simp [mapOf,dL]
@[go_sem ↓] theorem adA (E cf fid) (ops:Array Oper) (dst op ty pos after g os) (a:bV) (as tm H ds):
 iE E cf fid ops (⟨dst,op,ty,pos,after,some g⟩::os) (a::as) tm H ds=nf (cJ ops tm ⟨dst,op,ty,pos,after,some g⟩)
  (λ_=>eH (cZ E ⟨dst,op,ty,pos,after,some g⟩ a tm) (λ_=>qu E fid dst (evalOp E cf fid ⟨dst,op,ty,pos,after,some g⟩ tm H) (λtm H=>iE E cf fid ops os as tm H ds) ⟨⟩) (λ_=> .fail) ⟨⟩ ⟨⟩)
  (λ_=>jy E fid dst (.av []) tm (λtm=>iE E cf fid ops os as tm H ds) ⟨⟩) ⟨⟩ ⟨⟩:=G7 E cf fid ops _ os a as tm H ds
@[reducible] def TM:Op->Bool
 | .load _ _=>true
 | .store _ _ _=>true
 |_=>false
@[go_sem ↓] theorem adm (E dst op ty pos after g tm) (ag:TM op=false):cZ E ⟨dst,op,ty,pos,after,g⟩ .heap tm=true:=by cases op<;>first|rfl|cases ag
@[go_sem] theorem af1 (a b c d tm H):j1 (.ptr a b c d) tm H= .ok (.ptr a b c d) tm H:=by simp [j1,bb]
@[go_sem] theorem af0 (a b tm H):j1 (.b5 a b) tm H= .ok (.b5 a b) tm H:=by simp [j1,bb]
section
variable (E:Env) (R:bU)
variable {E} {R}
theorem aL.val {f args} {S:aa->Prop} (ag:aL E R f args S bQ):bo λad n=> ∀H,Z H-> ∃v,S v/\ ∀tm,az E (X E R ad n) f args H tm= .ok v tm H:=by
 obtain ⟨k,ag⟩:=ag;refine ⟨k,λad n a d H e=> ?_⟩;rcases ag ad n a d H e with ⟨v,h,g⟩|⟨v,ag,-⟩
 . grind
 . exact ag.elim
theorem aL.j8 {α:Type} {l:List α} {f:Nat} {g:α->List aa} {S:α->aa->Prop} (ag: ∀x∈l,aL E R f (g x) (S x) bQ):
  bo λad n=> ∀x∈l,∀H,Z H-> ∃v,S x v/\ ∀tm,az E (X E R ad n) f (g x) H tm= .ok v tm H:=by
 obtain ⟨k,ag⟩:=aL.all ag;refine ⟨k,λad n a d x h H e=> ?_⟩;rcases ag ad n a d x h H e with ⟨v,m,j⟩|⟨v,ag,-⟩
 . grind
 . exact ag.elim
end
def HI (k:Nat): ∀(rows:Y) (j:Nat) (r:List aa),(∀r∈rows,r.length=k)->rows[j]? =some r->(rows.flatten.drop (j*k)).take k=r
 | [],_,_,_,ag=>by grind
 |a::l,0,r,d,ag=>by grind
 |a::l,j+1,r,d,ag=>by have g:=d a (dF ..);have f:=HI k l j r ah ah;have e:(j+1)*k=a.length+j*k:=ah;rw [iJ,e,<-qi,vN];exact f
def cG (H:af) (k:Nat) (x:aa) (rows:Y):Prop:=F x rows\/ ∃id f e j a d g h,x= .ref id f d k rows.length g/\H.get id=some (.cells h e j a)/\e<=f/\
 (a.drop d).take (rows.length*k)=rows.flatten/\d+rows.length*k<=a.length
section
variable {H:af} {k:Nat} {x:aa} {rows:Y} (ag:cG H k x rows)
include ag
theorem cG.len:iL x=some (.int .i64 rows.length):=by
 rcases ag with ag|⟨id,f,e,j,d,h,a,g,rfl,-⟩
 . exact ag.len
 . rfl
theorem cG.O (t:Nat):O t x=x:=by
 rcases ag with ag|⟨id,f,e,j,d,h,a,g,rfl,-⟩
 . exact ag.O t
 . rfl
theorem cG.aD:aD x=true:=by
 rcases ag with ag|⟨id,f,e,j,d,h,a,g,rfl,-⟩
 . exact ag.aD
 . rfl
theorem cG.elems (g: ∀r∈rows,r.length=k):e4 k H x=some (rows.flatten,rows.length):=by
 rcases ag with ag|⟨id,m,l,p,j,o,h,n,rfl,e,d,a,f⟩
 . exact dR ag g
 . simp only [e4,e];rw [if_pos ⟨d,trivial⟩];simp only [sub,if_pos f,a]
theorem cG.at (h: ∀r∈rows,r.length=k) {j:Nat} {r:List aa} (a:rows[j]? =some r): ∃p,kA k x (.int .i64 (j:Nat))=some p/\(∀t,Go.aj.O t p=p)/\(∀tm,jY k true (gq tm H p)=some (.agg r))/\
  (∀v,r= [v]-> ∀tm,jY 1 false (gq tm H p)=some v):=by
 have u:=h r (aV a);rcases ag with ag|⟨id,n,z,D,l,e,y,A,rfl,g,f,o,C⟩
 . refine ⟨.b5 r 0,ag.a_ a u,λ_=>rfl,λtm=> ?_,λv d tm=> ?_⟩
   . rw [Zo,JX,if_pos ab,if_pos ab]
     grind
   . subst d;rfl
 . have q:j<rows.length:=by grind
   have B:j*k+k<=rows.length*k:=by rw [<-ql];exact fU k q
   have m:(l.drop (e+j*k)).take k=r:=by rw [<-HI k rows j r h a,<-o,List.drop_take,qi,List.take_take,Nat.min_eq_left ab]
   refine ⟨.ptr id n (e+j*k) (e+j*k+k),?_,λ_=>rfl,λtm=> ?_,λv d tm=> ?_⟩
   . show (if k=k/\j<rows.length then _ else _)=_
     grind
   . simp only [Lp,g,Lr,if_pos f,JX]
     grind
   . subst d;have s:k=1:=ah;subst s;simp only [Lp,g,Lr,if_pos f,Wd,aT,if_true];have:=congrArg (λw=>w[0]?) m
     grind
end
def U.n {a H:af} (ag:U a H):a.n<=H.n:=by obtain ⟨d,rfl⟩:=ag;simp
def U.get {a H:af} (ag:U a H) (e:a.l.length=a.n) {id:Nat} {o:Obj} (d:a.get id=some o):H.get id=some o:=by
 obtain ⟨l,rfl⟩:=ag;have f:=gW d;unfold af.get at d|-
 grind
def cG.up {H H':af} {k x rows} (ag:cG H k x rows) (o:H.l.length=H.n) (p:U H H'):cG H' k x rows:=by
 rcases ag with ag|⟨id,f,e,r,d,q,a,g,h,j,m⟩
 . exact .inl ag
 . exact .inr ⟨id,f,e,r,d,q,a,g,h,p.get o j,m⟩
def CI {k:Nat} {x i p:aa} (ag:kA k x i=some p):fh p=true:=by
 unfold kA at ag;split at ag
 . split at ag
   . split at ag
     . cases ag;rfl
     grind
   grind
 . split at ag
   . cases ag;rfl
   grind
 grind
def F.cw {H k x rows} (ag:F x rows):cG H k x rows:= .inl ag
def cW:aa->Option Nat
 | .ref id _ _ _ _ _=>some id
 |_=>none
def bd (n0 el k c:Nat) (H:af) (rows:Y) (v:aa):Prop:=(v= .V/\rows= [])\/v= .A rows true\/
 ∃id a d,v= .ref id a 0 k rows.length false/\n0<=id/\H.get id=some (.cells a d 0 rows.flatten)/\d<=a/\a<=a/1048576*1048576+c/\(a/1048576=0\/a/1048576=el+1)
def bd.nil {n0 el k c H}:bd n0 el k c H [] .V:= .inl ⟨rfl,rfl⟩
def bd.cw {n0 el k c H rows v} (ag:bd n0 el k c H rows v) (g: ∀r∈rows,r.length=k):cG H k v rows:=by
 rcases ag with ⟨rfl,rfl⟩|rfl|⟨id,a,d,rfl,-,f,e,-⟩
 . exact .inl (.inl ⟨rfl,rfl⟩)
 . exact .inl (.inr ⟨true,rfl⟩)
 . have:=jP k rows g;exact .inr ⟨id,a,d,0,_,0,false,a,rfl,f,e,by rw [rF,<-this,bX],ab⟩
theorem bd.O {n0 el k c H rows v} (ag:bd n0 el k c H rows v) (t:Nat):O t v=v:=by rcases ag with ⟨rfl,-⟩|rfl|⟨id,d,a,rfl,-⟩<;>rfl
theorem bd.aD {n0 el k c H rows v} (ag:bd n0 el k c H rows v):aD v=true:=by rcases ag with ⟨rfl,-⟩|rfl|⟨id,d,a,rfl,-⟩<;>rfl
theorem bd.len {n0 el k c H rows v} (ag:bd n0 el k c H rows v):iL v=some (.int .i64 rows.length):=by rcases ag with ⟨rfl,rfl⟩|rfl|⟨id,d,a,rfl,-⟩<;>rfl
def bd.mono {n0 d el k c a H rows v} (ag:bd n0 el k c H rows v) (p:d<=n0) (o:c<=a):bd d el k a H rows v:=by
 rcases ag with ag|ag|⟨id,f,e,g,m,h,j,n,l⟩
 . exact .inl ag
 . exact .inr (.inl ag)
 . exact .inr (.inr ⟨id,f,e,g,ab,h,j,ab,l⟩)
def bd.at {n0 el k c H H' rows v} (ag:bd n0 el k c H rows v) (h: ∀id o,cW v=some id->H.get id=some o->H'.get id=some o):bd n0 el k c H' rows v:=by
 rcases ag with ag|ag|⟨id,d,a,rfl,e,f,g⟩
 . exact .inl ag
 . exact .inr (.inl ag)
 . exact .inr (.inr ⟨id,d,a,rfl,e,h id _ rfl f,g⟩)
def zP {β:Type}: ∀(l:List β) (i:Nat) (x:β),(dM l i x).length=l.length
 | [],_,_=>rfl
 |_::_,0,_=>rfl
 |_::l,i+1,x=>by simp [dM,zP l i x]
def LZ {β:Type}: ∀(a b:List β) (i:Nat) (x:β),i<a.length->dM (a++b) i x=dM a i x++b
 | [],_,_,_,ag=>by cases ag
 |_::_,_,0,_,_=>rfl
 |d::a,b,i+1,x,ag=>by simp [dM,LZ a b i x ah]
def U.set {a H:af} (ag:U a H) {id:Nat} (f:a.n<=id) (o:Obj):U a (H.set id o):=by
 obtain ⟨d,rfl⟩:=ag;unfold af.set;split
 . rename_i e;simp only at e;refine ⟨dM d (a.n+d.length-1-id) o,?_⟩;simp only [zP];rw [LZ _ _ _ _ ab]
 . exact ⟨d,rfl⟩
def Z.set {H:af} (ag:Z H) {o:Obj} (id:Nat) (e:gL H.n o=true):Z (H.set id o):=by
 unfold af.set;split
 . refine ⟨by simp only [zP];exact ag.1,λx d=> ?_⟩;obtain ⟨f,a⟩:=jo d;simp only at a;rw [EW] at a;split at a
   . grind
   . exact ag.2 x ah
 omega
structure iX (n0:Nat) (v Aj:aa) (H H':af):Prop where
  tidy:Z H'
  up: ∀mc,mc.n<=n0->U mc H->U mc H'
  n:H.n<=H'.n
  other: ∀id o,H.get id=some o->cW v≠some id->H'.get id=some o
  new: ∀id,cW Aj=some id->cW v=some id\/H.n<=id
section
variable {E:Env} {t el k b c n0:Nat} {i:TypeInfo} {H:af} {rows aQ:Y} {x v:aa}
theorem bd.uS (G:aW E t=some (.slice el)) (hT:E.T el=some i) (F:i.size=k) (y:i.bytes=b) (P:0<k) (N:b<=4096) (ag:bd n0 el k c H rows v) (h:Z H) (r:n0<=H.n) (f:Rows k rows)
  (I:e4 k H x=some (aQ.flatten,aQ.length)) (g:Rows k aQ) (hN:(rows.length+aQ.length)*(b+1)<=b7) (z:c+aQ.length<1048576):
  ∃o H',cI E t t v x H=some (o,H')/\bd n0 el k (c+aQ.length) H' (rows++aQ) o/\iX n0 v o H H'/\cG H' k v rows:=by
 have w:hx E el k (.slice el) x H=some (aQ.flatten,aQ.length):=I;unfold cI;simp only [G,hT,F,y,w];rw [if_pos ab];have M: ∀m,gL m (.cells 0 0 0 (rows++aQ).flatten)=true:=λm=>(f.app g).tidy m 0 0 0
 cases aQ with
 | nil=>
   refine ⟨v,H,?_,ah,⟨h,ai,ai,ah,ah⟩,ag.cw f.len⟩;rcases ag with ⟨rfl,-⟩|rfl|⟨id,a,l,rfl,-⟩<;>rfl
 | cons e j=>
   simp only [cl] at z;simp only [cl,g.ok,if_true,bu,c1,dn,c8];rcases ag with ⟨rfl,rfl⟩|rfl|⟨id,a,l,rfl,C,B,A,O,S⟩
   . simp only;rw [if_pos (by simpa using hN)];refine ⟨_,_,rfl,.inr (.inr ⟨H.n,q el,q el,rfl,r,dL _ _,ai,?_,.inr ?_⟩),⟨h.push (g.tidy _ _ _ _),λp _ ag=>ag.push _,by simp [lq],λid u ag _=>by rw [pW _ _ _ (gW ag)];exact ag,λid ag=> .inr (by cases ag;omega)⟩,.inl (.inl ⟨rfl,rfl⟩)⟩
     . unfold q;omega
     . unfold q;omega
   . simp only;rw [if_pos ⟨ab,ba.2 λe ag=>by simp [f.len e ag]⟩];have d:rows.flatten++(e::j).flatten=(rows++e::j).flatten:=ai;refine ⟨_,_,rfl,.inr (.inr ⟨H.n,0,0,ai,r,by rw [dL,d],ai,ab,.inl rfl⟩),⟨h.push ah,λp _ ag=>ag.push _,by simp [lq],λid u ag _=>by rw [pW _ _ _ (gW ag)];exact ag,λid ag=> .inr (by cases ag;omega)⟩,.inl (.inr ⟨true,rfl⟩)⟩
   . have K:rows.flatten.length=rows.length*k:=jP k _ f.len;have Q:m_ a el=true:=by
      unfold m_ ev;have:(a+1)/1048576=a/1048576:=ab
      simp_all
     have d:rows.flatten++(e::j).flatten=(rows++e::j).flatten:=ai;simp only [B];rw [if_pos de];simp only [eJ,if_false];rw [if_pos ah];have s:(H.get id).isSome=true:=ah;refine ⟨_,_,rfl,.inr (.inr ⟨id,a+1,l,ai,C,by rw [nJ _ _ _ s,d],ab,ab,ab⟩),⟨h.set _ (by rw [d];exact (f.app g).tidy _ _ _ _),λp L ag=>ag.set ab _,by rw [mS];omega,
      λJ u ag D=>by rw [iG _ _ _ _ (λd=>D (by rw [d];rfl))];exact ag,λJ ag=> .inl ag⟩,.inr ⟨id,a,l,0,_,0,false,a+1,rfl,nJ _ _ _ s,A,ah,ah⟩⟩
theorem bd.app (p:aW E t=some (.slice el)) (hT:E.T el=some i) (h:i.size=k) (e:i.bytes=b) (j:0<k) (f:b<=4096) (ag:bd n0 el k c H rows v) (q:Z H) (l:n0<=H.n) (m:Rows k rows)
  (r:e4 k H x=some (aQ.flatten,aQ.length)) (o:Rows k aQ) (hN:(rows.length+aQ.length)*(b+1)<=b7) (g:c+aQ.length<1048576):
  ∃a H',cI E t t v x H=some (a,H')/\bd n0 el k (c+aQ.length) H' (rows++aQ) a/\iX n0 v a H H':=
 have ⟨a,H',d,b,c,_⟩:=ag.uS p hT h e j f q l m r o hN g
 ⟨a,H',d,b,c⟩
theorem bd.aZ (m:0<k) (d:Rows k rows) (ag:bd n0 el k c H rows v) {a:af} (r:a.n<=n0) (e:U a H): ∃w f,aZ bR v H=some (w,f)/\F w rows/\U a f:=by
 rcases ag with ⟨rfl,rfl⟩|rfl|⟨id,h,p,rfl,s,l,j,-⟩
 . exact ⟨_,H,rfl,.inl ⟨rfl,rfl⟩,e⟩
 . exact ⟨_,H,rfl,.inr ⟨true,rfl⟩,e⟩
 . have q:rows.flatten.length=rows.length*k:=jP k _ d.len;have g:sub rows.flatten 0 (rows.length*k)=some rows.flatten:=by
    unfold sub
    grind
   have:=o9 49 id h 0 k rows.length false H l j m g (λv o=>fi _ 49 v (fr 20 49 v al (d.aI v o)));rw [k3 k rows d.len] at this;exact ⟨_,_,this,.inr ⟨false,rfl⟩,e.set ab _⟩
theorem ak.W {S N:aa->Prop} {a:af} (l:0<k) (p:Z a) (m:Rows k rows) (ag:bd n0 el k c H rows v) (f:a.n<=n0) (o:U a H) (j: ∀w,F w rows->S w):ak S N a (.ret v H):=by obtain ⟨w,e,g,d,h⟩:=ag.aZ l m f o;refine .inl ⟨w,j w d,v,H,e,rfl,g,gV p h ?_⟩;rcases d with ⟨rfl,-⟩|⟨c,rfl⟩<;>rfl
end
def h3 (eq:aa->Bool) (k:aa) (ks vs:List aa):List aa:=match c2 eq ks vs 0 with
 |some _=>ks
 |none=>ks++ [k]
def h4 (eq:aa->Bool) (v:aa) (ks vs:List aa):List aa:=match c2 eq ks vs 0 with
 |some a=>dM vs a.1 v
 |none=>vs++ [v]
def L0 {β:Type}: ∀(l:List β) (i:Nat) (x:β),l[i]? =some x->dM l i x=l
 | [],_,_,ag=>by grind
 |a::l,0,x,ag=>by simp at ag;simp [dM,ag]
 |a::l,i+1,x,ag=>by simp [dM,L0 l i x ah]
def BS {eq:aa->Bool}: ∀ {ks vs:List aa} {i j:Nat} {v:aa},c2 eq ks vs i=some (j,v)-> ∃m,j=i+m/\(∃a,ks[m]? =some a/\a∈ks/\eq a=true)/\vs[m]? =some v
 | [],_,_,_,_,ag=>by simp [c2] at ag
 |_::_,[],_,_,_,ag=>by simp [c2] at ag
 | a::ks,l::vs,i,j,v,ag=>by
   simp only [c2] at ag;split at ag
   . simp_all
   . obtain ⟨m,rfl,⟨d,e,f,g⟩,h⟩:=BS ag;exact ⟨m+1,ab,ah,ah⟩
def M1 (E:Env) {t d el id:Nat} {k v:aa} {H:af} {ks vs:List aa} {eq:aa->Bool} (q:aW E t=some (.map d el)) (m:H.get id=some (.map false ks vs)) (n:hr E 20 d k=true) (j: ∀a∈ks,eF E 20 d k a=some (eq a))
    (p: ∀a∈ks,eq a=true->uk (some a) k=true/\a=k) (o:ks.length=vs.length):tS E t (.map id) k v H=some (H.set id (.map false (h3 eq k ks vs) (h4 eq v ks vs))):=by
 unfold tS;simp only [q,m];unfold Fg;rw [n,BP E ks vs 0 j o];unfold h3 h4
 cases l:c2 eq ks vs 0 with
 |none=>simp
 | some r=>
   obtain ⟨u,y⟩:=r;obtain ⟨w,rfl,⟨a,e,f,g⟩,s⟩:=BS l;obtain ⟨h,rfl⟩:=p a f g;simp only [gH,e,h,bu,c8,L0 _ _ _ e]
def Ai (E:Env) {t o f el id:Nat} {m:Bool} {a b:Nat} {v:aa} {H:af} {ks vs:List aa} (j:n E t=some ⟨o,m,.mp f el⟩) (d:aW E f=some .string) (g:H.get id=some (.map false ks vs)) (e:mg ks) (h:ks.length=vs.length):
    tS E t (.map id) (.str a b) v H=some (H.set id (.map false (h3 (cU a b) (.str a b) ks vs) (h4 (cU a b) v ks vs))):=by
 refine M1 E (qO E j) g (DF E d 19 a b) (Hl E d a b e) (λx l ag=> ?_) h;obtain ⟨c,p,rfl⟩:=e x l;simp only [cU,br,beq_iff_eq] at ag;obtain ⟨rfl,rfl⟩:=ag;exact ⟨by simp [uk,s0],rfl⟩
def CD {a b:Nat} {ks vs:List aa} (ag:mg ks):mg (h3 (cU a b) (.str a b) ks vs):=by
 unfold h3;split
 . exact ag
 . intro k d;rcases cr.1 d with d|d
   . exact ag k d
   grind
def CF {eq:aa->Bool} {k v:aa} {ks vs:List aa} (ag:ks.length=vs.length):(h3 eq k ks vs).length=(h4 eq v ks vs).length:=by
 unfold h3 h4
 cases c2 eq ks vs 0 with
 |none=>simp [ag]
 |some a=>simp [zP,ag]
def J_ {β:Type}: ∀ {l:List β} {i:Nat} {x y:β},y∈dM l i x->y∈l\/y=x
 | [],_,_,_,ag=>by cases ag
 | a::l,0,x,y,ag=>by
   rcases b2.1 ag with rfl|ag
   all_goals grind
 | a::l,i+1,x,y,ag=>by
   rcases b2.1 ag with rfl|ag
   . simp
   . exact (J_ ag).imp ah id
def CE {eq : aa->Bool} {v:aa} {ks vs:List aa} {P:aa->Prop} (ag: ∀x∈vs,P x) (d:P v): ∀x∈h4 eq v ks vs,P x:=by
 unfold h4
 cases c2 eq ks vs 0 with
 |none=>grind
 | some e => intro x a;rcases J_ a with a|rfl
             all_goals grind
def jr (a b:Nat) (ks vs:List aa):Option aa:=(c2 (cU a b) ks vs 0).map (·.2)
def BT {eq:aa->Bool}: ∀(ks vs:List aa) (i:Nat),c2 eq ks vs (i+1)=(c2 eq ks vs i).map λp=>(p.1+1,p.2)
 | [],_,_=>by simp [c2]
 |_::_,[],_=>by simp [c2]
 | a::ks,v::vs,i=>by
   simp only [c2]
   cases eq a with
   |true=>rfl
   |false=>exact BT ks vs (i+1)
theorem zd (a b:Nat) (k:aa) (ks:List aa) (v:aa) (vs:List aa):jr a b (k::ks) (v::vs)=if cU a b k then some v else jr a b ks vs:=by
 unfold jr;simp only [c2]
 cases cU a b k with
 |true=>rfl
 |false=>simp only [eJ,if_false];rw [BT];cases c2 (cU a b) ks vs 0<;>rfl
def V_ (a b:Nat) (vs):jr a b [] vs=none:=by simp [jr,c2]
def TO {a b c d:Nat} {k:aa} (e:cU a b k=true) (f:cU c d k=true):c=a/\d=b:=by
 cases k<;>simp [cU] at e f;omega
def ze (a b c d:Nat) (v:aa): ∀(ks vs:List aa),mg ks->ks.length=vs.length->jr c d (h3 (cU a b) (.str a b) ks vs) (h4 (cU a b) v ks vs)=if c=a/\d=b then some v else jr c d ks vs
 | [],[],_,_=>by simp only [h3,h4,c2,a6,zd,V_];simp [cU]
 | [],_::_,_,ag=>by cases ag
 |_::_,[],_,ag=>by cases ag
 | k ::ks,o::vs,j,l=>by
   have e:=ze a b c d v ks vs (λx m=>j x ah) ah;simp only [h3,h4,c2] at e|-
   cases h:cU a b k with
   | true=>
     simp only [if_true,dM,zd];by_cases f:cU c d k=true
     . rw [if_pos f,if_pos (TO h f)]
     grind
   | false=>
     simp only [eJ,if_false];rw [BT]
     cases g:c2 (cU a b) ks vs 0 with
     | none=>
       simp only [g] at e;simp only [Option.map_none,bl,zd,e]
       grind
     | some n=>
       simp only [g] at e;simp only [jV,dM,zd,e]
       grind
@[go_sem] theorem afY (tm H):qx none tm H= .ok (.map H.n) tm (H.push (.map false [] [])):=by simp [qx,qw]
def iw (n:Nat):List aa:=List.replicate n (.bool true)
def HM (eq:aa->Bool): ∀(ks:List aa) (i:Nat),jX false (.bool false) (c2 eq ks (iw ks.length) i)= .bool (ks.any eq)
 | [],_=>rfl
 | a::ks,i=>by
   simp only [iw,cl,rI,c2,List.any_cons]
   cases eq a with
   |true=>rfl
   |false=>simpa [iw] using HM eq ks (i+1)
def BU {eq:aa->Bool}: ∀ {ks vs:List aa} {i:Nat},ks.any eq=false->c2 eq ks vs i=none
 | [],vs,_,_=>by cases vs<;>rfl
 |_::_,[],_,_=>rfl
 |a::ks,v::vs,i,ag=>by simp only [List.any_cons,Bool.or_eq_false_iff] at ag;simp only [c2,ag.1,eJ,if_false];exact BU ag.2
def Tz {eq:aa->Bool} {k:aa} {ks vs:List aa} (ag:ks.any eq=false):h3 eq k ks vs=ks++ [k]:=by unfold h3;rw [BU ag]
def TC {eq:aa->Bool} {ks:List aa} (ag:ks.any eq=false):h4 eq (.bool true) ks (iw ks.length)=iw (ks.length+1):=by
 unfold h4;rw [BU ag];simp [iw,List.replicate_succ']
def MA (n):(iw n).length=n:=by simp [iw]
def DZ (E:Env) {t d el:Nat} {k:aa} {ks:List aa} {H:af} {eq:aa->Bool} (g:aW E t=some (.map d el)) (h:bN E el=some (.bool false)) (f:hr E 20 d k=true) (e: ∀a∈ks,eF E 20 d k a=some (eq a)):
    iM E t (.map H.n) k false (H.push (.map false ks (iw ks.length)))=some (.bool (ks.any eq)):=by
 unfold iM;simp only [g,Wm,h];rw [J2 E f e (MA _).symm,HM]
def EA (E:Env) {t d el:Nat} {k:aa} {ks:List aa} {H:af} {eq:aa->Bool} {tm:List aa} (j:aW E t=some (.map d el)) (g:hr E 20 d k=true) (h:aD k=true) (f: ∀a∈ks,eF E 20 d k a=some (eq a)) (ag:ks.any eq=false):
    ih E t (.map H.n) k (.bool true) tm (H.push (.map false ks (iw ks.length)))= .ok (.av []) tm (H.push (.map false (ks++ [k]) (iw (ks++ [k]).length))):=by
 have e:=M1 E (v:= .bool true) (id:=H.n) (H:=H.push (.map false ks (iw ks.length))) j (dL _ _) g f ah (MA _).symm;simp only [ih,h,show aD (.bool true)=true from rfl,tu,e,o_,Tz ag,TC ag];simp
def zu {E:Env} {t:Nat} {m k v:aa} {tm:List aa} {H H':af} (a:aD k=true) (d:aD v=true) (ag:tS E t m k v H=some H'):ih E t m k v tm H= .ok (.av []) tm H':=by
 simp only [ih,a,d,tu,ag]
def vk (n0:Nat) (v:aa) (H:af) (a:y n0 20 v=false):gc n0 v H=H:=by
 unfold gc
 grind
def yA {n0 id:Nat} (a off k len:Nat) (c:Bool) (e:n0<=id):y n0 20 (.ref id a off k len c)=false:=by
 show Nat.blt id n0=false
 cases d:Nat.blt id n0 with
 |false=>rfl
 | true => have:id+1<=n0:=er d
           omega
def bn (Q:aa->af->Prop) (n0:Nat) (r:cY):Prop:= ∃a c,r= .ret a c/\Q a (gc n0 a c)
section
variable {E:Env} {R:bU} {Q:aa->af->Prop} {n0:Nat} {rs:List ResultVar}
theorem bn.aE {b x y d w} (a:b=true->bn Q n0 (fin E rs (x ()))) (c:b=false->bn Q n0 (fin E rs (y ()))):bn Q n0 (fin E rs (eH b x y d w)):=by
 cases b with
 |true=>exact a rfl
 |false=>exact c rfl
theorem bn.mk {v:aa} {H':af} (a:Q v (gc n0 v H')):bn Q n0 (.ret v H'):=⟨v,H',rfl,a⟩
def ng (E:Env) (R:bU) (f:Nat) (args:List aa) (P:af->Prop) (Q:af->aa->af->Prop):Prop:=
 bo λe g=> ∀H,Z H->P H-> ∃d a,Q H d a/\ ∀c,az E (X E R e g) f args H c= .ok d c a
theorem ng.run {f m:Nat} {args:List aa} {P:af->Prop} {Q:af->aa->af->Prop} {fn:Func} {c:Code} {rs:List ResultVar} (r:E.cL f=none) (o:E.fns f=some fn) (l:fn.body=some c) (s:fn.results=rs.toArray) (q:fn.ntmps=args.length+m)
  (j:args.all aD=true) (u:E.pure f=false) (p:E.bS f=true) (k:Nat)
  (a: ∀ad n,k<=ad->k<=n-> ∀H,Z H->P H->bn (Q H) H.n (fin E rs (evalCode E (X E R ad n) R ad f c (args++List.replicate m (.av [])) H []))):ng E R f args P Q:=by
 refine ⟨k+1,λad n B C H g h=> ?_⟩;obtain ⟨n,rfl⟩: ∃v,n=v+1:=⟨n-1,ab⟩;obtain ⟨y,A,d,e⟩:=a ad n ab ab H g h;refine ⟨y,_,e,λw=> ?_⟩;rw [jL E _ f args H w u j,lN E R ad n f m args H fn c r o l q,mA _ _ _ rs s _ ah,d];simp only [hV,p,if_true]
end
theorem df.at {E:Env} {R:bU} {Q:aa->af->Prop} {f m ad n:Nat} {args:List aa} {H:af} {fn:Func} {c:Code} {rs:List ResultVar} (p:E.cL f=none) (j:E.fns f=some fn) (h:fn.body=some c) (q:fn.results=rs.toArray) (o:fn.ntmps=args.length+m)
  (g:args.all aD=true) (r:E.pure f=false) (l:E.bS f=false)
  (a:df Q H.n (fin E rs (evalCode E (X E R ad n) R ad f c (args++List.replicate m (.av [])) H []))): ∃v H',Q v H'/\ ∀tm,az E (X E R ad (n+1)) f args H tm= .ok v tm H':=by
 obtain ⟨v,H',d,s,e⟩:=a;refine ⟨v,_,e,λtm=> ?_⟩;rw [jL E _ f args H tm r g,lN E R ad n f m args H fn c p j h o,mA _ _ _ rs q _ ah,d];simp only [hV,l,fi H' _ v (fr 20 bR v al s)];rfl
def d (E:Env) (R:bU) (f:Nat) {α:Type} (P:α->Prop) (args:α->List aa) (v:α->aa):Prop:=
 bo λe g=> ∀a,P a-> ∀H c,Z H->az E (X E R e g) f (args a) H c= .ok (v a) c H
def d.run {E:Env} {R:bU} {α:Type} {P:α->Prop} {f m:Nat} {args:α->List aa} {v:α->aa} {fn:Func} {c:Code} {rs:List ResultVar} (s:E.cL f=none) (p:E.fns f=some fn) (o:fn.body=some c) (u:fn.results=rs.toArray)
    (r: ∀a,fn.ntmps=(args a).length+m) (l: ∀a,P a->(args a).all aD=true) (w:E.pure f=false) (q:E.bS f=false) (k:Nat)
    (g: ∀ad n,k<=ad->k<=n-> ∀a,P a-> ∀H,Z H->e (v a) H (fin E rs (evalCode E (X E R ad n) R ad f c (args a++List.replicate m (.av [])) H []))):d E R f P args v:=by
 refine ⟨k+1,λad n C D a h H F j=> ?_⟩;obtain ⟨n,rfl⟩: ∃y,n=y+1:=⟨n-1,ab⟩;rcases aL.at (S:=λx=>x=v a) (N:=bQ) s p o u (r a) (l a h) w q (.inl ⟨_,rfl,g ad n ab ab a h H j⟩) with ⟨A,rfl,B⟩|⟨A,g,-⟩
 . grind
 . exact g.elim
def d.c {E:Env} {R:bU} {α:Type} {P:α->Prop} {f:Nat} {args:α->List aa} {v:α->aa} (e:d E R f P args v) (a:α) (g:P a):C E R f (args a) (v a):=by
 obtain ⟨k,e⟩:=e;exact ⟨k,ah⟩
def dE {α:Type} {l:List α} {Q:α->Nat->Nat->Prop} (a: ∀x∈l,bo λad n=>Q x ad n):bo λad n=> ∀x∈l,Q x ad n:=by
 induction l with
 |nil=>exact ⟨0,ai⟩
 | cons d l e=>
   obtain ⟨f,h⟩:=a d (dF ..);obtain ⟨g,j⟩:=e λx c=>a x (h8 _ c);refine ⟨f+g,λad n m o x c=> ?_⟩
   grind
def bd.gc {el k c:Nat} {H H':af} {rows:Y} {v:aa} (d:bd H.n el k c H' rows v) (a:Z H) (j:Z H') (e:U H H'):
    bd H.n el k c (gc H.n v H') rows v/\Z (gc H.n v H')/\U H (gc H.n v H'):=by
 rcases d with ⟨rfl,rfl⟩|rfl|⟨id,h,g,rfl,f,d⟩
 . rw [gV a e rfl];exact ⟨bd.nil,a,U.refl H⟩
 . rw [gV a e rfl];exact ⟨.inr (.inl rfl),a,U.refl H⟩
 . rw [vk _ _ _ (yA _ _ _ _ _ f)];exact ⟨.inr (.inr ⟨id,h,g,rfl,f,d⟩),j,e⟩
def kM (el k N:Nat) (H:af) (rows:Y):aa:=match N with
 |0=> .V
 |_+1=> .ref H.n (q el) 0 k rows.length false
def jw (el N:Nat) (z:List aa) (H:af) (rows:Y):af:=match N with
 |0=>H
 |N+1=>H.push (.cells (q el) (q el) 0 (rows.flatten++(List.replicate (N+1-rows.length) z).flatten))
section
variable {E:Env} {t el k b N:Nat} {i:TypeInfo} {H:af} {rows aQ:Y} {x:aa} {z:List aa}
theorem pe (t):O t (kM el k N H rows)=kM el k N H rows:=by cases N<;>rfl
theorem EH:aD (kM el k N H rows)=true:=by cases N<;>rfl
theorem Zj:U H (jw el N z H rows):=by
 cases N with
 |zero=>exact U.refl _
 |succ=>exact (U.refl _).push _
theorem Y2 (n m:Nat) (z:List aa) (e:m<=n):(List.replicate n z).flatten.drop (m*z.length)=(List.replicate (n-m) z).flatten:=by
 induction m generalizing n with
 |zero=>simp
 | succ m c=>
   obtain ⟨n,rfl⟩: ∃d,n=d+1:=⟨n-1,ab⟩;have a:(m+1)*z.length=z.length+m*z.length:=ah;rw [rI,iJ,a,<-qi,vN,c n ab,Nat.succ_sub_succ]
theorem EI (o:aW E t=some (.slice el)) (hT:E.T el=some i) (m:i.size=k) (l:i.bytes=b) (B:0<k) (A:b<=4096) (n:Rows k rows) (q:z.length=k)
  (p:e4 k (jw el N z H rows) x=some (aQ.flatten,aQ.length)) (f:Rows k aQ) (hN:rows.length+aQ.length<=N) (y:N*(b+1)<=b7):
  cI E t t (kM el k N H rows) x (jw el N z H rows)=some (kM el k N H (rows++aQ),jw el N z H (rows++aQ)):=by
 have j:hx E el k (.slice el) x (jw el N z H rows)=some (aQ.flatten,aQ.length):=p;unfold cI;simp only [o,hT,m,l,j];rw [if_pos ab]
 cases aQ with
 | nil=>
   simp only [h5,fw];cases N<;>rfl
 | cons c a=>
   simp only [cl,f.ok,if_true,bu,c1,dn,c8]
   cases N with
   |zero=>simp at hN
   | succ N=>
     simp only [cl] at hN;have d:rows.flatten.length=rows.length*k:=jP k _ n.len;have e:(c::a).flatten.length=(a.length+1)*k:=jP k _ f.len;have g:(List.replicate (N+1-rows.length) z).flatten.length=(N+1-rows.length)*k:=de;have r:(rows.length+(a.length+1))*k<=(N+1)*k:=fU k hN;have s:rows.length*k+(N+1-rows.length)*k=(N+1)*k:=by rw [<-iK];grind
     have u:rows.length*k<(rows.length+(a.length+1))*k:=ah;have v:(rows.length+(a.length+1))*(b+1)<=(N+1)*(b+1):=fU _ hN;simp only [kM,jw,dL];rw [if_pos ah];simp only [eJ,if_false];rw [if_neg ah,if_pos ah];have w:rows.length*k+(a.length+1)*k=(rows.length+(a.length+1))*k:=ah;have h:cB (rows.flatten++(List.replicate (N+1-rows.length) z).flatten) (0+rows.length*k) (c::a).flatten=some ((rows++c::a).flatten++(List.replicate (N+1-(rows++c::a).length) z).flatten):=by
      unfold cB;rw [if_pos (by rw [bD,d,e,g];omega),gH,e];congr 1;rw [<-d,List.take_left,List.drop_append,CR ab,a6,C9,<-q,Y2 _ _ _ ab]
      grind
     simp only [h,o_,bD,cl]
theorem Zk (j:0<k) (a:Rows k rows) (hN:rows.length=N): ∃w d,aZ bR (kM el k N H rows) (jw el N z H rows)=some (w,d)/\F w rows/\U H d:=by
 cases N with
 | zero=>
   obtain rfl:=CS hN;exact ⟨_,H,rfl,.inl ⟨rfl,rfl⟩,U.refl H⟩
 | succ N=>
   have f:rows.flatten.length=rows.length*k:=jP k _ a.len;have e:(rows.flatten++(List.replicate (N+1-rows.length) z).flatten)=rows.flatten:=de;have g:sub rows.flatten 0 (rows.length*k)=some rows.flatten:=by unfold sub;rw [if_pos ab,rF,<-f,bX]
   have h:(jw el (N+1) z H rows).get H.n=some (.cells (q el) (q el) 0 rows.flatten):=by simp only [jw,dL,e]
   have:=o9 49 H.n (q el) 0 k rows.length false _ h ab j g (λc l=>fi _ 49 c (fr 20 49 c al (a.aI c l)));rw [k3 k rows a.len] at this;exact ⟨_,_,this,.inr ⟨false,rfl⟩,Zj.set ab _⟩
theorem ak.rm {S M:aa->Prop} (g:0<k) (j:Z H) (h:Rows k rows) (hN:rows.length=N) (f: ∀w,F w rows->S w):ak S M H (.ret (kM el k N H rows) (jw el N z H rows)):=by obtain ⟨w,c,d,a,e⟩:=Zk (el:=el) (N:=N) (H:=H) (z:=z) g h hN;refine .inl ⟨w,f w a,_,_,c,rfl,d,gV j e ?_⟩;rcases a with ⟨rfl,-⟩|⟨l,rfl⟩<;>rfl
theorem AV {ti:Nat} {c:IntKind} (h:aW E t=some (.slice el)) (f:aW E ti=some (.int c)) (hT:E.T el=some i) (g:i.size=k) (e:i.bytes=b) (p:0<k) (o:b<=4096) {a:aa} (j:bN E el=some a) (r:a.cells.length=k)
  (s:a.cells.all J=true) (hN:(N+1)*(b+1)<=b7) (m:N<4294967296):
  cI E t ti .V (.int .i64 ((N+1:Nat):Int)) H=some (.ref H.n (q el) 0 k (N+1) false,H.push (.cells (q el) (q el) 0 (List.replicate (N+1) a.cells).flatten)):=by
 have d:hx E el k (.int c) (.int .i64 ((N+1:Nat):Int)) H=some ((List.replicate (N+1) a.cells).flatten,N+1):=by
  show (match aa.int .i64 (Int.ofNat (N+1)),bN E el with| .int .i64 (.ofNat n),some z=>_|_,_=>none)=_;rw [j]
  grind
 have l:(List.replicate (N+1) a.cells).flatten.all J=true:=ah;unfold cI;simp only [h,f,hT,g,e,d]
 simp_all
end
def tq:Nat->List aa->List (Nat×aa)
 |_,[]=> []
 |a,b::vs=>(a,b)::tq (a+1) vs
section
variable {E:Env} {t el k:Nat} {z:aa} {H H':af}
theorem HF (f:Nat->Option (Nat×Nat)) (k:Nat) (a:List aa) (d:a.length=k) (c: ∀i,f i=some (i*k,k)): ∀(vs:List aa) (done:List aa) (i:Nat),done.length=i*k->(∀v∈vs,v.cells.length=k/\v.cells.all J=true)->
  hn f (done++(List.replicate vs.length a).flatten) (tq i vs)=some (done++vs.flatMap aa.cells)
 | [],done,i,_,_=>by simp [hn,tq]
 | v::vs,done,i,h,j=>by
   obtain ⟨b,g⟩:=j v (dF ..);have e:cB (done++(List.replicate (v::vs).length a).flatten) (i*k) v.cells=some ((done++v.cells)++(List.replicate vs.length a).flatten):=by unfold cB;rw [if_pos (by simp only [bD,cl,rI,iJ];omega),<-h,List.take_left];congr 1;rw [cl,rI,iJ,List.drop_append,CR ab,a6,C9,b,<-d,vN,fu]
   simp only [tq,hn,c];rw [if_pos ⟨b,g⟩,e];simp only [bu];rw [HF f k a d c vs (done++v.cells) (i+1) ah ah];simp
theorem A5 (i:aW E t=some (.slice el)) (h:bZ E el=some k) (j:bN E el=some z) (e:0<k) (c:z.cells.length=k) (vs:List aa) (b: ∀v∈vs,v.cells.length=k/\v.cells.all J=true) (f:vs.length*k<=16777216) {cs:List aa}
  (g:cD (aZ bR) (vs.flatMap aa.cells) H=some (cs,H')):cT E t vs.length (tq 0 vs) H=some (.A (chunk k vs.length cs) true,H'):=by
 have a:=HF (λd=>some (d*k,k)) k z.cells c ai vs [] 0 ai b;rw [a6,a6] at a;unfold cT
 simp_all
theorem Gm (h:aW E t=some (.slice el)) (g:bZ E el=some k) (i:bN E el=some z) (d:0<k) (j:z.cells.length=k) (vs:List aa) (m: ∀v∈vs,v.cells.length=k/\v.cells.all J=true/\v.cells.all (D 20)=true) (e:vs.length*k<=16777216):
  cT E t vs.length (tq 0 vs) H=some (.A (vs.map aa.cells) true,H):=by
 have f:cD (aZ bR) (vs.flatMap aa.cells) H=some (vs.flatMap aa.cells,H):=wg H _ λc b=>by obtain ⟨v,l,b⟩:=fC.1 b;exact fi H bR c (fr 20 bR c al ah)
 have a:=k3 k (vs.map aa.cells) ah;rw [di] at a;rw [A5 h g i d j vs ah e f,vO,a]
theorem mo (d:aW E t=some (.slice el)) (c:bZ E el=some k) (e:bN E el=some z) (b:0<k) (f:z.cells.length=k) (h:k<=1000) (a:aa) (g:a.cells.length=k/\a.cells.all J=true/\a.cells.all (D 20)=true):
 cT E t 1 [(0,a)] H=some (.A [a.cells] true,H):=Gm d c e b f [a] ah ah
theorem uX (d:aW E t=some (.slice el)) (c:bZ E el=some k) (e:bN E el=some z) (b:0<k) (f:z.cells.length=k) (i:k<=1000) (a v:aa) (g:a.cells.length=k/\a.cells.all J=true/\a.cells.all (D 20)=true)
 (h:v.cells.length=k/\v.cells.all J=true/\v.cells.all (D 20)=true):
 cT E t 2 [(0,a),(1,v)] H=some (.A [a.cells,v.cells] true,H):=Gm d c e b f [a,v] ah ah
end
def F.rk {x:aa} {rows:Y} (a:F x rows):x.cells.length=1/\x.cells.all Go.aj.J=true/\x.cells.all (D 20)=true:=by
 rw [a.cells];exact ⟨rfl,by simp only [aO,jm,a.J];rfl,by simp only [aO,jm,a.aI 19];rfl⟩
def sg:List aa->Option (List (Nat×Nat))
 | []=>some []
 | .str a c::vs=>match sg vs with
   |some d=>some ((a,c)::d)
   |none=>none
 |_=>none
def JT (a b:Nat×Nat):Bool:= !js b.1 b.2 a.1 a.2
def eW (l:List (Nat×Nat)):List (Nat×Nat):=l.mergeSort JT
def qC : List aa->af->cY:=λk H=>match k with
 | [.V]=> .ret (.av []) H
 | [.ref id gen c 1 f false]=>match H.get id with
   | some (.cells e l h d)=>match decide (gen=e/\h<=c/\l<=gen/\f<4611686018427387904) with
     | true=>match sub d c f with
       | some j=>match sg j with
         | some m=>match cB d c ((eW m).map λg=>aa.str g.1 g.2) with
           |some a=>w a λa=>ep (H.set id (.cells e gen h a)) λH=> .ret (.av []) H
           |none=> .fail
         |none=> .fail
       |none=> .fail
     |false=> .fail
   |_=> .fail
 |_=> .fail
def iu (p:Nat×Nat):List aa:= [.str p.1 p.2]
def aaG (l:List (Nat×Nat)):sg (l.map λp=>aa.str p.1 p.2)=some l:=by
 induction l with
 |nil=>rfl
 |cons c l a=>simp [sg,a]
def HK (l:List (Nat×Nat)):(l.map iu).flatten=l.map λp=>aa.str p.1 p.2:=by
 induction l with
 |nil=>rfl
 |cons c l a=>simp [iu,a]
def cO (el n:Nat) (l:List (Nat×Nat)):aa:=match l with
 | []=> .V
 |_::l=> .ref (n+1) (q el+l.length) 0 1 (l.length+1) false
def eY (el st:Nat) (H:af) (d:Nat) (l:List (Nat×Nat)):af:=match l with
 | []=>H.push (.cells (q st) (q st) 0 [.V])
 |a::l=>(H.push (.cells (q st) (q st) 0 [cO el H.n (a::l)])).push (.cells (q el+l.length) (q el+d) 0 ((a::l).map λc=>aa.str c.1 c.2))
section
variable {E:Env} {t el st b:Nat} {i:TypeInfo} {H:af}
theorem L1 (H:af) (a b o:Obj):((H.push a).push b).set H.n o=(H.push o).push b:=by simp [af.push,af.set];rw [if_pos ab];rfl
theorem ta (H:af) (a b:Obj):((H.push a).push b).get H.n=some a:=by rw [pW _ _ _ (by simp [lq]),dL]
theorem MJ (l:List (Nat×Nat)):(eY el st H 0 l).get H.n=some (.cells (q st) (q st) 0 [cO el H.n l]):=by
 cases l with
 |nil=>exact dL _ _
 |cons a l=>exact ta _ _ _
theorem MI (w:aW E t=some (.slice el)) (hT:E.T el=some i) (s:i.size=1) (r:i.bytes=b) (C:b<=4096) (l:List (Nat×Nat)) (u:l.length<1048560) (x y:Nat):
  ∃d,cI E t t (cO el H.n l) (.A [[.str x y]] true) (eY el st H 0 l)=some (cO el H.n (l++ [(x,y)]),d)/\d.get H.n=some (.cells (q st) (q st) 0 [cO el H.n l])/\d.set H.n (.cells (q st) (q st) 0 [cO el H.n (l++ [(x,y)])])=eY el st H 0 (l++ [(x,y)])/\U H d:=by
 have j: ∀n,n<=1048560->n*(b+1)<=b7:=λn v=>by have:n*(b+1)<=1048560*4097:=kF v ab;unfold b7;omega
 have o: ∀H,hx E el 1 (.slice el) (.A [[.str x y]] true) H=some ([.str x y],1):=λ_=>rfl;unfold cI;simp only [w,hT,s,r,o];rw [if_pos ab];have p: [aa.str x y].all J=true:=rfl;simp only [p,if_true,bu,c1,dn,c8];have B:q el+0=q el:=ab
 cases l with
 | nil=>
   have e:cO el H.n ([]++ [(x,y)])= .ref (H.n+1) (q el) 0 1 1 false:=by simp [cO]
   have f:eY el st H 0 ([]++ [(x,y)])=(H.push (.cells (q st) (q st) 0 [.ref (H.n+1) (q el) 0 1 1 false])).push (.cells (q el) (q el) 0 [.str x y]):=by simp [eY,cO]
   rw [e,f];simp only [cO];rw [if_pos (j 1 al)];exact ⟨_,rfl,ta _ _ _,L1 _ _ _ _,(((U.refl H).push _).push _)⟩
 | cons c l=>
   simp only [cl] at u;have e:cO el H.n (c::l++ [(x,y)])= .ref (H.n+1) (q el+l.length+1) 0 1 (l.length+1+1) false:=by simp [cO,rJ]
   have f:eY el st H 0 (c::l++ [(x,y)])=(H.push (.cells (q st) (q st) 0 [.ref (H.n+1) (q el+l.length+1) 0 1 (l.length+1+1) false])).push (.cells (q el+l.length+1) (q el) 0 ((c::l).map (λa=>aa.str a.1 a.2)++ [.str x y])):=by simp [eY,cO,rJ]
   rw [e,f];have h:eY el st H 0 (c::l)=(H.push (.cells (q st) (q st) 0 [.ref (H.n+1) (q el+l.length) 0 1 (l.length+1) false])).push (.cells (q el+l.length) (q el) 0 ((c::l).map λa=>aa.str a.1 a.2)):=by simp [eY,cO]
   have k:(eY el st H 0 (c::l)).get (H.n+1)=some (.cells (q el+l.length) (q el) 0 ((c::l).map λa=>aa.str a.1 a.2)):=by rw [h];exact dL (H.push _) _
   have z:((c::l).map λa=>aa.str a.1 a.2).length=l.length+1:=ai;have m: ∀g,(eY el st H 0 (c::l)).set (H.n+1) g=(H.push (.cells (q st) (q st) 0 [.ref (H.n+1) (q el+l.length) 0 1 (l.length+1) false])).push g:=λg=>by rw [h];exact o_ (H.push _) _ _
   simp only [cO,k];rw [if_pos ⟨trivial,j _ ab,ab⟩];simp only [eJ,if_false];rw [if_pos ⟨trivial,ab,ai,aa4 el _ ab⟩];simp only [m];exact ⟨_,rfl,ta _ _ _,L1 _ _ _ _,(((U.refl H).push _).push _)⟩
end
@[go_sem] theorem ahb (a b):f_ (some (.str a b)) (some (.str a b))=true:=by simp [f_,cN]
@[go_sem] theorem ahh (H:af) (a b c:Obj):((H.push a).push b).set (H.n+1) c=(H.push a).push c:=o_ (H.push a) b c
def su (E:Env) (R:bU) (f:Nat) {α:Type} (P:α->Prop) (args:α->List aa) (v:α->aa):Prop:=
 bo λc d=> ∀b,P b-> ∀a e,Z a->az E (X E R c d) f (args b) a e= .aK (v b) a
def su.run {E:Env} {R:bU} {α:Type} {P:α->Prop} {f m:Nat} {args:α->List aa} {v:α->aa} {fn:Func} {c:Code} {rs:List ResultVar} (o:E.cL f=none) (i:E.fns f=some fn) (h:fn.body=some c) (p:fn.results=rs.toArray)
    (l: ∀a,fn.ntmps=(args a).length+m) (g: ∀a,P a->(args a).all aD=true) (q:E.pure f=false) (j:E.bS f=false) (k:Nat)
    (b: ∀ad n,k<=ad->k<=n-> ∀a,P a-> ∀H,Z H->q3 (v a) H (fin E rs (evalCode E (X E R ad n) R ad f c (args a++List.replicate m (.av [])) H []))):su E R f P args v:=by
 refine ⟨k+1,λad n w x a d H y e=> ?_⟩;obtain ⟨n,rfl⟩: ∃r,n=r+1:=⟨n-1,ab⟩;rcases aL.at (S:=bQ) (N:=λt=>t=v a) o i h p (l a) (g a d) q j (.inr ⟨_,rfl,b ad n ab ab a d H e⟩) with ⟨s,b,-⟩|⟨s,rfl,u⟩
 . exact b.elim
 grind
theorem m5: ∀(l:List aa),(∀v∈l,cN v v=true)->eu l l=true
 | [],_=>rfl
 |a::l,b=>by rw [eu,b a (dF ..),m5 l ah];rfl
theorem LS: ∀(l:Y),(∀v∈l,eu v v=true)->qH l l=true
 | [],_=>rfl
 |a::l,b=>by rw [qH,b a (dF ..),LS l ah];rfl
def r8 (a b):cN (.str a b) (.str a b)=true:=by simp [cN]
def wJ (k a):cN (.int k a) (.int k a)=true:=by simp [cN]
def ZR {l:List aa} (o) (a:eu l l=true):cN (.b5 l o) (.b5 l o)=true:=by simp [cN,a]
def LW {l:List aa} (a:eu l l=true):cN (.agg l) (.agg l)=true:=by simp [cN,a]
def ER {k v:List aa} (a:eu k k=true) (g:eu v v=true):cN (.ck k v) (.ck k v)=true:=by simp [cN,a,g]
def F.same {x:aa} {rows:Y} (a:F x rows) (b: ∀r∈rows,eu r r=true):cN x x=true:=by
 rcases a with ⟨rfl,-⟩|⟨c,rfl⟩
 . rfl
 . simp [cN,LS rows b]
def wI {v:aa} (a:cN v v=true):f_ (some v) (some v)=true:=a
def yD:bP->Bool
 | .ret .. =>true
 | .aK .. =>true
 |_=>false
def an (M:List aa->af->Prop) (Q:bP->Prop) (_:Tok (M,Q)) (r:bP):Prop:=(∃tm H,r= .normal tm H []/\M tm H)\/(yD r=true/\Q r)
def an.mk {M Q e tm H} (d:M tm H):an M Q e (.normal tm H []):= .inl ⟨tm,H,rfl,d⟩
def an.stop {M Q f r} (d:yD r=true) (e:Q r):an M Q f r:= .inr ⟨d,e⟩
theorem an.aE {M Q d b x y g w} (e:b=true->an M Q d (x ())) (f:b=false->an M Q d (y ())):an M Q d (eH b x y g w):=by
 cases b with
 |true=>exact e rfl
 |false=>exact f rfl
def wL {r K e} (d:yD r=true):l3 r K e=r:=by cases r<;>first|rfl|cases d
def OZ {r k} (d:yD r=true):gU k r=r:=by cases r<;>first|rfl|cases d
section
variable {S N:aa->Prop} {a7:af} {E:Env} {rs:List ResultVar} {cf:cb} {bk:bU} {ad fid:Nat} {a b c:Code} {tm:List aa} {H:af}
theorem ak.bM (M:List aa->af->Prop) (f:an M (λr=>ak S N a7 (fin E rs r)) ⟨⟩ (evalCode E cf bk ad fid a tm H [])) (g: ∀tm H',M tm H'->ak S N a7 (fin E rs (evalCode E cf bk ad fid b tm H' []))):ak S N a7 (fin E rs (evalCode E cf bk ad fid (.seq a b) tm H [])):=by
 rw [nC];rcases f with ⟨j,H',d,h⟩|⟨e,i⟩
 . rw [d];exact g j H' h
 . rw [wL e];exact i
theorem an.bM {d:List aa->af->Prop} {Q f} (M:List aa->af->Prop) (h:an M Q ⟨⟩ (evalCode E cf bk ad fid a tm H [])) (i: ∀tm H',M tm H'->an d Q f (evalCode E cf bk ad fid b tm H' [])):an d Q f (evalCode E cf bk ad fid (.seq a b) tm H []):=by
 rw [nC];rcases h with ⟨l,H',g,j⟩|⟨e,k⟩
 . rw [g];exact i l H' j
 . rw [wL e];exact .inr ⟨e,k⟩
theorem au.bM {σ:Type} {S:q0 σ} {t j e} (M:List aa->af->Prop) (g:an M S.Q ⟨⟩ (evalCode E cf bk ad fid a tm H [])) (h: ∀tm H',M tm H'->au S t j (gU e (evalCode E cf bk ad fid b tm H' []))):au S t j (gU e (evalCode E cf bk ad fid (.seq a b) tm H [])):=by
 rw [nC];rcases g with ⟨l,H',f,i⟩|⟨d,k⟩
 . rw [f];exact h l H' i
 . rw [wL d,OZ d];exact au.stop (by revert d;cases evalCode E cf bk ad fid a tm H []<;>intro d<;>first|rfl|cases d) k
end
def Lv {k:Nat} {rows:Y} (a: ∀r∈rows,r.length=k):r7 k rows=true:=by
 cases rows with
 |nil=>rfl
 |cons r b=>show Nat.beq r.length k=true;simp_all
def F.fG {k:Nat} {x:aa} {rows:Y} (c:F x rows) (d: ∀r∈rows,r.length=k) {j:Nat} (e:j<=rows.length): ∃y,Go.aj.fG k x none (some (.int .i64 (j:Int))) none=some y/\F y (rows.take j):=by
 rcases c with ⟨rfl,rfl⟩|⟨a,rfl⟩
 . have:j=0:=ah;subst this;exact ⟨.V,rfl,.inl ⟨rfl,rfl⟩⟩
 . refine ⟨.A (rows.take j) (a&&Nat.beq j rows.length),?_,.inr ⟨_,rfl⟩⟩;have b:ey rows.length (some (.int .i64 (j:Int)))=some j:=by simp [ey]
   show (match r7 k rows with|true=>qJ rows a none (some (.int .i64 (j:Int))) none|false=>none)=_;rw [Lv d];simp only [qJ,b];rw [show ey 0 (none:Option aa)=some 0 from rfl]
   simp_all
def bn.at {E:Env} {R:bU} {Q:aa->af->Prop} {f m ad n:Nat} {args:List aa} {H:af} {fn:Func} {c:Code} {rs:List ResultVar} (k:E.cL f=none) (h:E.fns f=some fn) (g:fn.body=some c) (l:fn.results=rs.toArray) (j:fn.ntmps=args.length+m)
    (e:args.all aD=true) (o:E.pure f=false) (i:E.bS f=true)
    (a:bn Q H.n (fin E rs (evalCode E (X E R ad n) R ad f c (args++List.replicate m (.av [])) H []))): ∃v H',Q v H'/\ ∀tm,az E (X E R ad (n+1)) f args H tm= .ok v tm H':=by
 obtain ⟨v,H',b,d⟩:=a;refine ⟨v,_,d,λtm=> ?_⟩;rw [jL E _ f args H tm o e,lN E R ad n f m args H fn c k h g j,mA _ _ _ rs l _ ah,b];simp only [hV,i,if_true]
def cc (al4 v:aa):Prop:= ∀id,cW al4=some id->cW v≠some id
def cc.symm {al4 v} (a:cc al4 v):cc v al4:=λid b d=>a id d b
def cc.nil {al4}:cc al4 .V:=λ_ _ a=>by cases a
section
variable {n0 el k c Kc adG afy ac2:Nat} {H H':af} {rows ag4:Y} {al4 E9 v:aa}
theorem bd.bS (e:bd n0 el k c H rows v) (g:iX Kc al4 E9 H H') (f:cc al4 v):bd n0 el k c H' rows v:=e.at λid h a d=>g.other id h d λb=>f id b a
theorem bd.lt (a:bd n0 el k c H rows v) {id:Nat} (e:cW v=some id):id<H.n:=by
 rcases a with ⟨rfl,-⟩|rfl|⟨g,f,d,rfl,-,b,-⟩
 . cases e
 . cases e
 . cases e;exact gW b
theorem cc.grow (f:cc al4 v) (e:bd n0 el k c H rows v) (g:iX Kc al4 E9 H H'):cc E9 v:=λid d a=>by
 rcases g.new id d with b|b
 . exact f id b a
 . have:=e.lt a;omega
theorem bd.KX (p:0<k) (d:Rows k rows) (e:bd n0 el k c H rows v) (f:Z H): ∃w a,Go.aj.aZ bR v H=some (w,a)/\F w rows/\Z a/\(∀b,b.n<=n0->U b H->U b a)/\(∀id o,H.get id=some o->cW v≠some id->a.get id=some o):=by
 rcases e with ⟨rfl,rfl⟩|rfl|⟨id,i,t,rfl,y,l,j,-⟩
 . exact ⟨_,H,rfl,.inl ⟨rfl,rfl⟩,f,ai,ah⟩
 . exact ⟨_,H,rfl,.inr ⟨true,rfl⟩,f,ai,ah⟩
 . have u:rows.flatten.length=rows.length*k:=jP k _ d.len;have h:sub rows.flatten 0 (rows.length*k)=some rows.flatten:=by
    unfold sub
    grind
   have:=o9 49 id i 0 k rows.length false H l j p h (λv r=>fi _ 49 v (fr 20 49 v al (d.aI v r)));rw [k3 k rows d.len] at this;exact ⟨_,_,this,.inr ⟨false,rfl⟩,f.set _ (d.tidy _ _ _ _),λb x e=>e.set ab _,λs o m q=>by rw [iG _ _ _ _ (λg:s=id=>q (by rw [g];rfl))];exact m⟩
end
def bd.cells {n0 el k c:Nat} {H:af} {rows:Y} {v:aa} (a:bd n0 el k c H rows v):v.cells= [v]/\J v=true:=by
 rcases a with ⟨rfl,rfl⟩|rfl|⟨id,d,b,rfl,-⟩<;>exact ⟨rfl,rfl⟩
def mm (d:List (Nat×List aa)):bP->bP
 | .normal c a b=> .normal c a (b++d)
 | .exit e c a b=> .exit e c a (b++d)
 | .ret c a b=> .ret c a (b++d)
 | .aK f c a b=> .aK f c a (b++d)
 | .fail=> .fail
section
variable (E:Env) (cf:cb) (bk:bU) (ad fid:Nat) (d:List (Nat×List aa))
theorem G_ (ops:Array Oper): ∀(a:List Oper) (tm:List aa) (H:af) (ds),dv E cf fid ops a tm H (ds++d)=mm d (dv E cf fid ops a tm H ds)
 | [],tm,H,ds=>rfl
 | o :: a, tm, H,ds=>by
   have h:=G_ ops a;rw [dv,dv]
   cases cJ ops tm o with
   |none=>rfl
   | some c=>
     cases c with
     | false=>
       simp only
       cases cH E fid o.dst (.av []) tm with
       |none=>rfl
       |some b=>grind
     | true=>
       simp only;split
       . rename_i g _;split
         . split
           . split
             . cases cH E fid o.dst (.av []) tm with
               |none=>rfl
               | some b=>
                 simp only [bu]
                 grind
             . rfl
           . rfl
         . rfl
       . split
         . rename_i e b f _
           cases cH E fid o.dst e b with
           |none=>rfl
           |some i=>grind
         . rfl
         . rfl
theorem QH (ops:Array Oper) (a:Option e0) (tm:List aa) (H:af) (ds):hK E cf fid ops a tm H (ds++d)=mm d (hK E cf fid ops a tm H ds):=by
 unfold hK
 cases a with
 |none=>rfl
 | some a=>
   simp only
   cases a.rs with
   | nil =>
     simp only
     cases mw E cf fid ops a tm H with
     |some b=>rfl
     | none=>
       simp only;unfold mB;split
       . split
         . split
           . rfl
           . rfl
         . rfl
       . rfl
   | cons=>
     simp only;rfl
theorem G9 (a:List aa->af->List (Nat×List aa)->bP) (b: ∀tm H ds,a tm H (ds++d)=mm d (a tm H ds)): ∀n tm H ds,iter a n tm H (ds++d)=mm d (iter a n tm H ds)
 |0,_,_,_=>rfl
 | n+1,tm,H,ds=>by
   rw [iter,iter,b]
   cases a tm H ds with
   |normal f c e=>exact G9 a b n f c e
   |_=>rfl
theorem QF: ∀(c:Code) (tm:List aa) (H:af) (ds),evalCode E cf bk ad fid c tm H (ds++d)=mm d (evalCode E cf bk ad fid c tm H ds):=by
 intro c
 induction c with
 |skip=>intro tm H ds;rfl
 | region id b l=>
   intro tm H ds
   cases l with
   |true=>exact QH E cf fid d b _ tm H ds
   |false=>exact G_ E cf fid d b b.toList tm H ds
 | seq f k h i=>
   intro tm H ds;rw [evalCode,evalCode,h]
   cases evalCode E cf bk ad fid f tm H ds with
   |normal j e g=>exact i j e g
   |_=>rfl
 | cond c f k h i=>
   intro tm H ds;rw [evalCode,evalCode];split
   . grind
   . grind
   . rfl
 | block id c a=>
   intro tm H ds;rw [evalCode,evalCode,a]
   cases evalCode E cf bk ad fid c tm H ds with
   | exit m j e g=>
     simp only [mm]
     grind
   |_=>rfl
 | loop c a=>
   intro tm H ds;exact G9 d _ a ad tm H ds
 |exit id=>intro tm H ds;rfl
 |label _=>intro tm H ds;rfl
 |ret=>intro tm H ds;rfl
 |_=>intros;rfl
theorem QG (c:Code) (tm:List aa) (H:af):evalCode E cf bk ad fid c tm H d=mm d (evalCode E cf bk ad fid c tm H []):=QF E cf bk ad fid d c tm H []
end
def bd.Yt {n0 el k c:Nat} {H:af} {rows:Y} {v:aa} (d:Nat) (l:20<=d) (r:0<k) (e:Rows k rows) (f:bd n0 el k c H rows v) (g:Z H): ∃w a,Go.aj.aZ (d+1) v H=some (w,a)/\F w rows/\Z a/\(∀b,b.n<=n0->U b H->U b a)/\(∀id o,H.get id=some o->cW v≠some id->a.get id=some o):=by
 rcases f with ⟨rfl,rfl⟩|rfl|⟨id,j,x,rfl,A,p,m,-⟩
 . exact ⟨_,H,rfl,.inl ⟨rfl,rfl⟩,g,ai,ah⟩
 . exact ⟨_,H,rfl,.inr ⟨true,rfl⟩,g,ai,ah⟩
 . have y:rows.flatten.length=rows.length*k:=jP k _ e.len;have i:sub rows.flatten 0 (rows.length*k)=some rows.flatten:=by
    unfold sub
    grind
   have:=o9 d id j 0 k rows.length false H p m r i (λv t=>fi _ d v (fr 20 d v l (e.aI v t)));rw [k3 k rows e.len] at this;exact ⟨_,_,this,.inr ⟨false,rfl⟩,g.set _ (e.tidy _ _ _ _),λb z f=>f.set ab _,λu o q s=>by rw [iG _ _ _ _ (λh:u=id=>s (by rw [h];rfl))];exact q⟩
def AM (d:Nat) (e H:af) (R:aa->aa->Prop) (v:aa):Prop:=(D (d+1) v=true/\R v v)\/ ∃g a f b,0<a/\Rows a b/\bd e.n g a f H b v/\ ∀c,F c b->R v c
def vi {d:Nat} {v:aa} (a:D (d+1) v=true):cW v=none:=by
 cases v<;>first|rfl|cases a
def Ey (d:Nat) (s:20<=d) (c:af): ∀(R:Nat->aa->aa->Prop) (vs:List aa) (H:af),Z H->U c H->(∀i v,vs[i]? =some v->AM d c H (R i) v)->vs.Pairwise cc->
    ∃e H',cD (Go.aj.aZ (d+1)) vs H=some (e,H')/\Z H'/\U c H'/\e.length=vs.length/\ ∀(i:Nat) v w,vs[i]? =some v->e[i]? =some w->R i v w
 |_,[],H,g,n,_,_=>⟨[],H,rfl,g,n,rfl,ai⟩
 | R, v::vs,H,g,n,u,L=>by
   obtain ⟨M,N⟩:=hq.1 L;have S: ∃w a,Go.aj.aZ (d+1) v H=some (w,a)/\R 0 v w/\Z a/\U c a/\(∀id h,H.get id=some h->cW v≠some id->a.get id=some h):=by
    rcases u 0 v rfl with ⟨K,b⟩|⟨p,z,o,A,k,m,l,b⟩
    . exact ⟨v,H,fi H (d+1) v K,b,g,n,ah⟩
    . obtain ⟨w,a,f,j,y,x,t⟩:=l.Yt d s k m g
      grind
   obtain ⟨w,a,f,b,y,x,t⟩:=S;obtain ⟨e,C,T,P,O,V,J⟩:=Ey d s c (λi=>R (i+1)) vs a y x (λi B j=>by
    have Q:=aV j;rcases u (i+1) B j with I|⟨p,z,o,A,k,m,l,b⟩
    . exact .inl I
    . exact .inr ⟨p,z,o,A,k,m,l.at λid h f G=>t id h G λF=>M B Q id F f,b⟩) N
   refine ⟨w::e,C,by rw [cD,f];grind,P,O,ah,λi D E q r=> ?_⟩
   cases i with
   |zero=>cases q;cases r;exact b
   |succ i=>exact J i D E q r
def bd.ge {n0 el k c:Nat} {H:af} {rows:Y} {v:aa} (a:bd n0 el k c H rows v) {id:Nat} (e:cW v=some id):n0<=id:=by
 rcases a with ⟨rfl,-⟩|rfl|⟨g,f,d,rfl,b,-⟩
 . cases e
 . cases e
 . cases e;exact b
def dk (rows:Y):aa:=match rows with
 | []=> .V
 |_::_=> .A rows false
def fW (rows):F (dk rows) rows:=by
 cases rows with
 |nil=>exact .inl ⟨rfl,rfl⟩
 |cons=>exact .inr ⟨_,rfl⟩
structure P (el k:Nat) (a7 H:af) (v:aa) (rows:Y):Prop where
  W:bd a7.n el k rows.length H rows v
  rw:Rows k rows
  tidy:Z H
  up:U a7 H
  ex:(v= .V/\rows= [])\/(rows≠ []/\cW v≠none)
section
variable {el k:Nat} {a7 H:af} {v:aa} {rows:Y}
theorem P.O (a:P el k a7 H v rows) (t):O t v=v:=a.W.O t
theorem P.nl (a:P el k a7 H v rows):aD v=true:=a.W.aD
theorem P.ok (a:P el k a7 H v rows):J v=true:=a.W.cells.2
theorem P.cs (a:P el k a7 H v rows):v.cells= [v]:=a.W.cells.1
theorem P.cw (a:P el k a7 H v rows):cG H k v rows:=a.W.cw a.rw.len
theorem P.len (a:P el k a7 H v rows):iL v=some (.int .i64 rows.length):=a.W.len
theorem P.new (el k:Nat) {H:af} (b:Z H):P el k H H .V []:=⟨bd.nil,λ_ a=>(by cases a),b,U.refl _,ai⟩
theorem P.ref (a:P el k a7 H v rows) (b:rows≠ []): ∃id g d,v= .ref id g 0 k rows.length false/\a7.n<=id/\H.get id=some (.cells g d 0 rows.flatten)/\d<=g/\g<=g/1048576*1048576+rows.length/\(g/1048576=0\/g/1048576=el+1):=by
 rcases a.W with ⟨-,a⟩|rfl|a
 . grind
 . rcases a.ex with ⟨a,-⟩|⟨-,a⟩
   . cases a
   . exact absurd rfl a
 omega
theorem P.at (a:P el k a7 H v rows) {H':af} (d:Z H') (b:U H H'):P el k a7 H' v rows:=⟨a.W.at λid e _ c=>b.get a.tidy.1 c,a.rw,d,a.up.trans b,a.ex⟩
theorem P.app {E:Env} {t b:Nat} {i:TypeInfo} (o:aW E t=some (.slice el)) (hT:E.T el=some i) (j:i.size=k) (g:i.bytes=b) (l:0<k) (h:b<=4096) (a:P el k a7 H v rows) {x:aa} {aQ:Y}
  (p:e4 k H x=some (aQ.flatten,aQ.length)) (f:Rows k aQ) (w:rows.length+aQ.length<1048560):
  ∃d H',cI E t t v x H=some (d,H')/\P el k a7 H' d (rows++aQ)/\iX a7.n v d H H':=by
 obtain ⟨d,H',c,z,e⟩:=a.W.app (x:=x) (aQ:=aQ) o hT j g l h a.tidy a.up.n a.rw p f (by have:(rows.length+aQ.length)*(b+1)<=1048560*4097:=kF ab ab;unfold b7;omega) ab;refine ⟨d,H',c,⟨ah,a.rw.app f,e.tidy,e.up a7 ab a.up,?_⟩,e⟩;unfold cI at c;have q:hx E el k (.slice el) x H=some (aQ.flatten,aQ.length):=p;simp only [o,hT,j,g,q,l,h,and_self,if_true] at c
 cases m:aQ with
 | nil=>
   subst m;have:d=v:=by
    simp only [h5] at c
    grind
   rw [this,fw];exact a.ex
 | cons B A=>
   refine .inr ⟨ai,?_⟩;subst m;simp only [cl,f.ok,if_true,bu,c1,dn,c8] at c;rcases a.W with ⟨rfl,-⟩|rfl|⟨id,u,s,rfl,y,r,-⟩
   . simp only at c;split at c
     . simp only [N,bz] at c;rw [<-c.1];exact λa=>by cases a
     grind
   . rcases a.ex with ⟨a,-⟩|⟨-,a⟩
     . cases a
     . exact absurd rfl a
   . simp only [r,eJ,if_false] at c;split at c
     . split at c
       . simp only [N,bz] at c;rw [<-c.1];exact λa=>by cases a
       . split at c
         . split at c
           . simp only [N,bz] at c;rw [<-c.1];exact λa=>by cases a
           grind
         grind
     grind
theorem P.aZ (d:Nat) (m:20<=d) (s:0<k) (a:P el k a7 H v rows): ∃b,Go.aj.aZ (d+1) v H=some (dk rows,b)/\Z b/\(∀e,e.n<=a7.n->U e H->U e b)/\(∀id o,H.get id=some o->cW v≠some id->b.get id=some o):=by
 cases f:rows with
 | nil=>
   subst f;have g:v= .V:=by
    rcases a.ex with ⟨a,-⟩|⟨a,-⟩
    all_goals grind
   subst g;exact ⟨H,rfl,a.tidy,ai,ah⟩
 | cons A z=>
   rw [<-f];obtain ⟨id,h,i,rfl,y,q,p,-⟩:=a.ref ah;have c:=a.rw;have w:rows.flatten.length=rows.length*k:=jP k _ c.len;have l:sub rows.flatten 0 (rows.length*k)=some rows.flatten:=by
    unfold sub
    grind
   have:=o9 d id h 0 k rows.length false H q p s l (λv g=>fi _ d v (fr 20 d v m (c.aI v g)));rw [k3 k rows c.len] at this;refine ⟨H.set id (.cells h i (ll 0 (0+rows.length*k)) rows.flatten),this.trans ?_,a.tidy.set _ (c.tidy _ _ _ _),λa7 x a=>a.set ab _,λu o r t=>by rw [iG _ _ _ _ (λj:u=id=>t (by rw [j];rfl))];exact r⟩;rw [f];rfl
def putAt (c:Nat) (vs r:List aa):List aa:=r.take c++vs++r.drop (c+vs.length)
theorem YC {c:Nat} {vs r:List aa} (a:c+vs.length<=r.length):(putAt c vs r).length=r.length:=by
 unfold putAt
 grind
theorem HJ (c:Nat) (vs:List aa): ∀(rows:Y) (j:Nat) (r:List aa),rows[j]? =some r->(∀r∈rows,r.length=k)->c+vs.length<=k->
  rows.flatten.take (j*k+c)++vs++rows.flatten.drop (j*k+c+vs.length)=(rows.set j (putAt c vs r)).flatten
 | [],j,r,b,_,_=>by cases b
 |a::l,0,r,b,d,e=>by cases b;have:=d a (dF ..);show (a++l.flatten).take (0*k+c)++vs++(a++l.flatten).drop (0*k+c+vs.length)=putAt c vs a++l.flatten;rw [y0,gH,vT ab,qh ab,<-fu];rfl
 |a::l,j+1,r,b,d,e=>by have i:=d a (dF ..);have h:=HJ c vs l j r b ah e;show (a++l.flatten).take ((j+1)*k+c)++vs++(a++l.flatten).drop ((j+1)*k+c+vs.length)=a++(l.set j (putAt c vs r)).flatten;have f:(j+1)*k+c=a.length+(j*k+c):=ah;have g:(j+1)*k+c+vs.length=a.length+(j*k+c+vs.length):=ab;rw [g,f,List.take_length_add_append,List.drop_length_add_append,<-h];simp
theorem P.st (a:P el k a7 H v rows) {j:Nat} {r:List aa} (t:rows[j]? =some r) (c:Nat) (vs:List aa) (p:c+vs.length<=k) (A: ∀v∈vs,J v=true/\D 20 v=true):
  ∃id g d F H',v= .ref id g 0 k rows.length false/\H.get id=some (.cells g d 0 rows.flatten)/\cB rows.flatten (0+j*k+c) vs=some F/\d<=g/\H.set id (.cells g g 0 F)=H'/\(∀tm,hf vs.length (.ptr id g (0+j*k+c) (0+j*k+k)) vs tm H= .ok (.av []) tm H')/\P el k a7 H' v (rows.set j (putAt c vs r))/\iX a7.n v v H H':=by
 have w:j<rows.length:=ah;obtain ⟨id,g,d,rfl,m,l,q,K,z⟩:=a.ref ah;have y:=a.rw.len r ah;have I:rows.flatten.length=rows.length*k:=jP k rows a.rw.len;have u:(j+1)*k<=rows.length*k:=fU k w;rw [ql] at u;have i:cB rows.flatten (0+j*k+c) vs=some (rows.set j (putAt c vs r)).flatten:=by
  rw [<-HJ c vs rows j r t a.rw.len p];unfold cB
  grind
 have e:Rows k (rows.set j (putAt c vs r)):=λC f=>by
  rcases C4 f with f|rfl
  . exact a.rw C f
  . refine ⟨by rw [YC ab,y],λv h=> ?_⟩;have L:=(a.rw r ah).2;unfold putAt at h
    grind
 refine ⟨id,g,d,_,H.set id (.cells g g 0 (rows.set j (putAt c vs r)).flatten),rfl,l,i,q,rfl,λtm=> ?_,⟨.inr (.inr ⟨id,g,g,ai,m,nJ _ _ _ ah,ai,ah,z⟩),e,a.tidy.set _ (e.tidy _ _ _ _),a.up.set m _,.inr ⟨λb=> ?_,λb=>by cases b⟩⟩,
  ⟨a.tidy.set _ (e.tidy _ _ _ _),λE G o=>o.set ab _,by rw [mS];omega,λB M s x=>by rw [iG _ _ _ _ (λb:B=id=>x (by rw [b];rfl))];exact s,ah⟩⟩
 . rw [Mj,if_pos ⟨rfl,ba.2 λv h=>(A v h).1⟩,l,Mk,if_pos ⟨rfl,fV _,ab⟩,i]
 simp_all
end
def P.mono {el k:Nat} {a7 b H:af} {v:aa} {rows:Y} (a:P el k b H v rows) (c:U a7 b):P el k a7 H v rows:=⟨a.W.mono c.n ab,a.rw,a.tidy,c.trans a.up,a.ex⟩
def P.bS {el k:Nat} {a7 H:af} {v:aa} {rows:Y} (a:P el k a7 H v rows) {H':af} (c:Z H') (b:U a7 H') (d: ∀id o,H.get id=some o->cW v=some id->H'.get id=some o):P el k a7 H' v rows:=
 ⟨a.W.at ah,a.rw,c,b,a.ex⟩
def P.pn {el k:Nat} {a7 H:af} {v:aa} {rows:Y} (d:P el k a7 H v rows) {j:Nat} {r:List aa} (i:rows[j]? =some r) (c:Nat) (vs:List aa) (h:c+vs.length<=k) (l: ∀v∈vs,J v=true/\D 20 v=true):
    ∃p a H',kA k v (.int .i64 (j:Nat))=some p/\(∀t,Go.aj.O t p=p)/\fh p=true/\gT p c=some a/\(∀t,Go.aj.O t a=a)/\fh a=true/\(∀tm,hf vs.length a vs tm H= .ok (.av []) tm H')/\P el k a7 H' v (rows.set j (putAt c vs r))/\iX a7.n v v H H':=by
 have q:j<rows.length:=ah;obtain ⟨id,b,o,m,H',rfl,-,-,-,-,e,f,g⟩:=d.st i c vs h l;refine ⟨.ptr id b (0+j*k) (0+j*k+k),.ptr id b (0+j*k+c) (0+j*k+k),H',?_,λ_=>rfl,rfl,by simp only [gT,c1],λ_=>rfl,rfl,e,f,g⟩;show (if k=k/\j<rows.length then _ else _)=_
 grind
def H9 {H H':af} (c:Z H) (b:U H H') (v:aa):gc H.n v H'=H'\/(gc H.n v H'=H/\y H.n 20 v=true):=by
 cases a:y H.n 20 v with
 |true=>exact .inr ⟨gV c b a,rfl⟩
 |false=>exact .inl (vk _ _ _ a)
def P.gc {el k:Nat} {a7 e H:af} {v w:aa} {rows:Y} (a:P el k e H w rows) (f:Z a7) (b:U a7 e) {d:Nat} (i:y a7.n 20 v=true->y a7.n (d+1) w=true):P el k a7 (gc a7.n v H) w rows:=by
 rcases H9 f (b.trans a.up) v with c|⟨c,g⟩
 . rw [c];exact ⟨a.W.mono b.n ab,a.rw,a.tidy,b.trans a.up,a.ex⟩
 . rw [c];rcases a.ex with ⟨rfl,rfl⟩|⟨h,o⟩
   . exact P.new el k f
   . obtain ⟨id,j,d,rfl,m,-⟩:=a.ref h;have:=i g;simp only [y] at this;have l:id+1<=a7.n:=er this;have:=b.n;omega
section
variable {Q:aa->af->Prop} {n0:Nat} {E:Env} {rs:List ResultVar} {cf:cb} {bk:bU} {ad fid:Nat} {a b c:Code} {tm:List aa} {H:af}
theorem bn.bM (M:List aa->af->Prop) (f:an M (λr=>bn Q n0 (fin E rs r)) ⟨⟩ (evalCode E cf bk ad fid a tm H [])) (g: ∀tm H',M tm H'->bn Q n0 (fin E rs (evalCode E cf bk ad fid b tm H' []))):bn Q n0 (fin E rs (evalCode E cf bk ad fid (.seq a b) tm H [])):=by
 rw [nC];rcases f with ⟨j,H',d,h⟩|⟨e,i⟩
 . rw [d];exact g j H' h
 . rw [wL e];exact i
end
@[go_sem] theorem builtin_clear (E:Env) (t x tm H):hy E .clear [t] [x] tm H=ha (oH E t x H) tm:=rfl
structure fI (el k:Nat) (a7 H:af) (v:aa) (rows:Y):Prop where
  ex: ∃id g d cs,v= .ref id g 0 k rows.length false/\a7.n<=id/\H.get id=some (.cells g d 0 cs)/\d<=g/\rows.length*k<=cs.length/\cs.take (rows.length*k)=rows.flatten
  rw:Rows k rows
  tidy:Z H
  up:U a7 H
section
variable {el k:Nat} {a7 H:af} {v:aa} {rows:Y}
theorem fI.O (a:fI el k a7 H v rows) (t):O t v=v:=by obtain ⟨_,_,_,_,rfl,-⟩:=a.ex;rfl
theorem fI.nl (a:fI el k a7 H v rows):aD v=true:=by obtain ⟨_,_,_,_,rfl,-⟩:=a.ex;rfl
theorem fI.ok (a:fI el k a7 H v rows):J v=true:=by obtain ⟨_,_,_,_,rfl,-⟩:=a.ex;rfl
theorem fI.cs (a:fI el k a7 H v rows):v.cells= [v]:=by obtain ⟨_,_,_,_,rfl,-⟩:=a.ex;rfl
theorem fI.bS (a:fI el k a7 H v rows) {H':af} (j:Z H') (i:U a7 H') (h: ∀id o,H.get id=some o->cW v=some id->H'.get id=some o):fI el k a7 H' v rows:=by obtain ⟨id,g,f,e,rfl,c,b,d⟩:=a.ex;exact ⟨⟨id,g,f,e,rfl,c,h id _ b rfl,d⟩,a.rw,j,i⟩
theorem fI.ge (c:fI el k a7 H v rows) {id:Nat} (e:cW v=some id):a7.n<=id/\id<H.n:=by obtain ⟨i,h,g,f,rfl,a,b,d⟩:=c.ex;cases e;exact ⟨a,gW b⟩
theorem fI.aZ (d:Nat) (r:20<=d) (w:0<k) (g:fI el k a7 H v rows): ∃a,Go.aj.aZ (d+1) v H=some (.A rows false,a)/\Z a/\(∀c,c.n<=a7.n->U c H->U c a)/\(∀id o,H.get id=some o->cW v≠some id->a.get id=some o):=by
 obtain ⟨id,f,h,e,rfl,F,j,s,G,i⟩:=g.ex;have l:=g.rw;have p:sub e 0 (rows.length*k)=some rows.flatten:=by
  unfold sub
  grind
 have:=o9 d id f 0 k rows.length false H j s w p (λv B=>fi _ d v (fr 20 d v r (l.aI v B)));rw [k3 k rows l.len] at this;have y: ∀m,gL H.n (.cells f h m e)=true:=λm=>by
  have:=g.tidy.2 (.cells f h 0 e) (by
   unfold af.get at j
   grind)
  exact this
 exact ⟨H.set id (.cells f h (ll 0 (0+rows.length*k)) e),this,g.tidy.set _ (y _),λc D q=>q.set ab _,λC o u x=>by rw [iG _ _ _ _ (λi:C=id=>x (by rw [i];rfl))];exact u⟩
end
theorem P.r2 {el k:Nat} {a7 H:af} {v:aa} {rows:Y} (d:Nat) (p:20<=d) (s:0<k) (a:P el k a7 H v rows): ∃c,Go.aj.aZ (d+1) v H=some (dk rows,c)/\Z c/\(∀g,g.n<=a7.n->U g H->U g c)/\(∀id o,H.get id=some o->cW v≠some id->c.get id=some o)/\c.n=H.n/\cG c k v rows:=by
 rcases a.ex with ⟨rfl,rfl⟩|⟨h,-⟩
 . exact ⟨H,rfl,a.tidy,ai,ah,rfl,.inl (.inl ⟨rfl,rfl⟩)⟩
 . obtain ⟨id,e,i,rfl,A,q,j,-⟩:=a.ref h;have f:=a.rw;have x:rows.flatten.length=rows.length*k:=jP k _ f.len;have m:sub rows.flatten 0 (rows.length*k)=some rows.flatten:=by
    unfold sub
    grind
   have:=o9 d id e 0 k rows.length false H q j s m (λv u=>fi _ d v (fr 20 d v p (f.aI v u)));rw [k3 k rows f.len] at this;refine ⟨H.set id (.cells e i (ll 0 (0+rows.length*k)) rows.flatten),this.trans ?_,a.tidy.set _ (f.tidy _ _ _ _),λa7 y a=>a.set ab _,λw o r h=>by rw [iG _ _ _ _ (λl:w=id=>h (by rw [l];rfl))];exact r,mS _ _ _,.inr ⟨id,e,i,_,_,0,false,e,rfl,nJ _ _ _ ah,j,ah,ab⟩⟩
   cases rows with
   |nil=>grind
   |cons=>rfl
def fI.r2 {el k:Nat} {a7 H:af} {v:aa} {rows:Y} (d:Nat) (g:20<=d) (h:0<k) (e:fI el k a7 H v rows): ∃a,Go.aj.aZ (d+1) v H=some (.A rows false,a)/\Z a/\(∀c,c.n<=a7.n->U c H->U c a)/\(∀id o,H.get id=some o->cW v≠some id->a.get id=some o)/\a.n=H.n:=by
 obtain ⟨a,f,t,s,o⟩:=e.aZ d g h;refine ⟨a,f,t,s,o,?_⟩;obtain ⟨id,l,u,i,rfl,x,p,m,y,w⟩:=e.ex;have q:=e.rw;have j:sub i 0 (rows.length*k)=some rows.flatten:=by
  unfold sub
  grind
 have:=o9 d id l 0 k rows.length false H p m h j (λv r=>fi _ d v (fr 20 d v g (q.aI v r)));rw [f] at this;simp only [N,bz] at this;rw [this.2,mS]
def BQ {k:Nat}: ∀(rows:Y) (j:Nat),(∀r∈rows,r.length=k)->j<rows.length->(rows.eraseIdx j).flatten=rows.flatten.take (j*k)++rows.flatten.drop ((j+1)*k)
 | [],j,_,c=>by simp
 |a::l,0,c,_=>by grind
 |a::l,j+1,c,i=>by have h:=c a (dF ..);have g:=BQ l j (λr f=>c r (h8 _ f)) ah;rw [List.eraseIdx_cons_succ,iJ,g,iJ];have d:(j+1)*k=a.length+j*k:=ah;have e:(j+1+1)*k=a.length+(j+1)*k:=ah;rw [e,d,List.take_length_add_append,<-d,List.drop_length_add_append,fu]
section
variable {E:Env} {t el k b:Nat} {ti:TypeInfo} {a7 H:af} {v z:aa} {rows:Y}
theorem P.del (B:aW E t=some (.slice el)) (hT:E.T el=some ti) (aX:bN E el=some z) (ae:ti.size=k) (au:ti.bytes=b) (bl:0<k) (a8:b<=4096) (bx:z.cells.length=k) (bz:z.cells.all J=true) (bw: ∀v∈z.cells,∀n,y n 20 v=true)
  (f:P el k a7 H v rows) {j:Nat} (Y:j<rows.length) (bm:rows.length<1048560):
  ∃ X D F o e i g,fG k v (some (.int .i64 (j:Nat))) (some (.int .i64 ((j+1:Nat):Nat))) (some (.int .i64 (rows.length:Nat)))=some X/\
    fG k v none (some (.int .i64 (j:Nat))) none=some D/\fG k v (some (.int .i64 ((j+1:Nat):Nat))) none none=some F/\cI E t t D F H=some (o,e)/\
    kL (fG k o (some (.int .i64 ((rows.length-1:Nat):Nat))) (some (.int .i64 (rows.length:Nat))) none) (hC E t o (some (.int .i64 ((rows.length-1:Nat):Nat))) (some (.int .i64 (rows.length:Nat))) none e)=some i/\
    oH E t i e=some (.av [],g)/\((∀t,Go.aj.O t X=X)/\(∀t,Go.aj.O t D=D)/\(∀t,Go.aj.O t F=F)/\(∀t,Go.aj.O t i=i))/\iL o=some (.int .i64 ((rows.length-1:Nat):Nat))/\fI el k a7 g o (rows.eraseIdx j)/\cW o=cW v/\iX a7.n v o H g/\g.n=H.n:=by
 obtain ⟨id,c,aG,rfl,W,V,R,bh,bt⟩:=f.ref ah;have S:rows.flatten.length=rows.length*k:=jP k rows f.rw.len;obtain ⟨a,Q⟩: ∃a,rows.length=a+1:=⟨rows.length-1,ab⟩;have ay:bZ E el=some k:=by simp [bZ,hT,ae]
 have w:Nat.beq k k=true:=ai;have bj:(j+1)*k<=rows.length*k:=fU k Y;have aR:(H.get id).isSome=true:=ah;have s:(rows.eraseIdx j).length=a:=ah;have aP:Rows k (rows.eraseIdx j):=λaY aO=>f.rw aY (tC aO);have a6:rows.length*k=a*k+k:=ah;rw [Q];simp only [tD];have aA: ∀(M:Nat) (d:List aa) (e:af),M<=c->e.get id=some (.cells c M 0 d)->d.length=rows.length*k->d.take (a*k)=(rows.eraseIdx j).flatten->(∀v∈d,y e.n 20 v=true)->Z e->U a7 e->e.n=H.n->(∀m C,H.get m=some C->m≠id->e.get m=some C)->(∀p,p.n<=a7.n->U p H->U p e)->
   ∃ i g,kL (fG k (.ref id c 0 k a false) (some (.int .i64 (a:Nat))) (some (.int .i64 ((a+1:Nat):Nat))) none) (hC E t (.ref id c 0 k a false) (some (.int .i64 (a:Nat))) (some (.int .i64 ((a+1:Nat):Nat))) none e)=some i/\
     oH E t i e=some (.av [],g)/\(∀t,Go.aj.O t i=i)/\fI el k a7 g (.ref id c 0 k a false) (rows.eraseIdx j)/\iX a7.n (.ref id c 0 k rows.length false) (.ref id c 0 k a false) H g/\g.n=H.n:=by
  intro M d e bf aw bc bd bb az aS br bs aV;have aH:fG k (.ref id c 0 k a false) (some (.int .i64 (a:Nat))) (some (.int .i64 ((a+1:Nat):Nat))) none=none:=by
   show (match Nat.beq k k with|true=>l4 id c 0 k a false (some (.int .i64 (a:Nat))) (some (.int .i64 ((a+1:Nat):Nat))) none|false=>none)=none;rw [w];show (if a<=a+1/\a+1<=a/\_ then _ else none)=none
   grind
  have aJ:hC E t (.ref id c 0 k a false) (some (.int .i64 (a:Nat))) (some (.int .i64 ((a+1:Nat):Nat))) none e=some (.ref id c (0+a*k) k 1 false):=by
   unfold hC;simp only [B,ay,aw];show (if True/\c=c/\a<a+1/\0+(a+1)*k<=d.length then _ else none)=_
   simp_all
  have aZ:cB d (0+a*k) (List.replicate 1 z.cells).flatten=some (d.take (a*k)++z.cells):=by
   unfold cB
   grind
  have ax: ∀n,gL n (.cells c c 0 (d.take (a*k)++z.cells))=true↔ ∀v∈d.take (a*k),y n 20 v=true:=λn=>by
   show (d.take (a*k)++z.cells).all (y n 20)=true↔_
   grind
  refine ⟨_,e.set id (.cells c c 0 (d.take (a*k)++z.cells)),by rw [aH,aJ];rfl,?_,λ_=>rfl,⟨⟨id,c,c,_,by rw [s],W,nJ _ _ _ ah,ai,ah,?_⟩,aP,?_,aS.set W _⟩,?_,by rw [mS];omega⟩
  . have aC:Nat.beq 1 0=false:=rfl;simp only [oH,B,aC,ay,aX,aw]
    simp_all
  . grind
  . exact az.set _ ah
  . exact ⟨az.set _ ah,λp q N=>(aV p q N).set ab _,by rw [mS];omega,λm C x s=>by have:m≠id:=λl=>s (by rw [l];rfl);rw [iG _ _ _ _ this];grind,λm x=> .inl x⟩
 have ak:fG k (.ref id c 0 k (a+1) false) (some (.int .i64 (j:Nat))) (some (.int .i64 ((j+1:Nat):Nat))) (some (.int .i64 ((a+1:Nat):Nat)))=some (if j+1=a+1 then .ref id c (0+j*k) k (j+1-j) true else .bad):=by
  show (match Nat.beq k k with|true=>l4 id c 0 k (a+1) false (some (.int .i64 (j:Nat))) (some (.int .i64 ((j+1:Nat):Nat))) (some (.int .i64 ((a+1:Nat):Nat)))|false=>none)=_;rw [w];show (if j<=j+1/\j+1=a+1/\a+1<=a+1 then _ else if j<=j+1/\j+1<=a+1/\a+1<=a+1 then some aa.bad else none)=_;by_cases l:j+1=a+1
  . rw [if_pos ab,if_pos l];rw [if_neg ab];simp
  . rw [if_neg ab,if_pos ⟨ab,ab,aT _⟩,if_neg l]
 have an:fG k (.ref id c 0 k (a+1) false) none (some (.int .i64 (j:Nat))) none=some (.ref id c 0 k j false):=by show (match Nat.beq k k with|true=>l4 id c 0 k (a+1) false none (some (.int .i64 (j:Nat))) none|false=>none)=_;rw [w];show (if 0<=j/\j<=a+1/\_ then _ else none)=_;rw [if_pos ⟨fV _,ab,λf=>by cases f⟩,if_neg ab];simp
 have ao:fG k (.ref id c 0 k (a+1) false) (some (.int .i64 ((j+1:Nat):Nat))) none none=some (if j+1=a+1 then .A [] false else .ref id c (0+(j+1)*k) k (a+1-(j+1)) false):=by
  show (match Nat.beq k k with|true=>l4 id c 0 k (a+1) false (some (.int .i64 ((j+1:Nat):Nat))) none none|false=>none)=_;rw [w];show (if j+1<=a+1/\a+1<=a+1/\_ then _ else none)=_;rw [if_pos ab];by_cases l:j+1=a+1
  . grind
  . rw [if_neg l,if_neg (λf=>l f.1)];simp
 have aq: ∀t,Go.aj.O t (if j+1=a+1 then aa.ref id c (0+j*k) k (j+1-j) true else .bad)=(if j+1=a+1 then aa.ref id c (0+j*k) k (j+1-j) true else .bad):=λt=>by split<;>rfl
 have ar: ∀t,Go.aj.O t (if j+1=a+1 then aa.A [] false else .ref id c (0+(j+1)*k) k (a+1-(j+1)) false)=(if j+1=a+1 then aa.A [] false else .ref id c (0+(j+1)*k) k (a+1-(j+1)) false):=λt=>by split<;>rfl
 have aM: ∀n,H.n<=n-> ∀v∈rows.flatten,y n 20 v=true:=λn bq v u=>fR n 20 20 v al (f.rw.aI v u);by_cases l:j+1=a+1
 . have ad:j=a:=ab;have r:cI E t t (.ref id c 0 k j false) (if j+1=a+1 then .A [] false else .ref id c (0+(j+1)*k) k (a+1-(j+1)) false) H=some (.ref id c 0 k a false,H):=by
    rw [if_pos l,ad];have q:hx E el k (.slice el) (.A [] false) H=some ([],0):=rfl;unfold cI;simp only [B,hT,ae,au,q]
    grind
   obtain ⟨i,g,G,I,K,L,aB⟩:=aA aG rows.flatten H R V (by rw [S]) (by rw [BQ rows j f.rw.len Y,ad,tv (by rw [S,Q];exact aT _),fw]) ah f.tidy f.up rfl ah ai;exact ⟨_,_,_,.ref id c 0 k a false,H,i,g,ak,an,ao,r,G,I,⟨aq,λ_=>rfl,ar,K⟩,rfl,L,rfl,ah⟩
 . have ad:j+1<=a:=ab;obtain ⟨h,a1⟩: ∃h,a-j=h+1:=⟨a-j-1,ab⟩;have aK:a+1-(j+1)=h+1:=ab;have bo:(j+1)*k+(h+1)*k=rows.length*k:=by rw [<-iK,Q];grind
   have bp:j*k+(h+1)*k=a*k:=ah;have bg:(rows.flatten.drop ((j+1)*k)).length=(h+1)*k:=ah;have r: ∃d,d.length=rows.length*k/\d.take (a*k)=(rows.eraseIdx j).flatten/\(∀v∈d,v∈rows.flatten)/\cI E t t (.ref id c 0 k j false) (if j+1=a+1 then .A [] false else .ref id c (0+(j+1)*k) k (a+1-(j+1)) false) H=some (.ref id c 0 k a false,H.set id (.cells c c 0 d)):=by
    refine ⟨rows.flatten.take (j*k)++rows.flatten.drop ((j+1)*k)++rows.flatten.drop (j*k+(h+1)*k),?_,?_,?_,?_⟩
    . grind
    . rw [vT ah,fT ah,BQ rows j f.rw.len Y]
    . grind
    . rw [if_neg l,aK];have q:hx E el k (.slice el) (.ref id c (0+(j+1)*k) k (h+1) false) H=some (rows.flatten.drop ((j+1)*k),h+1):=by
       show e4 k H (.ref id c (0+(j+1)*k) k (h+1) false)=_;simp only [e4,V];rw [if_pos ⟨R,trivial⟩];simp only [sub]
       grind
      have aQ: ∀ag,ag<=1048560->ag*(b+1)<=b7:=λag aN=>eT (kF aN (show b+1<=4097 by omega)) (by unfold b7;omega);have aL:(rows.flatten.drop ((j+1)*k)).all J=true:=ba.2 λv u=>ba.1 f.rw.ok v ah;unfold cI;simp only [B,hT,ae,au,q];rw [if_pos ab];simp only [aL,if_true,V];rw [if_pos ⟨trivial,aQ _ ab,R⟩];simp only [eJ,if_false];have bn:(j+(h+1))*k<=rows.length*k:=ah;have bk:j*k<rows.flatten.length:=ab;rw [if_neg ab,if_pos ⟨trivial,fV _,by rw [S];omega⟩];have aU:cB rows.flatten (0+j*k) (rows.flatten.drop ((j+1)*k))=some (rows.flatten.take (j*k)++rows.flatten.drop ((j+1)*k)++rows.flatten.drop (j*k+(h+1)*k)):=by
       unfold cB
       grind
      rw [aU];simp only [bu,dn,c8];rw [show j+(h+1)=a by omega]
   obtain ⟨d,aD,aE,aF,r⟩:=r;have ax:gL H.n (.cells c c 0 d)=true:=ba.2 λv u=>aM H.n (aT _) v (aF v u);obtain ⟨i,g,G,I,K,L,aB⟩:=aA c d (H.set id (.cells c c 0 d)) ab (nJ _ _ _ aR) aD aE (λv u=>by rw [mS];grind) (f.tidy.set _ ax) (f.up.set W _) (by rw [mS]) (λm C x s=>by rw [iG _ _ _ _ s];exact x) λp q N=>N.set ab _;exact ⟨_,_,_,.ref id c 0 k a false,_,i,g,ak,an,ao,r,G,I,⟨aq,λ_=>rfl,ar,K⟩,rfl,L,rfl,ah⟩
end
def dJ (Q:aa->af->Prop) (n0:Nat) (r:cY):Prop:= ∃d c a b,r= .ret d c/\aZ bR d c=some (a,b)/\Q a (gc n0 a b)
section
variable {E:Env} {R:bU} {Q:aa->af->Prop} {n0:Nat} {rs:List ResultVar}
theorem dJ.mk {b v:aa} {a H':af} (c:aZ bR b a=some (v,H')) (d:Q v (gc n0 v H')):dJ Q n0 (.ret b a):=⟨b,a,v,H',rfl,c,d⟩
theorem dJ.bM {cf:cb} {c:bU} {ad fid:Nat} {a b:Code} {tm:List aa} {H:af} (M:List aa->af->Prop) (f:an M (λr=>dJ Q n0 (fin E rs r)) ⟨⟩ (evalCode E cf c ad fid a tm H [])) (g: ∀tm H',M tm H'->dJ Q n0 (fin E rs (evalCode E cf c ad fid b tm H' []))):dJ Q n0 (fin E rs (evalCode E cf c ad fid (.seq a b) tm H [])):=by
 rw [nC];rcases f with ⟨j,H',d,h⟩|⟨e,i⟩
 . rw [d];exact g j H' h
 . rw [wL e];exact i
theorem dJ.at {f m ad n:Nat} {args:List aa} {H:af} {fn:Func} {c:Code} {rs:List ResultVar} (k:E.cL f=none) (h:E.fns f=some fn) (g:fn.body=some c) (l:fn.results=rs.toArray) (j:fn.ntmps=args.length+m)
  (e:args.all aD=true) (o:E.pure f=false) (i:E.bS f=false)
  (a:dJ Q H.n (fin E rs (evalCode E (X E R ad n) R ad f c (args++List.replicate m (.av [])) H []))): ∃v H',Q v H'/\ ∀tm,az E (X E R ad (n+1)) f args H tm= .ok v tm H':=by
 obtain ⟨r,q,v,H',b,p,d⟩:=a;refine ⟨v,_,d,λtm=> ?_⟩;rw [jL E _ f args H tm o e,lN E R ad n f m args H fn c k h g j,mA _ _ _ rs l _ ah,b];simp only [hV,i,p];rfl
end
def wB {cs cs':List aa} {H H':af} (a:cD (aZ (48+1)) cs H=some (cs',H')):aZ bR (.agg cs) H=some (.agg cs',H'):=by
 show (match cD (aZ (48+1)) cs H with|some (cs,H)=>w cs λcs=>some (aa.agg cs,H)|none=>none)=_
 simp_all
def Yz {cs cs':List aa} {H H':af} (a:cD (aZ (48+1)) cs H=some (cs',H')):aZ bR (.av cs) H=some (.av cs',H'):=by
 show (match cD (aZ (48+1)) cs H with|some (cs,H)=>w cs λcs=>some (aa.av cs,H)|none=>none)=_
 simp_all
def Yu {cs cs':List aa} {H H':af} (a:cD (aZ (47+1)) cs H=some (cs',H')):aZ (48+1) (.agg cs) H=some (.agg cs',H'):=by
 show (match cD (aZ (47+1)) cs H with|some (cs,H)=>w cs λcs=>some (aa.agg cs,H)|none=>none)=_
 simp_all
theorem zB (d l m H):aZ (d+1) (.str l m) H=some (.str l m,H):=rfl
theorem wC (d k i H):aZ (d+1) (.int k i) H=some (.int k i,H):=rfl
theorem Ez (d H):aZ (d+1) .V H=some (.V,H):=rfl
theorem uc (d r c H):aZ (d+1) (.A r c) H=some (.A r c,H):=rfl
def d.cL {E:Env} {R:bU} {α:Type} {P:α->Prop} {f:Nat} {args:α->List aa} {v:α->aa} {p:List aa->af->cY} (i:E.cL f=some p) (j:E.pure f=false) (h: ∀a,P a->(args a).all aD=true) (k: ∀a,P a->D 20 (v a)=true) (g: ∀a,P a-> ∀H,p (args a) H= .ret (v a) H):d E R f P args v:=by
 refine ⟨1,λl b _ q a c H n o=> ?_⟩;obtain ⟨b,rfl⟩: ∃m,b=m+1:=⟨b-1,ab⟩;rw [jL E _ f _ H n j (h a c)];have e:X E R l (b+1) f (args a) H= .ret (v a) H:=by simp only [X,nE,i,g a c]
 rw [e];simp only [hV,fi H _ (v a) (fr 20 bR (v a) al (k a c)),ft (aT _)];simp
section
variable {S N:aa->Prop} {a7:af} {E:Env} {rs:List ResultVar} {cf:cb} {bk:bU} {ad fid:Nat} {a b:Code} {tm:List aa} {H:af} {F:List aa->Prop} {Q:aa->af->Prop} {n0:Nat}
theorem ak.bF (_:F tm) (M:(List aa->Prop)->List aa->af->Prop) (c:an (M F) (λr=>ak S N a7 (fin E rs r)) ⟨⟩ (evalCode E cf bk ad fid a tm H [])) (d: ∀tm H',M F tm H'->ak S N a7 (fin E rs (evalCode E cf bk ad fid b tm H' []))):ak S N a7 (fin E rs (evalCode E cf bk ad fid (.seq a b) tm H [])):=
 ak.bM _ c d
theorem ak.P0 (_:F tm) (M:(List aa->Prop)->List aa->af->Prop) (c:dD (M F) ⟨⟩ (evalCode E cf bk ad fid a tm H [])) (d: ∀tm H',M F tm H'->ak S N a7 (fin E rs (evalCode E cf bk ad fid b tm H' []))):ak S N a7 (fin E rs (evalCode E cf bk ad fid (.seq a b) tm H [])):=
 ak.seq _ c d
theorem an.bF {c:List aa->af->Prop} {Q d} (_:F tm) (M:(List aa->Prop)->List aa->af->Prop) (e:an (M F) Q ⟨⟩ (evalCode E cf bk ad fid a tm H [])) (f: ∀tm H',M F tm H'->an c Q d (evalCode E cf bk ad fid b tm H' [])):an c Q d (evalCode E cf bk ad fid (.seq a b) tm H []):=
 an.bM _ e f
theorem au.bF {σ:Type} {S:q0 σ} {t j c} (_:F tm) (M:(List aa->Prop)->List aa->af->Prop) (d:an (M F) S.Q ⟨⟩ (evalCode E cf bk ad fid a tm H [])) (e: ∀tm H',M F tm H'->au S t j (gU c (evalCode E cf bk ad fid b tm H' []))):au S t j (gU c (evalCode E cf bk ad fid (.seq a b) tm H [])):=
 au.bM _ d e
theorem bn.bF {Q:aa->af->Prop} (_:F tm) (M:(List aa->Prop)->List aa->af->Prop) (c:an (M F) (λr=>bn Q n0 (fin E rs r)) ⟨⟩ (evalCode E cf bk ad fid a tm H [])) (d: ∀tm H',M F tm H'->bn Q n0 (fin E rs (evalCode E cf bk ad fid b tm H' []))):bn Q n0 (fin E rs (evalCode E cf bk ad fid (.seq a b) tm H [])):=
 bn.bM _ c d
end
def np (tm:List aa):List Nat->List (Nat×aa)
 | []=> []
 |c::l=>(c,M tm c)::np tm l
@[go_sem] theorem afA (tm):np tm []= []:=rfl
@[go_sem] theorem afz (tm k l):np tm (k::l)=(k,M tm k)::np tm l:=rfl
@[reducible] def cat:List (Nat×aa)->List (Nat×aa)->List (Nat×aa)
 | [],c=>c
 |a::k,c=>a::cat k c
section
variable {S N:aa->Prop} {a7:af} {E:Env} {rs:List ResultVar} {cf:cb} {bk:bU} {ad fid L:Nat} {a b:Code} {tm:List aa} {H:af} {F:List (Nat×aa)} {Q:aa->af->Prop} {n0:Nat}
theorem ak.np (ks:List Nat) (M:(List aa->Prop)->List aa->af->Prop) (c:an (M (aM L F)) (λr=>ak S N a7 (fin E rs r)) ⟨⟩ (evalCode E cf bk ad fid a tm H [])) (d: ∀tm H',M (aM L F) tm H'->ak S N a7 (fin E rs (evalCode E cf bk ad fid b tm H' [])))
  (_:Go.aj.np tm ks=F:=by simp only [go_sem,hF];rfl) (_:tm.length=L:=by simp only [go_sem,hF];rfl):ak S N a7 (fin E rs (evalCode E cf bk ad fid (.seq a b) tm H [])):=
 ak.bM _ c d
theorem an.np {c:List aa->af->Prop} {Q d} (ks:List Nat) (M:(List aa->Prop)->List aa->af->Prop) (e:an (M (aM L F)) Q ⟨⟩ (evalCode E cf bk ad fid a tm H [])) (f: ∀tm H',M (aM L F) tm H'->an c Q d (evalCode E cf bk ad fid b tm H' [])) (_:Go.aj.np tm ks=F:=by simp only [go_sem,hF];rfl) (_:tm.length=L:=by simp only [go_sem,hF];rfl):an c Q d (evalCode E cf bk ad fid (.seq a b) tm H []):=
 an.bM _ e f
theorem au.np {σ:Type} {S:q0 σ} {t j c} (ks:List Nat) (M:(List aa->Prop)->List aa->af->Prop) (d:an (M (aM L F)) S.Q ⟨⟩ (evalCode E cf bk ad fid a tm H [])) (e: ∀tm H',M (aM L F) tm H'->au S t j (gU c (evalCode E cf bk ad fid b tm H' []))) (_:Go.aj.np tm ks=F:=by simp only [go_sem,hF];rfl) (_:tm.length=L:=by simp only [go_sem,hF];rfl):au S t j (gU c (evalCode E cf bk ad fid (.seq a b) tm H [])):=
 au.bM _ d e
theorem bn.np {Q:aa->af->Prop} (ks:List Nat) (M:(List aa->Prop)->List aa->af->Prop) (c:an (M (aM L F)) (λr=>bn Q n0 (fin E rs r)) ⟨⟩ (evalCode E cf bk ad fid a tm H [])) (d: ∀tm H',M (aM L F) tm H'->bn Q n0 (fin E rs (evalCode E cf bk ad fid b tm H' []))) (_:Go.aj.np tm ks=F:=by simp only [go_sem,hF];rfl) (_:tm.length=L:=by simp only [go_sem,hF];rfl):bn Q n0 (fin E rs (evalCode E cf bk ad fid (.seq a b) tm H [])):=
 bn.bM _ c d
theorem dJ.np {Q:aa->af->Prop} (ks:List Nat) (M:(List aa->Prop)->List aa->af->Prop) (c:an (M (aM L F)) (λr=>dJ Q n0 (fin E rs r)) ⟨⟩ (evalCode E cf bk ad fid a tm H [])) (d: ∀tm H',M (aM L F) tm H'->dJ Q n0 (fin E rs (evalCode E cf bk ad fid b tm H' []))) (_:Go.aj.np tm ks=F:=by simp only [go_sem,hF];rfl) (_:tm.length=L:=by simp only [go_sem,hF];rfl):dJ Q n0 (fin E rs (evalCode E cf bk ad fid (.seq a b) tm H [])):=
 dJ.bM _ c d
end
section
variable {E:Env} {cf:cb} {bk:bU} {fid:Nat}
theorem cv {σ:Type} (ks:List Nat) (d:σ->List (Nat×aa)) (e:σ->af) (P:Nat->σ->Prop) (N:Nat) (s:σ) {L:Nat} {F:List (Nat×aa)} {Q:bP->Prop}
  {B C G I l J K M k h c t i n:Nat} {y z A:String} {m o q:Array Edge} {g:Code} {ad:Nat} {tm:List aa} {H:af}
  (x:P 0 s)
  (D: ∀j s tm,j<N->P j s->aM L ((i,.int .i64 j)::(n,.int .i64 N)::cat (d s) F) tm->au ⟨λs=>cat (d s) F,e,P,L,N,i,n,Q⟩ ⟨⟩ j (gU h (evalCode E cf bk ad fid g tm (e s) [])))
  (done: ∀s tm,P N s->aM L (cat (d s) F) tm->Q (.exit k tm (e s) []))
  (_:np tm ks=F:=by simp only [go_sem,hF];rfl) (_:tm.length=L:=by simp only [go_sem,hF];rfl)
  (hF:aM L ((i,.int .i64 0)::(n,.int .i64 N)::cat (d s) F) tm:=by simp only [go_sem,hF])
  (w:(E.loc fid c||(E.loc fid t||E.loc fid i))=false:=by rfl)
  (u:(Nat.blt c L&&Nat.blt t L&&Nat.blt i L&& !Nat.beq i c&& !Nat.beq n c&& !Nat.beq i t&& !Nat.beq n t&& !Nat.beq n i&& !Nat.beq i n)=true:=by rfl)
  (v: ∀s,((cat (d s) F).all λp=> !Nat.beq p.1 c&&(!Nat.beq p.1 t&& !Nat.beq p.1 i))=true:=by exact λ_=>rfl)
  (r:H=e s:=by rfl) (hlf:N<ad:=by omega) (hN:N<4611686018427387904:=by omega):
  ∀ f,a1 E cf bk ad fid (.seq (.region B #[⟨some c,.binOp .lss G (.tmp i) (.tmp n) I,J,y,m,none⟩] false)
    (.seq (.cond (.tmp c) .skip (.exit k)) (.seq (.block h g) (.region C #[⟨some t,.binOp .add l (.tmp i) (.const (.int .i64 1)) l,K,z,o,none⟩,⟨some i,.move (.tmp t),M,A,q,none⟩] false)))) ad tm H []=f->Q f:=
 hz _ _ _ _ (λs=>cat (d s) F) e P L N s w u v r x hF hlf hN D done
theorem dA (ks:List Nat) (P:Nat->Prop) (N:Nat) {L:Nat} {F:List (Nat×aa)} {Q:bP->Prop}
  {x y A B g C D G k f c t i n:Nat} {u v w:String} {h l m:Array Edge} {e:Code} {ad:Nat} {tm:List aa} {H:af}
  (s:P 0)
  (z: ∀j (_:Unit) tm,j<N->P j->aM L ((i,.int .i64 j)::(n,.int .i64 N)::F) tm->au ⟨λ_:Unit=>F,λ_=>H,λj _=>P j,L,N,i,n,Q⟩ ⟨⟩ j (gU f (evalCode E cf bk ad fid e tm H [])))
  (done: ∀(_:Unit) tm,P N->aM L F tm->Q (.exit k tm H []))
  (_:np tm ks=F:=by simp only [go_sem,hF];rfl) (_:tm.length=L:=by simp only [go_sem,hF];rfl)
  (hF:aM L ((i,.int .i64 0)::(n,.int .i64 N)::F) tm:=by simp only [go_sem,hF])
  (r:(E.loc fid c||(E.loc fid t||E.loc fid i))=false:=by rfl)
  (o:(Nat.blt c L&&Nat.blt t L&&Nat.blt i L&& !Nat.beq i c&& !Nat.beq n c&& !Nat.beq i t&& !Nat.beq n t&& !Nat.beq n i&& !Nat.beq i n)=true:=by rfl)
  (q:((F).all λp=> !Nat.beq p.1 c&&(!Nat.beq p.1 t&& !Nat.beq p.1 i))=true:=by rfl)
  (hlf:N<ad:=by omega) (hN:N<4611686018427387904:=by omega):
  ∀ d,a1 E cf bk ad fid (.seq (.region x #[⟨some c,.binOp .lss A (.tmp i) (.tmp n) B,C,u,h,none⟩] false)
    (.seq (.cond (.tmp c) .skip (.exit k)) (.seq (.block f e) (.region y #[⟨some t,.binOp .add g (.tmp i) (.const (.int .i64 1)) g,D,v,l,none⟩,⟨some i,.move (.tmp t),G,w,m,none⟩] false)))) ad tm H []=d->Q d:=
 hz _ _ _ _ (λ_=>F) (λ_=>H) (λj _=>P j) L N () r o (λ_=>q) rfl s hF hlf hN z done
end
end Go.aj
