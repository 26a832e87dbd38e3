/- A part of the proof. -/
import Derived.Deep.DeepHandedRow
import Derived.Deep.RegionLaw
import Derived.Shelf.Spec.SlicesInsertGrow
import Derived.WalkKit
import Derived.Test.YtiodgpibgiodcaaGreatDoorP00
import Derived.Test.YtiodgpibgiodcaaGreatDoorP01
import Derived.Test.YtiodgpibgiodcaaGreatDoorP09
import Derived.Test.YtiodgpibgiodcaaGreatDoorP10
import Derived.Test.YtiodgpibgiodcaaGreatDoorP13
import Derived.Test.YtiodgpibgiodcaaGreatDoorP16
import Derived.Test.YtiodgpibgiodcaaGreatDoorP17
import Derived.Test.YtiodgpibgiodcaaGreatDoorProg
set_option linter.all false
set_option maxHeartbeats 4000000
namespace Go.aj
open Go Go.Proofs.Tryz
set_option maxRecDepth 100000
noncomputable def hl (f:Nat):Option iW:=match Nat.beq f 289 with
 |true=>some (.cL r0)
 |false=>match Nat.beq f 302 with
 |true=>some (.cL mZ)
 |false=>EC f
open Go Go.Proofs Go.RowKit Go.Lib
set_option maxHeartbeats 2000000
def Qt (P:Program) (w:World) (n:Nat) (t1 t2 ty:TypeId) (d:Option Addr) (b:Nat) (a:Option Addr) (c e:Nat):
    (Builtin.copy_ #[t1,t2] ty #[.slice d n b,.slice a (n+1) c]).run P w=(Builtin.copy_ #[t1,t2] ty #[.slice d n b,.slice a n e]).run P w:=by
 have f:(n+1).min n=n:=Nat.min_eq_right ab;have g:n.min n=n:=Nat.min_self n;cases a<;>simp [Builtin.copy_,Builtin.lenOf,Builtin.firstCells,f,g]
def TB (w f g:World) (k l:Value) (b cap a d c n:Nat) (m:0<n) (y:n<=1000) (o:n+1<=cap)
    (j:(callFunc 350 #[.slice (some ⟨a,d,none⟩) 1 c,.slice (some ⟨b,7,none⟩) n (cap-1)]).run Tryz.prog w= .ok (.value (.bool false)) w)
    (h: ∀ty,(Builtin.copy_ #[103,103] ty #[.slice (some ⟨b,7,none⟩) n (cap-1),.slice (some ⟨b,0,none⟩) (n+1) cap]).run Tryz.prog w.drew= .ok k f)
    (i: ∀ty,(Builtin.copy_ #[103,102] ty #[.slice (some ⟨b,0,none⟩) (n+1) cap,.slice (some ⟨a,d,none⟩) 1 c]).run Tryz.prog f= .ok l g):
    Calls Tryz.prog 302 #[.slice (some ⟨b,0,none⟩) n cap,.int .i64 0,.slice (some ⟨a,d,none⟩) 1 c] w λe w'=>e= .returned (.slice (some ⟨b,0,none⟩) (n+1) cap)/\w'=g:=by
 have p: ¬((cap:Int)<n+1):=ab;have q: ¬(cap=1):=ab;have r: ¬(cap=0):=ab;have s:(n:Int)+1<=cap:=ab;have t: ¬((0:Int)=n):=ab;have u: ¬(n=0):=ab;have v:(1:Int)<=(n:Int)+1:=ab;have x:(0:Int)<=(n:Int)+1:=ab;have z:IntKind.i64.wrap 1=1:=al;have A:IntKind.i64.wrap ((n:Int)+1)=n+1:=wrap64 _ ab ab
 go_enter Tryz.func302,Tryz.ntmps302
 go_wp2_with (simp only [j])
 go_region_law (refine step_copy_runI rfl _ _ 103 103 rfl (.slice (some ⟨b,7,none⟩) n (cap-1)) (.slice (some ⟨b,0,none⟩) (n+1) cap) (by simp [Act.eval,Act.put]) (by simp [Act.eval,Act.put]) (h _) ?_)
 go_wp2_with (at_builtin;refine wpList_copy_runI _ rfl _ _ 103 102 rfl _ _ rfl rfl (i _) ?_)
 go_ret
 exact ⟨rfl,rfl⟩
def TA (w c d f:World) (o p:Value) (b h j i g a n:Nat) (q:0<n) (z:n<=1000) (r:n+1<=a)
    (k: ∀ty,(Builtin.append_ #[103,3] ty #[.slice (some ⟨b,0,none⟩) 0 n,.int .i64 (n+1)]).run Tryz.prog w= .ok (.slice (some ⟨g,0,none⟩) (n+1) a) c)
    (l: ∀ty,(Builtin.copy_ #[103,102] ty #[.slice (some ⟨g,0,none⟩) (n+1) a,.slice (some ⟨h,j,none⟩) 1 i]).run Tryz.prog c= .ok o d)
    (m: ∀ty,(Builtin.copy_ #[103,103] ty #[.slice (some ⟨g,7,none⟩) n (a-1),.slice (some ⟨b,0,none⟩) n n]).run Tryz.prog d.drew= .ok p f):
    Calls Tryz.prog 302 #[.slice (some ⟨b,0,none⟩) n n,.int .i64 0,.slice (some ⟨h,j,none⟩) 1 i] w λe w'=>e= .returned (.slice (some ⟨g,0,none⟩) (n+1) a)/\w'=f:=by
 have s: ¬(a=1):=ab;have t: ¬(a=0):=ab;have u: ¬((0:Int)=n):=ab;have v: ¬(n=0):=ab;have x:(1:Int)<=(n:Int)+1:=ab;have y:(0:Int)<=(n:Int)+1:=ab;have A:IntKind.i64.wrap 1=1:=al;have B:IntKind.i64.wrap ((n:Int)+1)=n+1:=wrap64 _ ab ab
 go_enter Tryz.func302,Tryz.ntmps302
 go_wp2_with (first
  |(at_builtin;refine Lib.wpList_append_run _ rfl _ _ _ _ rfl _ _ rfl rfl _ _ (k _) ?_)
  |(at_builtin;refine wpList_copy_runI _ rfl _ _ 103 102 rfl _ _ rfl rfl (l _) ?_))
 go_region_law (refine step_copy_runI rfl _ _ 103 103 rfl (.slice (some ⟨g,7,none⟩) n (a-1)) (.slice (some ⟨b,0,none⟩) n n) (by simp [Act.eval,Act.put]) (by simp [Act.eval,Act.put]) (m _) ?_)
 go_wp2
 go_ret
 exact ⟨rfl,rfl⟩
open Go Go.Proofs Go.Proofs.Tryz
def abI:aW l 103=some (.slice 210):=aq
def Z1:bZ l 210=some 7:=aq
def Tx:(l.T 210).any (λi=>Nat.beq i.size 7&&Nat.ble i.bytes 4096)=true:=aq
def aci:(bN l 210).any (λz=>Nat.beq z.cells.length 7&&z.cells.all J)=true:=aq
def WL (n:Nat) (e:n<=1001) (H:af): ∃c,hx l 210 7 (.int .i64) (.int .i64 (.ofNat n)) H=some (c,n):=by
 have a:=aci;unfold hx
 cases b:bN l 210 with
 |none=>grind
 | some d=>
   rw [b] at a;simp only [Option.any_some,br] at a;refine ⟨(List.replicate n d.cells).flatten,?_⟩;simp only;rw [if_pos ⟨de,a.2,ab⟩]
def uo (H:af) (i:Nat) (a b:Obj):(H.set i a).set i b=H.set i b:=by
 unfold af.set;by_cases e:i<H.n
 . simp only [e,if_true];have: ∀(d:List Obj) (c:Nat),dM (dM d c a) c b=dM d c b:=by
    intro d
    induction d with
    |nil=>intro c;rfl
    | cons g d f=>intro c;cases c with
      |zero=>rfl
      |succ c=>simp [dM,f]
   grind
 grind
def Ot {ae:aF} {b v z:aa} {xs:Array Value} (d: [b,v,z].length=xs.size) (a: ∀(i:Nat) (c:aa) (x:Value),[b,v,z][i]? =some c->xs[i]? =some x->aC ae c x): ∃x y t,xs= #[x,y,t]/\aC ae b x/\aC ae v y/\aC ae z t:=by
 obtain ⟨e⟩:=xs
 match e,d with
 | [x,y,t],_=>exact ⟨x,y,t,rfl,a 0 _ _ rfl rfl,a 1 _ _ rfl rfl,a 2 _ _ rfl rfl⟩
def xJ (H:af) (id a off len:Nat) (d ro:Nat) (cs:List aa) (s:aa) (c:List aa) (b n:Nat) (e:List aa) (f:H.get id=some (.cells a d ro cs)) (j:e4 7 H s=some (c,b)) (k:c.all J=true) (m:ro<=off)
    (h:(if Nat.ble b len then b else len)=n) (i:n≠0) (o:cB cs off (c.take (n*7))=some e):
    sV l 103 (.ref id a off 7 len false) s H=some (.int .i64 (.ofNat n),H.set id (.cells a a ro e)):=by
 have g:zc (.ref id a off 7 len false)=some len:=rfl;simp only [sV,abI,Z1,g,j,h,if_neg i,f]
 simp_all
def Yx (k n:Nat) (H:af) (id a g d ro:Nat) (l:List aa) (i:l.length=(n+1)*7) (h: ∀v∈l,D k v=true) (b:H.get id=some (.cells g d ro l)) (e:d<=a):
    aZ (k+1) (.ref id a 0 7 (n+1) false) H=some (.A (chunk 7 (n+1) l) false,H.set id (.cells g d (ll ro ((n+1)*7)) l)):=by
 have c:sub l 0 ((n+1)*7)=some l:=by simp [sub,i,fT]
 rw [aZ];simp only [b];rw [if_pos ⟨e,ab⟩];simp only [gH,c,c1,c8,qs (f:=aZ k) (vs:=l) (λv j=>ya _ v (h v j)),rf]
def Le {ae:aF} {id e b cap n:Nat} (f:aC ae (.ref id e 0 7 (n+1) false) (.slice (some ⟨b,0,none⟩) (n+1) cap)):aC ae (.ref id e 7 7 n false) (.slice (some ⟨b,7,none⟩) n (cap-1)):=by
 unfold aC at f|-;have m: ∀(h:Nat),bt ae.F ae.M ae.μ (.ref id e 0 7 (n+1) false) (.slice (some ⟨b,h,none⟩) (n+1) cap)-> ∃a d,ae.μ id e=some (b,a,d)/\(n+1)*7<=d/\cap*7=a.c/\n+1<=cap/\a.s=0:=by
  intro h f
  cases f with
  |ref _ _ _ _ _ _ _ a d _ g i j k l o p=>grind
 obtain ⟨a,d,g,i,j,k,l⟩:=m 0 f;have:=bt.ref (F:=ae.F) (M:=ae.M) id e 7 7 n false b a d (cap-1) g ab ab ai ab ab ab
 grind
theorem X7 (w:World) (a g y b h n:Nat) (R:0<n) (x:Value) (O:cellAt w a g=some x) (F: ∃c e lo j,w.heap[b]? =some (.cells c e (lo,j))/\0<c.size/\ ∀o,¬(lo<=o/\o<j)) (M:a=b->(n+1)*7<=g):
  (callFunc 350 #[.slice (some ⟨a,g,none⟩) 1 y,.slice (some ⟨b,7,none⟩) n h]).run prog w= .ok (.value (.bool false)) w:=by
 rw [run_callFunc_extern func350 aq aq aq (e:=Extern.SlicesOverlaps.overlaps #[102,102] #[4]) aq];have z: ∀(d b:Addr) (m A p h:Nat),(Extern.SlicesOverlaps.overlaps #[102,102] #[4] #[.slice (some d) m A,.slice (some b) p h]).run prog w=Sem.run prog (α:=Value) (do
  let .slice B<-underlying 102|stuck "slices.overlaps: slice type expected"
  let q<-sizeOf B
  if m=0\/p=0\/q=0 then pure (Value.bool false)
  else if d.block !=b.block&&(<-frozen d)&&(<-frozen b) then unsupported .addressObserved
  else do
   if d.block !=b.block then do
    noView d;noView b
    if<-mayBeOne d b then return Value.bool ((<-choose (.extern "sameAddr.stringBytes" 2))==1)
   pure (Value.bool (d.block==b.block&&d.off<b.off+p*q&&b.off<d.off+m*q))) w:=λ_ _ _ _ _ _=>rfl
 have P:(Extern.SlicesOverlaps.overlaps #[102,102] #[4] #[.slice (some ⟨a,g,none⟩) 1 y,.slice (some ⟨b,7,none⟩) n h]).run prog w= .ok (.bool false) w:=by
  rw [z];obtain ⟨c,e,lo,j,s,S,E⟩:=F;have G: ∀o,w.frozen? ⟨b,o,none⟩=false:=λo=>by
   unfold World.frozen?;simp only [s];have:=E o
   grind
  have u:w.shape? b=some (e,c.size):=by unfold World.shape?;rw [s]
  obtain ⟨f,i,r,N,T⟩: ∃f i r,w.heap[a]? =some (.cells f i r)/\0<f.size:=by
   unfold cellAt at O
   grind
  have t:w.shape? a=some (i,f.size):=by unfold World.shape?;rw [N]
  obtain ⟨l,J⟩: ∃l,f.size=l+1:=⟨f.size-1,ab⟩;obtain ⟨v,I⟩: ∃v,c.size=v+1:=⟨c.size-1,ab⟩;rw [J] at t;rw [I] at u;by_cases e:a=b
  . subst e;have Q:=M rfl;have: ¬(g<7+n*7):=ab;have k: ¬n=0:=ab;simp [run_underlying underlying102,sizeOf210,this,k]
  . have k: ¬n=0:=ab;have K:(a !=b)=true:=ah;have L:(a==b)=false:=ah;cases C:w.frozen? ⟨a,g,none⟩<;>cases D:w.frozen? ⟨a,l+1,none⟩<;>
     simp [run_underlying underlying102,sizeOf210,K,L,frozen,noView,viewAt,mayBeOne,stringish,shape,Sem.run,t,u,G,C,D,k]
 rw [P];rfl
def QV (args:Array Value) (w:World):(callFunc 302 args).run prog w= .ok (.enter 302 args) w:=ai
section
variable {ae:aF} {H:af} {w:World}
theorem GL (k:Q ae H w) (n id b g d ro:Nat) (l:List aa) (i:l.length=(n+1)*7) (h: ∀v∈l,D 20 v=true) (c:H.get id=some (.cells g d ro l)) (f:d<=b) {x:Value} (m:aC ae (.ref id b 0 7 (n+1) false) x):
  ∃a,Q a (H.set id .gone) w/\Fr ae.own ae a w w/\aC a (.A (chunk 7 (n+1) l) false) x/\a.μ=ae.μ:=by
 have j:=Yx 20 n H id b g d ro l i h c f;obtain ⟨s,o,p,q,r⟩:=r3 _ _ _ _ _ j ae w x k m;have t:id<H.n:=af.gW c;have e:=Ic o id (by rw [af.m7];omega);rw [uo] at e;exact ⟨s,e,p,r.n4,q⟩
theorem Ty (args:List aa) (H:af):e9 l prog 302 args H (vF args H):=by
 intro ad ae w cv R b6 bu bl;unfold vF at ad|-;split at ad
 case h_2=>grind
 rename_i id d f e aM;obtain ⟨bT,bU,bV,rfl,aQ,aR,ar⟩:=Ot bu bl;split at ad
 case h_2=>grind
 rename_i O B a aV;split at ad
 case h_2=>grind
 rename_i aS;simp only [br] at aS;obtain ⟨cf,cg,cj,cl,bP,ck,cm,bc,cn,cp,cq⟩:=aS;obtain rfl:O=d:=de;have b5:B<=O:=de;have bB:ev (O+1)=ev O:=de;have cc:a.length=f*7:=de;have ay:0<f:=er bP;have aY:f<=1000:=de;generalize O=d at*;have cd:e.length=7:=de;have aW:id<H.n:=af.gW aV;have aT: ∀p∈e++a,D 20 p=true:=ah;have aX:(e++a).length=(f+1)*7:=ah;obtain ⟨b1,bX,Z⟩:=R.obj _ _ aV;have a1:=aQ;have bH: ∃g k b,bT= .slice (some ⟨g,0,none⟩) f b/\ae.μ id d=some (g,k,a.length)/\b*7=k.c/\f<=b/\k.s=0/\Ax ae id d B 0 a w g k:=by
  unfold aC at a1
  cases a1 with
  | ref _ _ _ _ _ _ g k bY b G P Q aN aO aP bk=>
    have E:=Z.at_;grind
 obtain ⟨g,k,b,rfl,bG,b3,b4,ca,Z⟩:=bH;have bI:bU= .int .i64 0:=by unfold aC at aR;cases aR;rfl
 subst bI;have a7:=ar;have bJ: ∃y q U aK,bV= .slice (some ⟨y,q,none⟩) 1 U/\ae.F y q=some aK:=by
  unfold aC at a7
  cases a7 with
  | A _ _ b0 bR cb y q bZ G P Q aN aO aP bk=>
    have E:=aN ai;subst E;have V:=aO 0 _ rfl;exact ⟨y,q,bR,_,rfl,by simpa using aP 0 0 ai ab⟩
 obtain ⟨y,q,U,aK,rfl,bD⟩:=bJ;have bE:=R.aI _ _ _ bD;obtain ⟨bg,bh,bK,ax,bm,b2,bn⟩:=Z.free;refine .inl ⟨302,_,QV _ _,?_⟩;simp only [rf,c8];rcases qk b (f+1) with b8|aU
 ·
  obtain rfl:b=f:=ab;obtain ⟨o,ax,bs,bp⟩: ∃o,l.T 210=some o/\o.size=7/\o.bytes<=4096:=by
   have t:=Tx
   cases hT:l.T 210 with
   |none=>grind
   | some o=>
     simp_all
  obtain ⟨m,b9⟩:=WL (b+1) ab H;have bw:hx l 210 o.size (.int .i64) (.int .i64 (.ofNat (b+1))) H=some (m,b+1):=ah;obtain ⟨ba,-,cw,bW,bL,bM,bN⟩:=D5 (tm:= []) (β:=λ_=>none) (t1:=103) (t2:=3) (ty:=0) kQ.env R (aA.cA (bt.int .i64 (Int.ofNat (b+1)))) ai underlying3 ax bp bw;have bx:(Builtin.firstCells o.size 0 (.slice (some ⟨g,0,none⟩) 0 b)).run prog w.drew= .ok #[] w.drew:=by show (loadCells _ (0*o.size)).run _ _=_;rw [y0];rfl
  have X:=bN (some ⟨g,0,none⟩) 0 b #[] ab (by have:(0+(b+1))*(o.bytes+1)<=1001*4097:=kF ab ab;unfold b7;omega) bx;have W:=Bn w (0+(b+1)) b 210;obtain ⟨i,j,h,I⟩:=Ie (el:=210) (lW:= []) (old:= #[]) (sLen:=0) R ⟨rfl,λo p z t=>by cases t⟩ bL ai ba ab W (zs:=Builtin.zeroCells bW.cells (jd w (0+(b+1)) b 210-(0+(b+1)))) (by rw [Ar,bM]) 0 (λcu bA=>by simp [ev] at bA);rw [bs] at I ba;generalize jd w (0+(b+1)) b 210=bd at X W j h I;generalize w.drew.alloc _=ak at X j h;simp only [gH,a6] at I X j W;have ag: ∀p z,aC ae p z->aC i p z:=λp z t=>bt.mono t h.jO h.kH h.uC;generalize v:H.push (.cells 0 0 0 m)=r at j;have G:r.get H.n=some (.cells 0 0 0 m):=by rw [<-v];exact dL _ _
  have bb:H.n<r.n:=by rw [<-v];simp [af.push]
  have aG:cB m 0 (([e]:Y).flatten.take (1*7))=some (e++m.drop 7):=by
   unfold cB
   grind
  have al:=xJ r H.n 0 0 (b+1) 0 0 m (.A [e] aM) ([e]:Y).flatten 1 1 (e++m.drop 7) G (by simp only [e4];simp_all) ah ab ai ab aG;obtain ⟨J,aD,V,C,au,-⟩:=u7 (tm:= []) (β:=λ_=>none) (ty:=0) kQ.env (ats:= #[103,102]) rfl j (aA.cA I) (aA.cA (ag _ _ ar)) al;generalize x:r.set H.n (.cells 0 0 0 (e++m.drop 7))=u at C;have P:u.get H.n=some (.cells 0 0 0 (e++m.drop 7)):=by rw [<-x,af.k_ _ j.len _ _ bb,if_pos rfl]
  have bj:u.get id=some (.cells d B 0 a):=by rw [<-x,af.k_ _ j.len _ _ bb,if_neg ab,<-v,pW _ _ _ aW];omega
  have ct:sub a 0 (b*7)=some a:=by
   unfold sub
   grind
  have aH:cB (e++m.drop 7) 7 (a.take (b*7))=some (e++a):=by unfold cB;rw [fT ab,if_pos ah,vT ab,fT ab,tv ah,fw]
  have an:=xJ u H.n 0 7 b 0 0 (e++m.drop 7) (.ref id d 0 7 b false) a b b (e++a) P (by simp only [e4,bj];grind) bc ab ai ab aH;obtain ⟨bf,aE,ao,aB,av,-⟩:=u7 (tm:= []) (β:=λ_=>none) (ty:=0) kQ.env (ats:= #[103,103]) rfl C.drew (aA.cA (Le I)) (aA.cA (ag _ _ aQ)) an;refine (TA w ak J bf aD aE g y q U _ bd b ay aY W (λaj=>X) (λaj=>V) (λaj=>ao)).mono ?_;rintro E bS ⟨rfl,rfl⟩;have Q:(u.set H.n (.cells 0 0 0 (e++a))).get H.n=some (.cells 0 0 0 (e++a)):=by rw [af.k_ _ C.len _ _ (by rw [<-x,af.m7];omega),if_pos rfl]
  obtain ⟨aL,S,aw,az,-⟩:=GL aB b H.n 0 0 0 0 (e++a) aX aT Q ab I;rw [uo,<-x,uo,<-v,o_] at S;have bC:=Ic S id (by simp only [af.push];omega);have K:=h.trans au h.iP;have L:=K.trans (Fr.rr (ae:=i) (w:=J) (w':=J.drew) rfl rfl rfl rfl) K.iP;have N:=L.trans av L.iP;have aq:=N.trans aw N.iP;exact ⟨_,_,aL,rfl,bC,aq,az⟩
 ·
  have bz:=X7 w y q U g (b-1) f ay aK bE ⟨bg,bh,bK,ax,bm,ab,λbO=>bn bO ab⟩ (λE=>by
   subst E;rcases qk q k.c with t|t
   . have:=Z.wr q ab t ab
     grind
   . omega)
  have aZ:=YA R;have bo:(H.push .gone).get id=some (.cells d B 0 a):=by rw [pW _ _ _ aW];omega
  obtain ⟨j,h⟩:=Rn aZ bo bG 7 ab bB;generalize bF:ae.ch id (d+1) (g,k,a.length+7)=i at j h;have a8:i.μ id (d+1)=some (g,k,a.length+7):=by rw [<-bF];simp [aF.ch]
  have ag: ∀p z,aC ae p z->aC i p z:=λp z t=>bt.mono t h.jO h.kH h.uC;generalize v:(H.push .gone).set id (.cells (d+1) B 0 (a++List.replicate 7 .bad))=r at j;have bq:id<r.n:=by rw [<-v,af.m7];simp only [af.push];omega
  have G:r.get id=some (.cells (d+1) B 0 (a++List.replicate 7 .bad)):=by rw [<-v,af.k_ _ aZ.len _ _ (by simp only [af.push];omega),if_pos rfl]
  have aJ:aC i (.ref id (d+1) 0 7 (f+1) false) (.slice (some ⟨g,0,none⟩) (f+1) b):=by
   unfold aC;have:=bt.ref (F:=i.F) (M:=i.M) id (d+1) 0 7 (f+1) false g k (a.length+7) b a8 ab ab ai ab aU ab
   grind
  have bQ:aC i (.ref id (d+1) 0 7 f false) (.slice (some ⟨g,0,none⟩) f b):=by
   unfold aC;have:=bt.ref (F:=i.F) (M:=i.M) id (d+1) 0 7 f false g k (a.length+7) b a8 ab ab ai ab ab ab
   grind
  have cr:sub (a++List.replicate 7 aa.bad) 0 (f*7)=some a:=by
   unfold sub
   grind
  have aG:cB (a++List.replicate 7 aa.bad) 7 (a.take (f*7))=some (a.take 7++a):=by unfold cB;rw [fT ab,if_pos da,vT ab,tv ah,fw]
  have al:=xJ r id (d+1) 7 f B 0 (a++List.replicate 7 .bad) (.ref id (d+1) 0 7 f false) a f f (a.take 7++a) G (by simp only [e4,G];grind) bc ab ai ab aG;obtain ⟨ak,aD,V,C,au,-⟩:=u7 (tm:= []) (β:=λ_=>none) (ty:=0) kQ.env (ats:= #[103,103]) rfl j.drew (aA.cA (Le aJ)) (aA.cA bQ) al;generalize x:r.set id (.cells (d+1) (d+1) 0 (a.take 7++a))=u at C;have P:u.get id=some (.cells (d+1) (d+1) 0 (a.take 7++a)):=by rw [<-x,af.k_ _ j.len _ _ bq,if_pos rfl]
  have aH:cB (a.take 7++a) 0 (([e]:Y).flatten.take (1*7))=some (e++a):=by unfold cB;rw [show ([e]:Y).flatten=e by simp,fT ab,if_pos ah];simp only [gH,List.take_zero,a6];rw [qh ah,tv da,a6]
  have an:=xJ u id (d+1) 0 (f+1) (d+1) 0 (a.take 7++a) (.A [e] aM) ([e]:Y).flatten 1 1 (e++a) P (by simp only [e4];simp_all) ah ab ai ab aH;obtain ⟨J,aE,ao,aB,av,-⟩:=u7 (tm:= []) (β:=λ_=>none) (ty:=0) kQ.env (ats:= #[103,102]) rfl C (aA.cA aJ) (aA.cA (ag _ _ ar)) an;refine (TB w ak J aD aE g b y q U f ay aY aU bz (λaj=>(Qt _ _ _ _ _ _ _ _ _ b b).trans V) (λaj=>ao)).mono ?_;rintro E bS ⟨rfl,rfl⟩;have Q:(u.set id (.cells (d+1) (d+1) 0 (e++a))).get id=some (.cells (d+1) (d+1) 0 (e++a)):=by rw [af.k_ _ C.len _ _ (by rw [<-x,af.m7];omega),if_pos rfl]
  obtain ⟨aL,S,aw,az,-⟩:=GL aB f id (d+1) (d+1) (d+1) 0 (e++a) aX aT Q ab aJ;rw [uo,<-x,uo,<-v,uo] at S;have K:Fr ae.own ae i w w.drew:=h.trans (Fr.rr (ae:=i) (w:=w) (w':=w.drew) rfl rfl rfl rfl) h.iP;have L:=K.trans au K.iP;have N:=L.trans av L.iP;have aq:=N.trans aw N.iP;exact ⟨_,_,aL,rfl,S,aq,az⟩
end
def KJ (args:List aa) (H:af):e9 l prog 302 args H (mZ args H):=by
 unfold mZ;split
 . next c a b=>
   have:=Ty args H
   grind
 . exact Hp kQ 1 302 args H
def KW:pU l prog R 289 (.cL r0):=Yb (fn:=f289) func289 aq aq aq aq
def Ys:pU l prog R 302 (.cL mZ):=KJ
def HB (f:Nat) (x:iW) (a:hl f=some x):pU l prog R f x:=by
 unfold hl at a;split at a
 . rename_i b;cases a;rw [gk b];exact KW
 split at a
 . rename_i b;cases a;rw [gk b];exact Ys
 exact YU f x a
def kI:uN l prog R hl:=⟨kQ,λa _ _ b=>HB a _ b,λa _ b=>HB a _ b⟩
abbrev akw:hj:= []
abbrev aia:hj:=(246,xC,By)::akw
abbrev aj4:hj:=(137,Bd,GU)::aia
abbrev aj5:hj:=(72,Bj,GY)::aj4
abbrev akm:hj:=(22,Bh,nA)::aj5
abbrev akn:hj:=(17,Bg,GX)::akm
abbrev ako:hj:=(26,Bi,Bz)::akn
abbrev akp:hj:=(9,Bk,GZ)::ako
abbrev ahZ:hj:=(16,Bf,GW)::akp
abbrev akz:hj:=(10,A_,GQ)::ahZ
abbrev ail:hj:=(10,Ba,Bx)::akz
abbrev ahY:hj:=(14,Be,GV)::ail
abbrev akx:hj:=(11,Bb,GR)::ahY
abbrev air:hj:=(11,Bc,GS)::akx
abbrev aky:hj:=(8,[],.bool true)::air
set_option maxRecDepth 1000000
def P2:iD xC By (hJ l R 100000 (iq akw hl) 1000 246 xC af.empty)=true:=by decide+kernel
def P3:iD Bd GU (hJ l R 100000 (iq aia hl) 1000 137 Bd af.empty)=true:=by decide+kernel
def P8:iD Bj GY (hJ l R 100000 (iq aj4 hl) 1000 72 Bj af.empty)=true:=by decide+kernel
def P9:iD Bh nA (hJ l R 100000 (iq aj5 hl) 1000 22 Bh af.empty)=true:=by decide+kernel
def P_:iD Bg GX (hJ l R 100000 (iq akm hl) 1000 17 Bg af.empty)=true:=by decide+kernel
def Qa:iD Bi Bz (hJ l R 100000 (iq akn hl) 1000 26 Bi af.empty)=true:=by decide+kernel
def Qb:iD Bk GZ (hJ l R 100000 (iq ako hl) 1000 9 Bk af.empty)=true:=by decide+kernel
def Qc:iD Bf GW (hJ l R 100000 (iq akp hl) 1000 16 Bf af.empty)=true:=by decide+kernel
def Qd:iD A_ GQ (hJ l R 100000 (iq ahZ hl) 1000 10 A_ af.empty)=true:=by decide+kernel
def Qe:iD Ba Bx (hJ l R 100000 (iq ahZ hl) 1000 10 Ba af.empty)=true:=by decide+kernel
def P4:iD Be GV (hJ l R 100000 (iq ail hl) 1000 14 Be af.empty)=true:=by decide+kernel
def P5:iD Bb GR (hJ l R 100000 (iq ahY hl) 1000 11 Bb af.empty)=true:=by decide+kernel
def P6:iD Bc GS (hJ l R 100000 (iq ahY hl) 1000 11 Bc af.empty)=true:=by decide+kernel
def P7:iD [] (.bool true) (hJ l R 100000 (iq air hl) 1000 8 [] af.empty)=true:=by decide+kernel
def n0:gy l prog []:= .nil
def ln:gy l prog aia:=n0.cons n0 kI P2
def nZ:gy l prog aj4:=ln.cons ln kI P3
def tW:gy l prog aj5:=nZ.cons nZ kI P8
def wi:gy l prog akm:=tW.cons tW kI P9
def zi:gy l prog akn:=wi.cons wi kI P_
def zj:gy l prog ako:=zi.cons zi kI Qa
def Kf:gy l prog akp:=zj.cons zj kI Qb
def D2:gy l prog ahZ:=Kf.cons Kf kI Qc
def WG:gy l prog akz:=D2.cons D2 kI Qd
def Kd:gy l prog ail:=WG.cons D2 kI Qe
def D1:gy l prog ahY:=Kd.cons Kd kI P4
def WD:gy l prog akx:=D1.cons D1 kI P5
def Ke:gy l prog air:=WD.cons D1 kI P6
def WE:gy l prog aky:=Ke.cons Ke kI P7
def TZ (us H):e9 l prog 246 us H (rZ xC By us H):=ln 246 us H
def T0 (us H):e9 l prog 8 us H (ua 8 aky us H):=WE 8 us H
theorem YY (f:Nat): ∀c,fl G R f c=fl l R f c:=by
 intro c
 induction c with
 |region id i h=>cases h<;>rfl
 |seq a g d e=>simp only [fl,d,e]
 |cond j a g d e=>simp only [fl,d,e]
 |block n a b=>simp only [fl,b]
 |loop a b=>simp only [fl,b]
 |_=>rfl
def aaN:uQ G prog R where
 env:=⟨kQ.env.Fx,kQ.env.T,kQ.env.fns,kQ.env.nD,kQ.env.dH⟩
 mixed:=kQ.mixed
 regions:=λe h f i j=>(YY e f).trans (kQ.regions e h f i j)
 cL :=λe k a d c=>by
  have a:Ew e=some k:=a;unfold Ew at a;split at a
  . rename_i b;cases a;rw [gk b];exact TZ d c
  split at a
  . rename_i b;cases a;rw [gk b];exact KW d c
  split at a
  . rename_i b;cases a;rw [gk b];exact Yc _ d c
  split at a
  . rename_i b;cases a;rw [gk b];exact KJ d c
  split at a
  . rename_i b;cases a;rw [gk b];intro g
    cases d with
    |nil=>exact T0 [] c g
    |cons l m=>exact absurd rfl g
  . cases a
def ao4 (args:Array Value) (w:World):(callFunc 5 args).run prog w= .ok (.enter 5 args) w:=Go.Proofs.enters_of func5 aq rfl args w
def XC (W:World) (C:jD G (eS W)) (c0:Array Value) (p:Nat) (O:p<=1048576)
    (z:kd prog W (eS W).M 31 c0.toList p):
    Calls prog 5 #[.agg c0] W λe i=>e= .returned (.bool true)/\ ∃h,Fr (eS W).own (eS W) h W i:=by
 obtain ⟨o,t,J,ai⟩:=z;obtain ⟨ah,ae,Q,Y,T,ag,S,V,U,Z,B,A⟩:=N0 (N:=E o) ab J (aT _);obtain ⟨g,D⟩:=aq0 B A;obtain ⟨b,e⟩: ∃b,b=aa.bool true/\ ∀u,az G (X G R g g) 5 [.agg o] af.empty u= .ok b u af.empty:=by
  rcases D g g (aT _) (aT _) af.empty ⟨rfl,λP F=>by cases F⟩ with m|⟨_,m,-⟩
  . exact m
  . exact m.elim
 obtain ⟨rfl,e⟩:=e;have e:=e [];have r:=G2 (β:=λ_=>none) (tm:= []) (λy x v=>Hp (ad:=g) aaN g y x v) (ab1 W) C (f:=5) (args:= [.agg o]) (xs:= #[.agg c0]) rfl (λs b k c d=>by
  match s,c,d with
  | 0,c,d=>
    cases c;cases d;exact aA.cA (.agg _ _ (by rw [t.1];simp) λI b k c d=>t.2 I b k c (by simpa using d))
  |s+1,c,d=>cases c) (by rw [e];simp)
 rw [e] at r;have H: ∀j i,sx (eS W) W [] (.ok (.bool true) [] af.empty) j i->j= .returned (.bool true)/\ ∃h,Fr (eS W).own (eS W) h W i:=by
  intro j i n
  cases j with
  | returned k=>
    obtain ⟨b,w,h,a,-,l,q⟩:=n;cases a;unfold aC at q;cases q;exact ⟨rfl,h,l⟩
  | panicked K=>
    obtain ⟨b,w,h,a,-⟩:=n;cases a
  |outgrown=>exact n.elim
 rcases r with ⟨L,ak,a,l⟩|⟨k,aj,a,-⟩
 . rw [ao4] at a;cases a;exact l.mono H
 . rw [ao4] at a;cases a
end Go.aj
