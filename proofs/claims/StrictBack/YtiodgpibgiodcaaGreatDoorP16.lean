/- A part of the proof. -/
import Derived.KernelRfl
import Derived.Shelf.Lays
import Derived.Shelf.Slices.In.SortNone
import Derived.Shelf.Sort.Plain
import Derived.Test.YtiodgpibgiodcaaGreatDoorP00
import Derived.Test.YtiodgpibgiodcaaGreatDoorP02
import Derived.Test.YtiodgpibgiodcaaGreatDoorP03
import Derived.Test.YtiodgpibgiodcaaGreatDoorP07
import Derived.Test.YtiodgpibgiodcaaGreatDoorP09
import Derived.Test.YtiodgpibgiodcaaGreatDoorP10
import Derived.Test.YtiodgpibgiodcaaGreatDoorP15
import Derived.Test.YtiodgpibgiodcaaGreatDoorProg
set_option linter.all false
set_option maxHeartbeats 4000000
namespace Go.aj
open Go Go.Proofs.Tryz
set_option maxRecDepth 100000
def ah8 (kN jv rop j3:Y) (t:ak1):Prop:=(∃b a,(ah5 t b a).isSome=true)/\ah6 kN jv rop j3 t=true
section
variable {kN jv rop j3:Y}
theorem aiV {t:ak1} (a:aid kN jv rop j3 t=true):ah8 kN jv rop j3 t:=by unfold aid aix at a;simp only [br] at a;exact ⟨⟨_,_,a.1⟩,a.2⟩
theorem ah8.n {k v:Int} {l1 m1 c d:Nat} {ky i:List ak1} (e:ah8 kN jv rop j3 (.n k v l1 m1 c d ky i)):ah3 k v l1 m1 c d ky.length=true/\i= []/\ ∀t∈ky,ah8 kN jv rop j3 t:=by obtain ⟨⟨l,j,f⟩,a⟩:=e;obtain ⟨g,h⟩:=ajR f;rw [ah6,ajo] at a;simp only [br,List.isEmpty_iff,ba] at a;exact ⟨g,a.1.2,λt b=>⟨⟨_,h t b⟩,a.2.1 t b⟩⟩
theorem ah8.l {v:Int} {l1 m1 b c:Nat} {ky i:List ak1} (d:ah8 kN jv rop j3 (.n 7 v l1 m1 b c ky i)):ak1.n 7 v l1 m1 b c ky i=aiK ky:=by obtain ⟨a,rfl,-⟩:=d.n;simp [ah3,ra] at a;obtain ⟨⟨rfl,rfl,rfl⟩,rfl,rfl⟩:=a;rfl
theorem ah8.a {v:Int} {l1 m1 c d:Nat} {ky i:List ak1} (e:ah8 kN jv rop j3 (.n 5 v l1 m1 c d ky i)):ak1.n 5 v l1 m1 c d ky i=aiA l1 m1 ky:=by obtain ⟨b,rfl,-⟩:=e.n;simp [ah3,ra] at b;obtain ⟨⟨-,rfl⟩,rfl,rfl⟩:=b;rfl
end
section
variable {kN jv rop j3 aJ p ahI:Y}
theorem aju {C:List aa} {B:Nat} (bl:B<90000) (I:ek B C) (U:ah8 kN jv (eZ rop) (j3.map ct) (ah2 C)) {r:List aa} {l m:Nat} {args st:Y} {ls ms aZ j:Nat} (g:FL rop r l m args ls ms st aZ j) {u:Sub}
  (X:sd kN jv (eZ rop) (j3.map ct) l m (hh args) C []=some u) {c:List aa} (T:l_ (cj u 4 (Cc l m args j)) c):
  ek (B+32) c/\aip c=true/\ ∃a b,args[j]? =some [.str a b]/\ ∃e aE,f (M c 4)=e::aE/\aE.length=(f (M C 4)).length/\(∃x,dw u (j+2)=some x/\ah2 e=ah2 x/\aN x)/\
  ∃L,sc kN jv (eZ rop) (j3.map ct) a b (fe l) (gD l m j) ((hh args).eraseIdx j) c []=some L/\ah2 (cj L 4 (A7 l m args j))=ah2 C:=by
 have aP:=(Al g.Ef.hS g.FX).1;have H:=g.gE;obtain ⟨a7,a8,Z,a1,bg,ad,bj,K,a6,rfl,A,bn,bx,bC,q,bF,rfl,-,-⟩:=Md ab aP I X;obtain ⟨x,y,aT,aS,aW⟩:=ajA ab g I A X;obtain ⟨ar,aM⟩:=ajZ A X;have aY:=SB ⟨g.Ef.c5,g.cQ⟩ g.Ef.hS g.FX H;have au:ek (B+32) c:=T.abS (vg a7 ab a8 al aY);obtain ⟨bh,bk,aA,bs,ag,ah,-,s,-⟩:=ajq T.wt (T.iU.trans aW);obtain ⟨e,E,bB,rfl⟩: ∃e E F,aA=e::E::F:=by
  cases aA with
  |nil=>cases s
  | cons e Z=>cases Z with
    |nil=>simp at s
    |cons E F=>exact ⟨e,E,F,rfl⟩
 simp only [fS,jn] at s;obtain ⟨O,s,ae⟩:=s;obtain ⟨aF,bG,aB,bt,aj,aL,-,P,-⟩:=ajq (ah E ai) s;obtain rfl:=ag.eq;obtain rfl:=aj.eq;have Q:f bh=_:=bm ag.dh;have R:f aF=aB:=bm aj.dh;obtain ⟨a,b,aq,aX⟩:=Nq g.Ef.hS H;have aR:aB.length=args.length-1:=by have:=congrArg List.length P;rw [di,aiX,di,if_pos ab] at this;omega
 have aD: ∀ {D K:List aa},aN D->aN K->ah2 D=ah2 K->eh kN (eZ rop) (j3.map ct) D=eh kN (eZ rop) (j3.map ct) K:=λt V i=>by rw [<-aiw t,<-aiw V,i]
 have aw: ∀x∈f q,aN x:=by have:=I.kids.2 _ (show _∈f ad by rw [A];exact dF ..);exact λx y=>(this.kids.2 x y).wt
 have az:=aw x (aV y);have V:ja kN jv (eh kN (eZ rop) (j3.map ct) e).1 (eh kN (eZ rop) (j3.map ct) e).2 a b=true:=by rw [aD (ah e ai) az O];exact ar j _ x (by rw [aiO];exact H) aX y
 have aQ:aio kN jv (eZ rop) (j3.map ct) ((hh args).eraseIdx j) (f aF) ((hh args).eraseIdx j).length:=λh D F _ t W=>by
  rw [aiI] at t;rw [R] at W;have o:=congrArg (·[h]?) P;simp only [hO,W,aiI,jV] at o;obtain ⟨v,av⟩: ∃v,v=if h<j then h else h+1:=⟨_,rfl⟩
  have aG:(if h<j then (hh args)[h]? else (hh args)[h+1]?)=(hh args)[v]? :=by rw [av];split<;>rfl
  have aH:(if h<j then Option.map ah2 (f q)[h]? else Option.map ah2 (f q)[h+1]?)=Option.map ah2 (f q)[v]? :=by rw [av];split<;>rfl
  rw [aG] at t;rw [aH] at o
  cases J:(f q)[v]? with
  |none=>rw [J] at o;cases o
  | some aC=>
    rw [J] at o;simp only [jV,N] at o;rw [aD (aL F (aV W)) (aw aC (aV J)) o];exact ar v D aC (by have:=(e6.1 t).1;exact this) t J
 obtain ⟨L,ay⟩:=ajY (c:=a) (d:=b) (k:= .i64) (n:= .int .i64 0) (w:= .str 0 0) (z:=bk) Q (by rw [aiX,aiO,if_pos H,R,aR]) V aQ aM;obtain ⟨-,bf,ba,bb,bc,bd⟩:=ajx ab g aq au Q ay;have aK:bf=(f q).map ah2:=erase_eq (j:=j) (by rw [bb,hO,y,O];rfl) (by rw [ba,di];exact aS) (by rw [bc,R,P]);have aI:ah2 [.int Z 7,a1,.str 0 0,bg,ad,bj]=aiK (aiA l m ((f q).map ah2)::a6.map ah2):=by obtain ⟨bp,bA,_,_,_,_,bE,bI,br,bw,S,ao,aO⟩:=I.wt.ea;rw [ah9 S ao aO] at U|-;have i:=S.eq;simp only [jn,aa.int.injEq,aa.str.injEq,and_true] at i;obtain ⟨⟨rfl,rfl⟩,rfl,⟨rfl,rfl⟩,rfl,rfl,rfl⟩:=i;rw [U.l];have af:=bm S.dh;rw [A] at af;subst af;have aU:=ao _ (dF ..);obtain ⟨bo,bz,_,_,_,_,bD,bH,bq,bu,G,ak,an⟩:=aU.ea;have ax:=U.n.2.2 _ (C3 (dF ..));rw [fS,ah9 G ak an];rw [ah9 G ak an] at ax;have i:=G.eq;simp only [jn,aa.int.injEq,aa.str.injEq,and_true] at i;obtain ⟨⟨rfl,rfl⟩,rfl,⟨rfl,rfl⟩,rfl,rfl,rfl⟩:=i;rw [ax.a,bm G.dh]
 refine ⟨au,rfl,a,b,aq,e,_,Q,?_,⟨x,aT,O,az⟩,L,ay,?_⟩
 . show _=(f ad).length;rw [A];have:=congrArg List.length ae;simp only [di] at this;simp [this]
 . rw [bd,aK,aI,ae]
def aiR (p kN jv rop j3:Y) (t:List aa) (m:List aa) (h:Option Sub) (g:oj) (n:List aa):Prop:= ∃l c d b j k o i a e f,FL rop l c d b j k o i a/\b[a]? =some [.str e f]/\m=ah4 (kl p c d b a)/\h=sc kN jv (eZ rop) (j3.map ct) e f (fe c) (gD c d a) ((hh b).eraseIdx a) t []/\g= []/\n=A7 c d b a
theorem ajw {r:List aa} {l m:Nat} {args st:Y} {ls ms a j:Nat} (c:FL rop r l m args ls ms st a j):kl p l m args j∈kO p false true rop:=by
 obtain ⟨b,g,i,h,ac,rfl,n,o,-⟩:=c.Ef.eq;have d:f (M [.str l m,b,.str ls ms,g,.int .i64 h,.int .i64 ac,i] 6)=st:=bm o;have e:=c.dp;refine fC.2 ⟨_,c.mem,fC.2 ⟨a,by rw [d];exact h9.2 (e6.1 e).1,?_⟩⟩;have k:iR [.str l m,b,.str ls ms,g,.int .i64 h,.int .i64 ac,i] a=j:=by unfold iR;rw [d,e];rfl
 show _∈ []++ [kl p l m (f b) (iR _ a)];rw [k,bm n];simp
theorem ajv {l m a b j c:Nat} {args d:Y} (w:T l m) (w':T a b) (e:ah4 (kl p l m args j)=ah4 (kl p a b d c)):l=a/\m=b/\j=c:=by have f:=(List.cons.inj (List.cons.inj e).2).1;simp only [wH,cm,aa.A.injEq,jn,aa.str.injEq] at f;exact aiU w w' de de
variable (aja:gf kN jv rop j3 aJ)
include aja
theorem ajU {t:List aa} {B:Nat} (ad:B<1000000) (E:ek B t) {r:List aa} {l m:Nat} {args st:Y} {ls ms X j a b:Nat} (e:FL rop r l m args ls ms st X j) (R:args[j]? =some [.str a b]) {u:Sub}
  (D:sc kN jv (eZ rop) (j3.map ct) a b (fe l) (gD l m j) ((hh args).eraseIdx j) t []=some u) (T:aid kN jv (eZ rop) (j3.map ct) (ah2 (cj u 4 (A7 l m args j)))=true) {v:aa}
  (O:pB kN jv (eZ rop) (j3.map ct) aJ ((kO p false true rop).map ah4) (aiR p kN jv rop j3 t) v): ∃c,v= .av [.agg c,.int .i64 0]/\l_ (cj u 4 (A7 l m args j)) c:=by
 have F: ∀ {y:List aa} {n o:Nat} {h z:Y} {w x s g i k:Nat},FL rop y n o h w x z s g->h[g]? =some [.str i k]->n=l->o=m->g=j->h=args/\i=a/\k=b:=λ{y n o h z w x s g i k} d f J K q=>by subst J K q;obtain rfl:=ai3 aja.v e.mem d.mem e.Ef d.Ef;obtain ⟨-,-,rfl,-⟩:=e.Ef.uniq d.Ef;rw [R] at f;simp only [N,jn,aa.str.injEq,and_true] at f;exact ⟨rfl,f.1.symm,f.2.symm⟩
 rcases O with ⟨rfl,U⟩|⟨au,H,G,Z,ay,c,⟨y,n,o,h,w,x,z,s,g,i,k,d,f,-,rfl,-,rfl⟩,A,-,-,-,S,rfl⟩
 . exfalso;obtain ⟨H,G,Z,⟨y,n,o,h,w,x,z,s,g,i,k,d,f,I,rfl,rfl,rfl⟩,V⟩:=U _ (C3 (ajw (p:=p) e));obtain ⟨rfl,rfl,rfl⟩:=ajv e.Ef.c5 d.Ef.c5 I;obtain ⟨rfl,rfl,rfl⟩:=F d f rfl rfl rfl;exact V ⟨u,D,rfl,T⟩
 . have P:=((Al e.Ef.hS e.FX).1).erase j;have Q:=((Al d.Ef.hS d.FX).1).erase g;obtain ⟨-,-,ae,ai,az,aD,aH,an,ao,aw,rfl,W,-,af,aj,aA,aE,aI,rfl,-,-⟩:=Mc ab P E D;obtain ⟨-,-,ag,ak,aB,aF,aK,aq,ar,ax,q,C,-,ah,al,aC,aG,aL,rfl,-,-⟩:=Mc ab Q E A;simp only [jn,and_true] at q;obtain ⟨-,-,-,-,rfl,-⟩:=q;rw [W] at C;simp only [jn,aa.str.injEq] at C;obtain ⟨-,⟨-,-,⟨L,M⟩,-⟩,-⟩:=C;obtain ⟨rfl,rfl,rfl⟩:=aiU e.Ef.c5 d.Ef.c5 L M;obtain ⟨rfl,rfl,rfl⟩:=F d f rfl rfl rfl;rw [D] at A;cases A;exact ⟨c,rfl,S⟩
end
def ai6 (kN jv rop j3 aJ:Y) (d g:List aa) (ad n:Nat) (H:af):Prop:=
    (∃b h,aN b/\(∀a,az G (X G R ad (n+2)) 10 [.agg d,.agg g] H a= .ok (.av [.agg b,.int .i64 h]) a H)/\(h=0-> ∃c,aN c/\(∀a,az G (X G R ad (n+2)) 11 [.agg d,.agg b] H a= .ok (.av [.agg c,.int .i64 0]) a H)/\(∀a,az G (X G R ad (n+2)) 12 [.agg c,.agg g] H a= .ok (.bool true) a H)/\
     ∃e i,f (M b 4)=e::i/\i.length=(f (M g 4)).length/\aN e/\ ∀s∈EP kN jv (eZ rop) (j3.map ct) aJ,oz s kN jv (eZ rop) (j3.map ct) aJ-> ∀a,az G (X G R ad (n+2)) 13 [.agg s,.agg e] H a= .ok (.bool false) a H))/\
    ∃ b h,aN b/\(∀a,az G (X G R ad (n+2)) 14 [.agg d,.agg g] H a= .ok (.av [.agg b,.int .i64 h]) a H)/\(h=0-> ∃c,aN c/\(∀a,az G (X G R ad (n+2)) 11 [.agg d,.agg g] H a= .ok (.av [.agg c,.int .i64 0]) a H)/\(∀a,az G (X G R ad (n+2)) 12 [.agg c,.agg b] H a= .ok (.bool true) a H)/\
      ∃e j i,f (M g 4)=e::j::i/\aN e/\ ∀s∈EP kN jv (eZ rop) (j3.map ct) aJ,oz s kN jv (eZ rop) (j3.map ct) aJ-> ∀a,az G (X G R ad (n+2)) 13 [.agg s,.agg e] H a= .ok (.bool true) a H)
section
variable {d s:List aa} {kN jv rop j3 aJ ahJ p aU ahI:Y} (aX:fz d s kN jv rop j3 aJ ahJ p aU ahI)
include aX
theorem ajV {ax:aa} (u:pI rop kN jv j3 aJ ax) (r:gf kN jv rop j3 aJ) (q:lD p rop ahI) {t:List aa} {B:Nat} (o:B<=100000) (x:ek B t): ∀c∈(kO p false true rop).map ah4,∃f e j,sz ax t c f e j/\aiR p kN jv rop j3 t c f e j:=λc A=>by
 obtain ⟨P,C,rfl⟩:=cd.1 A;obtain ⟨N,z,F,H,l,G,I,O,E,D,a,K,b,h,L,M,i,y⟩:=LD aX.bT.op r.v q C;rcases y with ⟨n,-⟩|⟨-,rfl⟩
 . cases n
 . obtain ⟨Q,w⟩:=u;obtain ⟨J,g⟩:=bA b;obtain ⟨k,m,rfl,-⟩:=a.hS J ah;exact ⟨_,_,_,(Zh w o x ⟨a.c5,i⟩ a.hS h b g).ajT,N,F,H,l,G,I,O,E,D,k,m,⟨z,a,K,b,h,L,M,i⟩,g,rfl,rfl,rfl,rfl⟩
theorem ajE (i:gf kN jv rop j3 aJ) (h:lD p rop ahI) {s:List aa} (k:oz s kN jv (eZ rop) (j3.map ct) aJ) {q:List aa} (j:aN q) (b:ah8 kN jv (eZ rop) (j3.map ct) (ah2 q)):K 13 [.agg s,.agg q] (.bool (l7 kN jv (eZ rop) (j3.map ct) aJ q)):=by obtain ⟨t,B,x,z,y,A,C,D,u,w,a,f,g⟩:=j.ea;rw [ah9 a f g] at b;obtain ⟨⟨r,o,c⟩,e⟩:=b;obtain ⟨l,m,n⟩:=ajS i.v aX.bT.op h c e;have:=ajN k a l m n;rw [a.eq] at this|-;exact this
variable (nO:oA kN jv rop j3 aJ ahJ p aU ahI)
include nO
theorem ajI {t:List aa} {B:Nat} (w:B<=100000) (g:ek B t):bo λad n=> ∀f H,Tidy H->NT p rop ahI kN jv j3 aJ f->(∀tm,az G (X G R ad n) 9 [.agg d] H tm= .ok f tm H)->ai5 f=0->aip t=true->aid kN jv (eZ rop) (j3.map ct) (ah2 t)=true->
  ∀r l m args ls ms st i j a b u,FL rop r l m args ls ms st i j->args[j]? =some [.str a b]->sc kN jv (eZ rop) (j3.map ct) a b (fe l) (gD l m j) ((hh args).eraseIdx j) t []=some u->aid kN jv (eZ rop) (j3.map ct) (ah2 (cj u 4 (A7 l m args j)))=true->
  ∃c,l_ (cj u 4 (A7 l m args j)) c/\ ∀tm,az G (X G R ad (n+2)) 11 [.agg d,.agg t] H tm= .ok (.av [.agg c,.int .i64 0]) tm H:=by
 obtain ⟨K,q⟩:=Va aX nO g.wt;obtain ⟨L,v⟩:=aku aX g (b:=false) (P9:=aiR p kN jv rop j3 t) (.inr (.inr ⟨rfl,rfl,rfl⟩)) λN a b c=>ajV aX a b c w g;refine ⟨K+L,λad n U V f H h J o A E D r l m args ls ms st i j a b u x z F C=> ?_⟩;obtain ⟨M,I,k⟩:=q ad n ab ab f H h J o;obtain ⟨W,e,O⟩:=v ad (n+1) ab ab M _ H h I k;rw [A] at e;rcases e with ⟨Q,-⟩|⟨-,y,S,e⟩
 . omega
 rw [if_pos (by rw [E,D];rfl)] at e;obtain ⟨c,rfl,T⟩:=ajU y ab g x z F C e
 grind
theorem aje {k:List aa} {B:Nat} (q:ek B k) {P:List aa->Option Sub->oj->List aa->Prop} {f:Nat} {b:Bool} (z:f=10/\b=true\/f=14/\b=false) (I: ∀ax,pI rop kN jv j3 aJ ax->gf kN jv rop j3 aJ->lD p rop ahI-> ∀r∈kO p b (!b) rop,∃i h a,sz ax k r i h a/\P r i h a):bo λad n=> ∀l H,Tidy H->NT p rop ahI kN jv j3 aJ l->(∀tm,az G (X G R ad n) 9 [.agg d] H tm= .ok l tm H)->
  ∃c e,aN c/\(e=0->ai5 l=0/\gf kN jv rop j3 aJ/\lD p rop ahI/\aip k=true/\aid kN jv (eZ rop) (j3.map ct) (ah2 k)=true/\ ∃r i h a u,P r i h a/\i=some u/\vv kN jv (eZ rop) (j3.map ct) aJ h u=true/\aid kN jv (eZ rop) (j3.map ct) (ah2 (cj u 4 a))=true/\l_ (cj u 4 a) c)/\
  ∀tm,az G (X G R ad (n+2)) f [.agg d,.agg k] H tm= .ok (.av [.agg c,.int .i64 e]) tm H:=by
 obtain ⟨E,x⟩:=Va aX nO q.wt;obtain ⟨F,o⟩:=aku aX q (P9:=P) (f:=f) (b:=b) (g:=id) (by rcases z with m|m<;>simp [m]) (by simpa using I);simp only [ahT] at o;refine ⟨E+F,λad n S T l H t D w=> ?_⟩;obtain ⟨J,C,v⟩:=x ad n ab ab l H t D w;obtain ⟨U,j,e⟩:=o ad (n+1) ab ab J _ H t C v;rcases j with ⟨m,rfl⟩|⟨m,N,K,j⟩
 . exact ⟨_,_,w7,ab,e⟩
 split at j
 . rename_i A;simp only [br] at A;rcases j with ⟨rfl,-⟩|⟨r,i,h,a,u,c,M,L,-,O,⟨-,Q⟩,y,rfl⟩
   . exact ⟨_,_,w7,ab,e⟩
   . exact ⟨_,_,y.wt,ah,e⟩
 . subst j;exact ⟨_,_,w7,ab,e⟩
omit aX nO in
theorem ah8.ajj {t:List aa} (hw:aN t) (h:ah8 kN jv (eZ rop) (j3.map ct) (ah2 t)): ∀q∈f (M t 4),aN q/\ah8 kN jv (eZ rop) (j3.map ct) (ah2 q):=by
 obtain ⟨k,n,l1,m1,gJ,mQ,y,z,ky,i,aS,bG,dS⟩:=hw.ea;rw [ah9 aS bG dS] at h;obtain ⟨rfl,dh,-⟩:=aS.c;intro q kx;have kx:q∈ky:=by rw [<-bm dh];exact kx
 exact ⟨bG q kx,h.n.2.2 _ ah⟩
omit nO in
theorem ajF (rows:Y):bo λad n=> ∀q∈rows,aN q->ah8 kN jv (eZ rop) (j3.map ct) (ah2 q)->gf kN jv rop j3 aJ->lD p rop ahI-> ∀s∈EP kN jv (eZ rop) (j3.map ct) aJ,oz s kN jv (eZ rop) (j3.map ct) aJ-> ∀H tm,Tidy H->az G (X G R ad n) 13 [.agg s,.agg q] H tm= .ok (.bool (l7 kN jv (eZ rop) (j3.map ct) aJ q)) tm H:=
 dE (l:=rows) (Q:=λq ad n=>aN q->ah8 kN jv (eZ rop) (j3.map ct) (ah2 q)->gf kN jv rop j3 aJ->lD p rop ahI-> ∀s∈EP kN jv (eZ rop) (j3.map ct) aJ,oz s kN jv (eZ rop) (j3.map ct) aJ-> ∀H tm,Tidy H->az G (X G R ad n) 13 [.agg s,.agg q] H tm= .ok (.bool (l7 kN jv (eZ rop) (j3.map ct) aJ q)) tm H) λq _=>by
  by_cases kx:aN q/\ah8 kN jv (eZ rop) (j3.map ct) (ah2 q)/\gf kN jv rop j3 aJ/\lD p rop ahI
  . obtain ⟨r4,r5,K1,K2⟩:=kx;obtain ⟨k,h⟩:=dE (l:=EP kN jv (eZ rop) (j3.map ct) aJ) (Q:=λs ad n=>oz s kN jv (eZ rop) (j3.map ct) aJ-> ∀H tm,Tidy H->az G (X G R ad n) 13 [.agg s,.agg q] H tm= .ok (.bool (l7 kN jv (eZ rop) (j3.map ct) aJ q)) tm H) λs _=>by
     by_cases bB:oz s kN jv (eZ rop) (j3.map ct) aJ
     . obtain ⟨k,h⟩:=ajE aX K1 K2 bB r4 r5;exact ⟨k,ah⟩
     exact ⟨0,λ_ _ _ _ h=>absurd h bB⟩
    exact ⟨k,ah⟩
  exact ⟨0,λ_ _ _ _ a b c d=>absurd ⟨a,b,c,d⟩ kx⟩
theorem ajD {g:List aa} (r:ek 1500 g):bo λad n=> ∀H,Tidy H->ai6 kN jv rop j3 aJ d g ad n H:=by
 obtain ⟨bm,bb⟩:=(U5 aX nO).val;obtain ⟨bn,bc⟩:=aje aX nO r (f:=10) (b:=true) (P:=λ_=>FK rop kN jv j3 g) (.inl ⟨rfl,rfl⟩) λaQ a c q=>Zg aX a c q al r;obtain ⟨bp,bd⟩:=aje aX nO r (f:=14) (b:=false) (P:=λ_=>FJ rop kN jv j3 g) (.inr ⟨rfl,rfl⟩) λaQ a c q=>Zf aX a c q al r;obtain ⟨B,bH⟩:=ajr (rop:=rop) (R:=λk m j e q=> ∃o,sd kN jv (eZ rop) (j3.map ct) k m (hh j) g []=some o/\l_ (cj o 4 (Cc k m j e)) q) λk m j e q aR ⟨o,a,c⟩ ⟨an,K,u⟩=>by rw [a] at K;cases K;exact c.uniq u
 obtain ⟨ar,bI⟩:=ajr (rop:=rop) (R:=λk m j e q=> ∃a c o,j[e]? =some [.str a c]/\sc kN jv (eZ rop) (j3.map ct) a c (fe k) (gD k m e) ((hh j).eraseIdx e) g []=some o/\l_ (cj o 4 (A7 k m j e)) q) λk m j e q aR ⟨a,c,o,ao,bD,bE⟩ ⟨K,u,an,aq,aK,bF⟩=>by rw [ao] at aq;simp only [N,jn,aa.str.injEq,and_true] at aq;obtain ⟨rfl,rfl⟩:=aq;rw [bD] at aK;cases aK;exact bE.uniq bF
 obtain ⟨bq,au⟩:bo λad n=> ∀i∈g::B,ek 1532 i->_:=dE (l:=g::B) (Q:=λi ad n=>ek 1532 i->_) λi _=>by
  by_cases S:ek 1532 i
  . obtain ⟨Y,y⟩:=ajI aX nO al S;exact ⟨Y,λad n a c _=>y ad n a c⟩
  . exact ⟨0,ah⟩
 obtain ⟨br,av⟩:=dE (l:=g::ar) (Q:=λi ad n=>aN i-> ∀a,aN a->ah2 a=ah2 i-> ∀H t,Tidy H->az G (X G R ad n) 12 [.agg a,.agg i] H t= .ok (.bool true) t H) λi _=>by
  by_cases S:aN i
  . obtain ⟨Y,y⟩:=ajK S;exact ⟨Y,ah⟩
  . exact ⟨0,ah⟩
 obtain ⟨bt,bf⟩:=ajF aX ((g::B).flatMap λi=>f (M i 4));refine ⟨bm+bn+bp+bq+br+bt,λad n bJ bL H w=> ?_⟩;obtain ⟨J,I,C⟩:=bb ad n ab ab H w;obtain ⟨A,aV,aH,a7,aS⟩:=bc ad n ab ab J H w I C;obtain ⟨ak,aW,aI,a8,aT⟩:=bd ad n ab ab J H w I C;refine ⟨⟨A,aV,aH,aS,λy=> ?_⟩,ak,aW,aI,aT,λy=> ?_⟩
 . obtain ⟨T,ax,aw,aB,E,_,aM,aL,bw,o,⟨ag,k,m,j,ae,af,aj,Z,e,v,rfl,rfl,rfl⟩,F,U,V,D⟩:=a7 y;obtain ⟨bz,bu,a,c,O,h,bx,bA,bB,⟨ao,bN,a6,bC⟩,an,bk,a1⟩:=aju al r (aiV E) v F D;have bh:A∈B:=ah;have aA:aid kN jv (eZ rop) (j3.map ct) (ah2 A)=true:=by rw [D.iU];exact V
   obtain ⟨u,x,L⟩:=au ad n ab ab A ah bz J H w I C T bu aA ag k m j ae af aj Z e a c an v O bk ah;have W:h∈f (M A 4):=ah;obtain ⟨z,aF⟩:=ah8.ajj aH (aiV aA) h W;refine ⟨u,x.wt,L,λt=>av ad (n+2) ab ab g ai r.wt u x.wt (x.iU.trans a1) H t w,h,bx,bA,bB,z,λs aC ay t=> ?_⟩;have aD:l7 kN jv (eZ rop) (j3.map ct) aJ h=false:=by
    have bG:l7 kN jv (eZ rop) (j3.map ct) aJ h=l7 kN jv (eZ rop) (j3.map ct) aJ ao:=by unfold l7;rw [<-aiw z,<-aiw bC,a6]
    obtain ⟨aO,aP,-,bM⟩:=Nq v.Ef.hS v.gE;have:=ba.1 U (false,e+2,aO,aP) (by unfold nL;grind)
    grind
   rw [<-aD];exact bf ad (n+2) ab ab h ah z aF ax aw s aC ay H t w
 . obtain ⟨T,ax,aw,aB,E,_,aM,aL,bw,o,⟨ag,k,m,j,ae,af,aj,Z,e,a,c,v,O,rfl,rfl,rfl⟩,F,U,V,D⟩:=a8 y;have bh:ak∈ar:=ah;obtain ⟨u,x,L⟩:=au ad n ab ab g ai (r.mono al) J H w I C T aB E ag k m j ae af aj Z e a c o v O F V;have bg:=((Al v.Ef.hS v.FX).1).erase e;obtain ⟨-,-,bO,bP,bQ,bR,bS,h,aE,aG,aZ,bj,-,_,_,_,_,_,-,-,bl⟩:=Mc al bg r F;have aY:f (M g 4)=h::aE::aG:=by rw [aZ];exact bj
   have W:h∈f (M g 4):=ah;obtain ⟨z,aF⟩:=ah8.ajj r.wt (aiV E) h W;refine ⟨u,x.wt,L,λt=>av ad (n+2) ab ab ak ah aI u x.wt (x.iU.trans D.iU.symm) H t w,h,aE,aG,aY,z,λs aC ay t=> ?_⟩;have bK:(dw o 1).getD eb=h:=by rw [bl];rfl
   have aD:l7 kN jv (eZ rop) (j3.map ct) aJ h=true:=by
    have:=ba.1 U _ (bs.2 rfl)
    grind
   grind
end
section
variable {d s:List aa} {kN jv rop j3 aJ ahJ p aU ahI:Y} (aX:fz d s kN jv rop j3 aJ ahJ p aU ahI)
include aX
theorem ajC (bS: ∀r∈rop++j3,pA r) {w:List aa} (aH:aN w):dt 3 [.agg d,.agg w] (λv=>v= .bool true) bQ:=by
 obtain ⟨ck,bI⟩:=U_;obtain ⟨cl,aF⟩:=Vl aX bS aH;obtain ⟨cn,aG⟩:bo λi g=>oA kN jv rop j3 aJ ahJ p aU ahI->bL [w] 1500->(∀b,Tidy b-> ∃v,NT p rop ahI kN jv j3 aJ v/\ ∀a,az G (X G R i (g+2)) 9 [.agg d] b a= .ok v a b)/\ ∀b,Tidy b->ai6 kN jv rop j3 aJ d w i g b:=by
  by_cases E:oA kN jv rop j3 aJ ahJ p aU ahI/\bL [w] 1500
  . obtain ⟨o,aO⟩:=E;have Z:ek 1500 w:=(aO.g_ (bs.2 rfl)).1.abS.mono (aO.g_ (bs.2 rfl)).2;obtain ⟨cq,bJ⟩:=(U5 aX o).val;obtain ⟨cr,bK⟩:=ajD aX o Z;exact ⟨cq+cr,λi g b1 b4 _ _=>⟨λb h=>bJ i (g+2) ab ab b h,λb h=>bK i g ab ab b h⟩⟩
  . exact ⟨0,λ_ _ _ _ aT a1=>absurd ⟨aT,a1⟩ E⟩
 have b6:=λ(o:oA kN jv rop j3 aJ ahJ p aU ahI) (E:gf kN jv rop j3 aJ) (b3:lD p rop ahI) {ar Q aj Y au:aa} (H:F ar kN) (I:F Q jv) (K:F aj (eZ rop)) (L:F Y (j3.map ct)) (N:F au aJ)=>abR aX o E b3 H I K L N;have bX:=aX.eq;obtain ⟨dr,bB,cJ,dg,cC,cL,ds,dw,rfl,⟨cR,cZ,rfl,dy,dn⟩,ca,cd,⟨cQ,cY,rfl,dx,dm⟩,cc,cg,⟨cS,c1,rfl,dz,dp⟩,⟨cT,c2,rfl,dA,dq⟩⟩:=bX;obtain ⟨ar,Q,aj,Y,au,rfl,ch,b9,cf,cb,cj⟩:=aX.bT.eq;simp only [bl,a6] at aF aG|-;have b0:=aH;obtain ⟨cu,cG,aV,aW,aY,aZ,cU,c3,z,di,aP,c9,-⟩:=b0.ea;have db:=aP.zm;obtain ⟨rfl,j,bR⟩:=aP.c;refine aL.run (m:=106) rfl rfl rfl rfl rfl rfl rfl rfl (ck+cl+cn+10) λi g b1 b4 b h=> ?_;obtain ⟨g,rfl⟩: ∃cD,g=cD+2:=⟨g-2,ab⟩;have S:=λa=>bI i (g+2) ab ab b a h;obtain ⟨P,bU,aA⟩:=aF i (g+2) ab ab b h;have ax:ak (λv=>v= .bool true) bQ b (.ret (.bool true) b):=ak.mk rfl rfl h (U.refl _);refine ak.bM (λa e=>b=e/\aM 108 [(2,.W 0 [.str cR cZ,ar,Q,aj,Y,au,bB,cJ,.str cQ cY,cC,cL,.str cS c1,.str cT c2]),(3,.W 0 [.int .i64 cu,.int .i64 cG,.str aV aW,.str aY aZ,cU,c3])] a) ?_ ?_
 . simp only [go_sem,ch.J,b9.J,cf.J,cb.J,cj.J,ca.J,cd.J,cc.J,cg.J,j.J,bR.J];exact an.mk ⟨rfl,dC⟩
 rintro a _ ⟨rfl,hF⟩
 cases P with
 | false=>
   simp only [go_sem,hF,aA,S];exact ax
 |true=>
 obtain ⟨-,o,hT⟩:=bU rfl;obtain ⟨bP,Z⟩:=aG i g ab ab o hT;obtain ⟨v,⟨bc,bd,bj,bk,bn,bp,bq,br,bt,bu,bf,bg,bh,B,rfl,b5,bW⟩,bE⟩:=bP b h;have ok:=λcP b7=>(b5 cP b7).1;refine ak.bF hF (λf a e=>b=e/\f a) ?_ ?_
 . simp only [go_sem,hF,aA];exact an.mk ⟨rfl,ay⟩
 clear hF;rintro a _ ⟨rfl,hF⟩;refine ak.kp [2,3] (λf a e=>b=e/\ ∃aR,M a 5= .W aR [bc,bd,bj,bk,bn,bp,bq,br,bt,bu,bf,bg,bh]/\M a 6= .int .i64 B/\f a) ?_ ?_
 . simp only [go_sem,hF,bE,ok,b2,true_or,or_true];exact an.mk ⟨rfl,_,by simp only [go_sem,hF];trivial⟩
 clear hF;rintro a _ ⟨rfl,aR,hF⟩;by_cases ad:B=0
 rotate_left
 . have ao:(B !=0)=true:=by simpa using ad
   simp only [go_sem,hF,ao,S];exact ax
 have ao:(B !=0)=false:=by simpa using ad
 obtain ⟨bO,bN,H,I,K,L,N⟩:=bW ad;have aK:=b6 o bO bN H I K L N;have aI:=ZB H I K L N;obtain ⟨⟨du,C,cM,bD,bG⟩,dv,D,cN,bC,bH⟩:=Z b h;refine ak.kp [2,3,5] (λf a e=>b=e/\f a) ?_ ?_
 . simp only [go_sem,hF,ao];exact an.mk ⟨rfl,ay⟩
 clear hF;rintro a _ ⟨rfl,hF⟩;obtain ⟨cm,cE,P,a7,a8,ba,cV,c4,cx,dj,b8,c8,-⟩:=cM.ea;obtain ⟨rfl,y,bV⟩:=b8.c;refine ak.kp [2,3,5] (λf a e=>b=e/\ ∃aS,M a 7= .W aS [.int .i64 cm,.int .i64 cE,.str P a7,.str a8 ba,cV,c4]/\M a 8= .int .i64 C/\f a) ?_ ?_
 . simp only [go_sem,hF,bD,y.J,bV.J];exact an.mk ⟨rfl,_,by simp only [go_sem,hF];trivial⟩
 clear hF;rintro a _ ⟨rfl,aS,hF⟩;have cO:IntKind.i64.wrap (((z.length:Nat):Int)+1)=((z.length+1:Nat):Int):=by rw [wrap64 _ ab ab];omega
 refine ak.kp [2,3,5] (λf a e=>b=e/\f a) ?_ ?_
 . by_cases n:C=0
   . obtain ⟨bb,av,T,V,al,x,u,aw,A,l⟩:=bG n;have u:cx=al::x:=by rw [<-bm y];exact u
     have aw:x.length=z.length:=by rw [<-bm j];exact aw
     have l:=l _ aI aK;subst u;have ag:=y.vJ (k:=6) rfl A.len;have q:(C==0)=true:=by simpa using n
     have aq:(((List.length x+1:Nat):Int) !=((z.length+1:Nat):Int))=false:=by rw [aw];simp
     obtain ⟨cv,cH,bw,bx,bz,bA,cW,c5,cy,cA,rfl,ae,af⟩:=av.t;obtain ⟨cw,cI,aB,aC,aD,aE,c0,c7,cz,cB,rfl,ah,ai⟩:=A.t;simp only [go_sem,hF,q,T,ae.J,af.J,V,y.O,y.len,j.O,j.len,cO,aq,ag,ah.J,ai.J,ok,b2,true_or,or_true,l];exact an.mk ⟨rfl,ay⟩
   . have q:(C==0)=false:=by simpa using n
     simp only [go_sem,hF,q];exact an.mk ⟨rfl,ay⟩
 clear hF;rintro a _ ⟨rfl,hF⟩;obtain ⟨cp,cF,aB,aC,aD,aE,cX,c6,dh,dk,rfl,bY,bZ⟩:=cN.t;refine ak.kp [2,3,5] (λf a e=>b=e/\ ∃aQ,M a 11= .W aQ [.int .i64 cp,.int .i64 cF,.str aB aC,.str aD aE,cX,c6]/\M a 12= .int .i64 D/\f a) ?_ ?_
 . simp only [go_sem,hF,bC,bY.J,bZ.J];exact an.mk ⟨rfl,_,by simp only [go_sem,hF];trivial⟩
 clear hF;rintro a _ ⟨rfl,aQ,hF⟩;refine ak.kp [2,3] (λf a e=>b=e/\f a) ?_ ?_
 . by_cases n:D=0
   . obtain ⟨bb,av,T,V,al,cK,x,u,A,l⟩:=bH n;have u:z=al::cK::x:=by rw [<-bm j];exact u
     have l:=l _ aI aK;subst u;have ag:=j.vJ (k:=6) rfl A.len;have q:(D==0)=true:=by simpa using n
     have aq:decide (((List.length x+1+1:Nat):Int)<2)=false:=da;obtain ⟨cv,cH,bw,bx,bz,bA,cW,c5,cy,cA,rfl,ae,af⟩:=av.t;obtain ⟨cw,cI,dc,dd,de,df,c0,c7,cz,cB,rfl,ah,ai⟩:=A.t;simp only [go_sem,hF,q,T,ae.J,af.J,V,j.O,j.len,aq,ag,ah.J,ai.J,ok,b2,true_or,or_true,l];exact an.mk ⟨rfl,ay⟩
   . have q:(D==0)=false:=by simpa using n
     simp only [go_sem,hF,q];exact an.mk ⟨rfl,ay⟩
 clear hF;rintro a _ ⟨rfl,hF⟩;simp only [go_sem,hF,S];exact ax
end
end Go.aj
namespace Go.Proofs
open Go.Shelf
def Tryz.VY:Go.Shelf.Ren:=⟨λ|190=>194|125=>255|258=>254|128=>323|129=>324|302=>314|303=>315|304=>316|305=>317|306=>318|307=>319|308=>320|309=>321|310=>322|333=>357|329=>358|330=>359|334=>360|335=>361|336=>298|344=>377|n=>n,λ|31=>22|9=>9|3=>3|46=>260|0=>0|51=>295|53=>309|4=>4|183=>321|182=>320|131=>207|5=>5|218=>346|222=>288|228=>365|229=>241|n=>n,λ|n=>n⟩
def Tryz.JR:Go.Proofs.Lays.n190 Tryz.prog Tryz.VY:= {
 mixed:=by kernel_rfl,
 f125:=Tryz.func255.trans (congrArg some (by kernel_rfl)),
 f128:=Tryz.func323.trans (congrArg some (by kernel_rfl)),
 f129:=Tryz.func324.trans (congrArg some (by kernel_rfl)),
 f190:=Tryz.func194.trans (congrArg some (by kernel_rfl)),
 f258:=Tryz.func254.trans (congrArg some (by kernel_rfl)),
 f302:=Tryz.func314.trans (congrArg some (by kernel_rfl)),
 f303:=Tryz.func315.trans (congrArg some (by kernel_rfl)),
 f304:=Tryz.func316.trans (congrArg some (by kernel_rfl)),
 f305:=Tryz.func317.trans (congrArg some (by kernel_rfl)),
 f306:=Tryz.func318.trans (congrArg some (by kernel_rfl)),
 f307:=Tryz.func319.trans (congrArg some (by kernel_rfl)),
 f308:=Tryz.func320.trans (congrArg some (by kernel_rfl)),
 f309:=Tryz.func321.trans (congrArg some (by kernel_rfl)),
 f310:=Tryz.func322.trans (congrArg some (by kernel_rfl)),
 f329:=Tryz.func358.trans (congrArg some (by kernel_rfl)),
 f330:=Tryz.func359.trans (congrArg some (by kernel_rfl)),
 f333:=Tryz.func357.trans (congrArg some (by kernel_rfl)),
 f334:=Tryz.func360.trans (congrArg some (by kernel_rfl)),
 f335:=Tryz.func361.trans (congrArg some (by kernel_rfl)),
 f336:=Tryz.func298.trans (congrArg some (by kernel_rfl)),
 f344:=Tryz.func377.trans (congrArg some (by kernel_rfl)),
 t0:=Tryz.underlying0,
 a0:=Tryz.isAgg0,
 z0:=Tryz.sizeOf0,
 v0:=Tryz.zeroValue0,
 t3:=Tryz.underlying3,
 a3:=Tryz.isAgg3,
 z3:=Tryz.sizeOf3,
 v3:=Tryz.zeroValue3,
 t4:=Tryz.underlying4,
 a4:=Tryz.isAgg4,
 z4:=Tryz.sizeOf4,
 v4:=Tryz.zeroValue4,
 t5:=Tryz.underlying5,
 a5:=Tryz.isAgg5,
 z5:=Tryz.sizeOf5,
 v5:=Tryz.zeroValue5,
 t9:=Tryz.underlying9,
 a9:=Tryz.isAgg9,
 z9:=Tryz.sizeOf9,
 v9:=Tryz.zeroValue9,
 t31:=Tryz.underlying22,
 a31:=Tryz.isAgg22,
 z31:=Tryz.sizeOf22,
 v31:=Tryz.zeroValue22,
 t46:=Tryz.underlying260,
 a46:=Tryz.isAgg260,
 z46:=Tryz.sizeOf260,
 v46:=Tryz.zeroValue260,
 t51:=Tryz.underlying295,
 a51:=Tryz.isAgg295,
 z51:=Tryz.sizeOf295,
 v51:=Tryz.zeroValue295,
 t53:=Tryz.underlying309,
 a53:=Tryz.isAgg309,
 z53:=Tryz.sizeOf309,
 v53:=Tryz.zeroValue309,
 t131:=Tryz.underlying207,
 a131:=Tryz.isAgg207,
 z131:=Tryz.sizeOf207,
 v131:=Tryz.zeroValue207,
 t182:=Tryz.underlying320,
 a182:=Tryz.isAgg320,
 z182:=Tryz.sizeOf320,
 v182:=Tryz.zeroValue320,
 t183:=Tryz.underlying321,
 a183:=Tryz.isAgg321,
 z183:=Tryz.sizeOf321,
 v183:=Tryz.zeroValue321,
 t218:=Tryz.underlying346,
 a218:=Tryz.isAgg346,
 z218:=Tryz.sizeOf346,
 v218:=Tryz.zeroValue346,
 t222:=Tryz.underlying288,
 a222:=Tryz.isAgg288,
 z222:=Tryz.sizeOf288,
 v222:=Tryz.zeroValue288,
 t228:=Tryz.underlying365,
 a228:=Tryz.isAgg365,
 z228:=Tryz.sizeOf365,
 v228:=Tryz.zeroValue365,
 t229:=Tryz.underlying241,
 a229:=Tryz.isAgg241,
 z229:=Tryz.sizeOf241,
 v229:=Tryz.zeroValue241}
end Go.Proofs
namespace Go.aj
open Go.Sort Go.Proofs
set_option maxRecDepth 100000
def Mq {cs a:List aa} {off n:Nat} (b:sub cs off n=some a):a.length=n/\off+n<=cs.length/\ ∀j,j<n->cs[off+j]? =a[j]? :=by
 unfold sub at b;split at b
 . next d=>
   cases b;refine ⟨by rw [h6,oW];omega,d,λj c=> ?_⟩;rw [CX,if_pos c,List.getElem?_drop]
 . cases b
def Zq {ae:aF} {H:af} {w:World} (l:Q ae H w) {id c off d B b o cap len:Nat} {cs a:List aa} (k:aC ae (.ref id c off 1 len false) (.slice (some ⟨b,o,none⟩) len cap)) (q:H.get id=some (.cells c d B cs)) (t:d<=c)
    (m:sub cs off len=some a):b<w.heap.size/\ ∀j,j<len-> ∃(v:aa) (x:Value),a[j]? =some v/\w.cell? ⟨b,o+j,none⟩=some x/\aC ae v x/\w.frozen? ⟨b,o+j,none⟩=false:=by
 obtain ⟨E,V,u⟩:=Mq m;unfold aC at k
 cases k with
 | ref _ _ _ _ _ _ F h D J g L M O P R S=>
   obtain ⟨G,C,e⟩:=l.obj _ _ q;have f:=e.at_;rw [g] at f;simp only [N,bz] at f;obtain ⟨rfl,rfl,rfl⟩:=f;refine ⟨l.e3 _ _ _ _ _ g,λj y=> ?_⟩;have r:=(e.cont c b h cs.length t g).2;have i:j<a.length:=ab;obtain ⟨x,z,A⟩:=r (off+j) a[j] ab ab (by rw [u j y,lj i]);refine ⟨a[j],x,lj i,?_,A,?_⟩
   . rw [sP,<-z];congr 1;omega
   . obtain ⟨I,K,X,U,n,T,p⟩:=e.free;have W:=e.room;unfold World.frozen?;simp only [n];have:=p (off-h.s+j) ab;simpa using this
def F9 {ae:aF} {v:aa} {xs:Array Value} (b: [v].length=xs.size) (a: ∀(i:Nat) (u:aa) (x:Value),[v][i]? =some u->xs[i]? =some x->aC ae u x): ∃x,xs= #[x]/\aC ae v x:=by
 obtain ⟨c⟩:=xs
 match c,b with
 | [x],_=>exact ⟨x,rfl,a 0 _ _ rfl rfl⟩
def Hd (args:Array Value) (w:World):(callFunc 194 args).run Tryz.prog w= .ok (.enter 194 args) w:=enters_of Tryz.func194 aq rfl args w
def aan (a off cap:Nat) (b:List (List UInt8)) (w:World) (c:Holds encStr w a off b.toArray) (d:a<w.heap.size) (f:b.length<4611686018427387904):
    Calls Tryz.prog 194 #[.slice (some ⟨a,off,none⟩) b.length cap] w λe w'=>
     e= .returned (.tuple #[])/\ ∃n g,w'=grow (putRow encStr (Sort.ahead w n) a off (b.mergeSort λx y=>decide (x<=y)).toArray) g:=
 Any.slices_Sort_string Tryz.JR a off cap b w c d f
def aao (p:Option Addr) (cap:Nat) (w:World):Calls Tryz.prog 194 #[.slice p 0 cap] w λe w'=>e= .returned (.tuple #[])/\w'=w:=
 Any.slices_Sort_string_none Tryz.JR p cap w
def o8 (b:List UInt8):Nat×Nat:=(b.length,cV b)
def V1 (a b:List UInt8):decide (a<=b)=JT (o8 a) (o8 b):=by
 show _= !js b.length (cV b) a.length (cV a);rw [Gq,bytesLess_eq];by_cases c:b<a
 . have: ¬a<=b:=λd=>d c;simp [c,this]
 . have:a<=b:=c;simp [c,this]
def aak (a:List (List UInt8)):(a.mergeSort λx y=>decide (x<=y)).map o8=eW (a.map o8):=List.map_mergeSort λb _ c _=>V1 b c
def Mp: ∀ {a:List aa} {l:List (Nat×Nat)},sg a=some l->a=l.map λp=>aa.str p.1 p.2
 | [],l,b=>by cases b;rfl
 | d ::a,l,b=>by
   cases d with
   | str f g=>
     simp only [sg] at b
     cases c:sg a with
     |none=>rw [c] at b;cases b
     |some e=>rw [c] at b;cases b;rw [Mp c];rfl
   |_=>cases b
def H8 {P:Nat->List UInt8->Prop}: ∀(l:List (Nat×Nat)) (o:Nat),(∀j p,l[j]? =some p-> ∃b:List UInt8,o8 b=p/\P (o+j) b)-> ∃c:List (List UInt8),c.map o8=l/\ ∀j b,c[j]? =some b->P (o+j) b
 | [],o,_=>⟨[],rfl,λj b a=>by simp at a⟩
 | p ::l,o,a=>by
   obtain ⟨b,h,i⟩:=a 0 p rfl;obtain ⟨c,k,m⟩:=H8 (P:=P) l (o+1) λj q n=>by obtain ⟨b,f,g⟩:=a (j+1) q (by simpa using n);exact ⟨b,f,by rw [show o+1+j=o+(j+1) by omega];exact g⟩
   refine ⟨b::c,by rw [fS,h,k],λj e d=> ?_⟩
   cases j with
   |zero=>simp at d;subst d;exact i
   | succ j=>
     have:=m j e (by simpa using d);rw [show o+(j+1)=o+1+j by omega];exact this
def Yc (E:Env) (args:List aa) (H:af):e9 E Tryz.prog 194 args H (qC args H):=by
 intro a M o aG v aA I C;unfold qC at a|-;split at a
 case h_3=>exact absurd rfl a
 case h_1=>
  obtain ⟨g,rfl,b⟩:=F9 I C;unfold aC at b;cases b;refine .inl ⟨194,_,Hd _ _,(aao none 0 o).mono ?_⟩;rintro t ao ⟨rfl,rfl⟩;exact ⟨_,_,M,rfl,v,Fr.refl λ_ j=>j,.av [] #[] rfl λe z g j=>by cases j⟩
 rename_i id az aE x;obtain ⟨g,rfl,b⟩:=F9 I C;split at a
 case h_2=>exact absurd rfl a
 rename_i ay ax aF aw F;split at a
 case h_2=>exact absurd rfl a
 rename_i Y;obtain ⟨rfl,ag,X,ad⟩:=of_decide_eq_true Y;split at a
 case h_2=>exact absurd rfl a
 rename_i ar K;split at a
 case h_2=>exact absurd rfl a
 rename_i w Z;split at a
 case h_2=>exact absurd rfl a
 rename_i au ak;have D:=Mp Z;obtain ⟨N,aD,-⟩:=Mq K;have L:=b;unfold aC at L;obtain ⟨i,n,s,rfl⟩: ∃i n s,g= .slice (some ⟨i,n,none⟩) x s:=by cases L;exact ⟨_,_,_,rfl⟩
 obtain ⟨W,ah⟩:=Zq v b F X K;have ae:w.length=x:=by rw [<-N,D,di]
 obtain ⟨c,J,T⟩:=H8 (P:=λd f=>o.cell? ⟨i,d,none⟩=some (encStr f)/\o.frozen? ⟨i,d,none⟩=false) w n λd y q=>by
  have aB:=(e6.1 q).1;obtain ⟨z,A,p,u,B,R⟩:=ah d ab;rw [D,hO,q] at p;cases p;unfold aC at B
  cases B with
  | str f _ _ O Q=>
    refine ⟨f.data.toList,?_,?_,R⟩
    . unfold o8;rw [show f.data.toList.length=f.size from vM,O,show cV f.data.toList=et f from rfl,Q]
    . rw [u]
 have aj:c.length=x:=by rw [<-ae,<-J,di]
 have S:Holds encStr o i n c.toArray:=λd q=>by
  have G:d<c.length:=by simpa using q
  have:=T d c[d] (lj G);refine ⟨?_,this.2⟩;rw [this.1];simp [G]
 subst aj;refine .inl ⟨194,_,Hd _ _,(aan i n s c o S W ad).mono ?_⟩;rintro t ao ⟨rfl,al,an,rfl⟩;simp only [bu,c8];have r:=aak c;rw [J] at r;generalize U:(c.mergeSort λg A=>decide (g<=A))=h at r;have V:h.length=c.length:=by rw [<-U];exact List.length_mergeSort c
 obtain ⟨p,u⟩:=aam Tryz.prog v b F ag (vs:=(eW w).map λy=>aa.str y.1 y.2) encStr h.toArray (by simpa using V)
  ⟨by rw [<-r];simp,λe z g k b=>by
   rw [<-r,hO,hO] at k;rw [yF] at b;have t:h.toArray[e]? =h[e]? :=ai;rw [t] at b
   cases m:h[e]? with
   |none=>rw [m] at k;cases k
   |some aq=>rw [m] at k b;cases k;cases b;exact .str _ _ _ (by simp [ByteArray.size,o8]) (by simp [et,o8])⟩
  (λe A l=>by
   rw [yF] at l
   cases m:h.toArray[e]? with
   |none=>rw [m] at l;cases l
   |some aq=>rw [m] at l;cases l;rfl) ak al an
 exact ⟨_,_,M,rfl,p,u,.av [] #[] rfl λe z g j=>by cases j⟩
open Go Go.Proofs.Tryz
noncomputable abbrev FU (f n:Nat) (fn:Func):iW:=y8 l R f 1 n (la 1) (sf 1) fn
abbrev NX (f n:Nat) (fn:Func):Prop:=pU l prog R f (FU f n fn)
def NU {f n:Nat} {fn:Func} (b:l.fns f=some fn) (a:oX l f 1 n (la 1) fn=true):NX f n fn:=Dp l R f 1 n (la 1) (sf 1) (B9 1) (E1 1) fn rfl b a
noncomputable abbrev FV (f n:Nat) (fn:Func):iW:=y8 l R f 2 n (la 2) (sf 2) fn
abbrev NY (f n:Nat) (fn:Func):Prop:=pU l prog R f (FV f n fn)
def NV {f n:Nat} {fn:Func} (b:l.fns f=some fn) (a:oX l f 2 n (la 2) fn=true):NY f n fn:=Dp l R f 2 n (la 2) (sf 2) (B9 2) (E1 2) fn rfl b a
noncomputable abbrev FW (f n:Nat) (fn:Func):iW:=y8 l R f 3 n (la 3) (sf 3) fn
abbrev NZ (f n:Nat) (fn:Func):Prop:=pU l prog R f (FW f n fn)
def NW {f n:Nat} {fn:Func} (b:l.fns f=some fn) (a:oX l f 3 n (la 3) fn=true):NZ f n fn:=Dp l R f 3 n (la 3) (sf 3) (B9 3) (E1 3) fn rfl b a
noncomputable def EC (f:Nat):Option iW:=match l.fns f with
 |none=>none
 | some fn=>some (match Nat.ble fn.ntmps 8 with
   |true=>FU f fn.ntmps fn
   | false=>match Nat.ble fn.ntmps 64 with
     |true=>FV f fn.ntmps fn
     |false=>FW f fn.ntmps fn)
noncomputable def JC (f:Nat):Bool:=match l.fns f with
 |none=>true
 | some fn=>match Nat.ble fn.ntmps 8 with
   |true=>oX l f 1 fn.ntmps (la 1) fn
   | false=>match Nat.ble fn.ntmps 64 with
     |true=>oX l f 2 fn.ntmps (la 2) fn
     |false=>oX l f 3 fn.ntmps (la 3) fn
def T1:(List.range 410).all JC=true:=by decide+kernel
def YU (f:Nat) (x:iW) (a:EC f=some x):pU l prog R f x:=by
 unfold EC at a
 cases c:l.fns f with
 |none=>rw [c] at a;cases a
 | some fn=>
   have b:=ba.1 T1 f (h9.2 (Fh c));unfold JC at b;rw [c] at a b;dsimp only at a b
   cases d:Nat.ble fn.ntmps 8 with
   |true=>rw [d] at a b;cases a;exact NU c b
   | false=>
     rw [d] at a b;dsimp only at a b
     cases e:Nat.ble fn.ntmps 64 with
     |true=>rw [e] at a b;cases a;exact NV c b
     |false=>rw [e] at a b;cases a;exact NW c b
def V7: ∀e u,l.dH e u=true-> ∀a,1<=a->liesAt prog prog.depth e a 0 u 1=true:=λ_ _ b=>by cases b
end Go.aj
