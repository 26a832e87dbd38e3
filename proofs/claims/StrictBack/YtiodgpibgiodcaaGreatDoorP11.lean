/- A part of the proof. -/
import Derived.Test.YtiodgpibgiodcaaGreatDoorP00
import Derived.Test.YtiodgpibgiodcaaGreatDoorP07
import Derived.Test.YtiodgpibgiodcaaGreatDoorP10
set_option linter.all false
set_option maxHeartbeats 4000000
namespace Go.aj
open Go Go.Proofs.Tryz
set_option maxRecDepth 100000
def f:aa->Y
 | .A a _=>a
 |_=> []
theorem bm {x rows} (a:F x rows):f x=rows:=by rcases a with ⟨rfl,rfl⟩|⟨b,rfl⟩<;>rfl
def aN.row {r} (a:aN r):r.length=6/\ ∀v∈r,J v=true/\D 20 v=true:=aN.rows (rows:= [r]) (λc b=>by rw [bs.1 b];exact a) r (dF ..)
def kW (v:aa):Prop:= ∃a b,v= .str a b/\T a b/\a<4611686018427387904
def pC (v:aa):Prop:= ∃a,v= .int .i64 a
def xl (x:aa):Prop:= ∃a,F x a/\(∀b∈a,aN b)/\a.length<1048560
def AO (x:aa):Prop:= ∃a,F x a/\b8 a/\a.length<1048560
def xb (r:List aa):Prop:= ∃a b e c d,r=a++b++ [e,c,d]/\aN a/\aN b/\xl e/\pC c/\pC d
def iz (r:List aa):Prop:= ∃d e a b c,r= [d,e]++a++ [b,c]/\kW d/\kW e/\aN a/\pC b/\pC c
def lG (r:List aa):Prop:= ∃e f a d b c,r= [e,f]++a++ [d,b,c]/\kW e/\kW f/\aN a/\xl d/\pC b/\pC c
def AE (r:List aa):Prop:= ∃a,r= [a]/\xl a
def lI (r:List aa):Prop:= ∃f g e h d b c,r= [f,g,e,h,d,b,c]/\kW f/\(∃a,F g a/\(∀r∈a,lG r)/\a.length<1048560)/\xl e/\(∃a,F h a/\(∀r∈a,AE r)/\a.length<1048560)/\AO d/\pC b/\pC c
def e7 (r:List aa):Nat:=2+(f (M r 12)).length
def iO (r:List aa):Nat:=1+(f (M r 8)).length
def lp (r:List aa):Nat:=(f (M r 0)).length
def kJ (r:List aa):Nat:=((f (M r 1)).map iO).sum+(f (M r 2)).length+((f (M r 3)).map lp).sum
def ju (r:List aa):Nat:=1+(f (M r 4)).length+(f (M r 1)).length
structure fz (d:List aa) (s:List aa) (kN jv rop j3 m4 ah0 p zI u:Y):Prop where
  eq: ∃n e o k m r st uG,d= [n]++s++ [e,o,k,m,r,st,uG]/\kW n/\F e ah0/\F o p/\kW k/\F m zI/\F r u/\kW st/\kW uG
  bT:oz s kN jv rop j3 m4
  kx: ∀r∈ah0,xb r
  b9: ∀r∈p,iz r
  hm: ∀r∈zI,iz r
  bh: ∀r∈u,lI r
  n1:(ah0.map e7).sum+p.length+zI.length+(u.map kJ).sum<1048560
  iN:4+p.length+zI.length+(u.map ju).sum+ah0.length<1048560
def uu {α:Type} (f:α->Nat) {l:List α} {j:Nat} {x:α} (a:l[j]? =some x):((l.take (j+1)).map f).sum=((l.take j).map f).sum+f x:=by rw [fg,a];simp
def pV {v:aa} {H H':af} (a:H'.n=H.n):gc H.n v H'=H':=ft ab
def eC (l:List (Nat×Nat)):Prop:= ∀a∈l,T a.1 a.2/\a.1<4611686018427387904
abbrev dr (H:af) (l:List (Nat×Nat)):af:=eY 9 22 H 0 l
theorem Ae (t el n l):O t (cO el n l)=cO el n l:=by cases l<;>rfl
theorem ML (el n l):(cO el n l).cells= [cO el n l]:=by cases l<;>rfl
theorem MM (el n l):J (cO el n l)=true:=by cases l<;>rfl
def uB (H:af) (l:List (Nat×Nat)):(dr H l).n=if l= [] then H.n+1 else H.n+1+1:=by cases l<;>simp [eY,af.push]
def Fb {H:af} (b:Tidy H) (l:List (Nat×Nat)):Tidy (dr H l):=by
 cases l with
 |nil=>exact b.push rfl
 | cons c l=>
   have d:Nat.blt (H.n+1) (H.n+1+1)=true:=h_ ab;refine ⟨by simp [eY,af.push,b.1],λf a=> ?_⟩;simp only [eY,af.push,b2] at a;rcases a with rfl|rfl|a
   . exact ba.2 λh e=>by obtain ⟨g,-,rfl⟩:=cd.1 e;rfl
   . show ([cO 9 H.n (c::l)].all _)=true;simp only [cO,aO,jm,y,nR];exact d
   . exact Ee (by show H.n<=H.n+1+1;omega) _ (b.2 f a)
def uA (H:af) (l b:List (Nat×Nat)):gc (dr H l).n (.av []) (dr H b)=dr H b:=by
 cases b with
 |nil=>exact ft (by rw [uB,uB];simp;split<;>omega)
 | cons a c=>
   cases l with
   |cons h i=>exact ft (by rw [uB,uB];simp)
   | nil=>
     unfold gc;split
     . rfl
     . have g:Nat.blt (H.n+1) (H.n+1)=false:=by
        cases f:Nat.blt (H.n+1) (H.n+1) with
        |false=>rfl
        | true => have:H.n+1+1<=H.n+1:=er f
                  omega
       have d:(List.drop ((dr H (a::c)).n-(dr H []).n) (dr H (a::c)).l).all (gL (dr H []).n)=false:=by
        have e:(dr H (a::c)).n-(dr H []).n=1:=by rw [uB,uB];simp
        rw [e];simp only [eY,af.push,List.drop_succ_cons,rF,aO,gL,cO,y,g,yH]
       simp only [d,Bool.and_false,eJ,if_false]
abbrev Ab (H:af):aa:= .fn (.func 193) [] [.ptr H.n (q 22) 0 1]
def abE (x:List aa) (h:aN x): ∃k,∀ad n,k<=ad->k<=n-> ∀(H:af) (l:List (Nat×Nat)) (d:Int),Tidy H->eC l->l.length<1048560->
    ∃a,eC a/\a.length<=l.length+1/\ ∀tm,cx G (X G R ad n) (Ab H) [.agg x,.int .i64 d] (dr H l) tm= .ok (.av []) tm (dr H a):=by
 obtain ⟨C,I,c,e,F,K,O,P,W,Y,h,-,-⟩:=h.ea;refine ⟨1,λad n T U H l d V j y=> ?_⟩;obtain ⟨n,rfl⟩:=bY n;obtain ⟨rfl,N,-,M,-,A,B,-,-⟩:=h;obtain ⟨S,r,s,t,-⟩:=MI (E:=G) (st:=22) (b:=16) oe nI rfl rfl al (H:=H) l y c e;have z:eC (l++ [(c,e)]):=λL g=>(cr.1 g).elim (j L) λg=>by rw [bs.1 g];exact ⟨N,M⟩
 have D:=df.at (E:=G) (R:=R) (f:=193) (m:=10) (ad:=ad) (n:=n) (args:= [.agg [.int .i64 C,.int .i64 I,.str c e,.str F K,O,P],.int .i64 d,.ptr H.n (q 22) 0 1]) (H:=dr H l)
  (Q:=λo i=>o= .av []/\ ∃a,eC a/\a.length<=l.length+1/\i=dr H a) rfl rfl rfl rfl rfl rfl rfl rfl ?_
 . obtain ⟨o,i,⟨rfl,a,v,w,rfl⟩,p⟩:=D;exact ⟨a,v,w,λtm=>by simp only [eg,a6,bl];exact p tm⟩
 simp only [go_sem,A.J,B.J]
 iterate 3 all_goals try (refine df.aE ?_ ?_<;>intro u<;>simp only [go_sem,u,MJ,Ae,r,bH,s,ML,MM,t])
 all_goals first
  |exact df.mk rfl ⟨rfl,l,j,ab,uA H l l⟩
  |exact df.mk rfl ⟨rfl,l++ [(c,e)],z,ai,uA H l _⟩
abbrev Ac (H:af):aa:= .fn (.func 252) [] [.ptr H.n (q 22) 0 1]
def abF (x:List aa) (h:aN x): ∃k,∀ad n,k<=ad->k<=n-> ∀(H:af) (l:List (Nat×Nat)) (d:Int),Tidy H->eC l->l.length<1048560->
    ∃a,eC a/\a.length<=l.length+1/\ ∀tm,cx G (X G R ad n) (Ac H) [.agg x,.int .i64 d] (dr H l) tm= .ok (.av []) tm (dr H a):=by
 obtain ⟨C,I,c,e,F,K,O,P,W,Y,h,-,-⟩:=h.ea;refine ⟨1,λad n T U H l d V j y=> ?_⟩;obtain ⟨n,rfl⟩:=bY n;obtain ⟨rfl,N,-,M,-,A,B,-,-⟩:=h;obtain ⟨S,r,s,t,-⟩:=MI (E:=G) (st:=22) (b:=16) oe nI rfl rfl al (H:=H) l y c e;have z:eC (l++ [(c,e)]):=λL g=>(cr.1 g).elim (j L) λg=>by rw [bs.1 g];exact ⟨N,M⟩
 have D:=df.at (E:=G) (R:=R) (f:=252) (m:=15) (ad:=ad) (n:=n) (args:= [.agg [.int .i64 C,.int .i64 I,.str c e,.str F K,O,P],.int .i64 d,.ptr H.n (q 22) 0 1]) (H:=dr H l)
  (Q:=λo i=>o= .av []/\ ∃a,eC a/\a.length<=l.length+1/\i=dr H a) rfl rfl rfl rfl rfl rfl rfl rfl ?_
 . obtain ⟨o,i,⟨rfl,a,v,w,rfl⟩,p⟩:=D;exact ⟨a,v,w,λtm=>by simp only [eg,a6,bl];exact p tm⟩
 simp only [go_sem,A.J,B.J]
 iterate 3 all_goals try (refine df.aE ?_ ?_<;>intro u<;>simp only [go_sem,u,MJ,Ae,r,bH,s,ML,MM,t])
 all_goals first
  |exact df.mk rfl ⟨rfl,l,j,ab,uA H l l⟩
  |exact df.mk rfl ⟨rfl,l++ [(c,e)],z,ai,uA H l _⟩
abbrev mf:=List aa×List aa×Nat×Nat
abbrev d_ (H:af) (s:mf):af:=((H.push (.cells (q 226) (q 226) 0 [.map (H.n+1+1)])).push (.cells (q 9) (q 9) 0 [.str s.2.2.1 s.2.2.2])).push (.map false s.1 s.2.1)
def lK (s:mf):Prop:=mg s.1/\s.1.length=s.2.1.length/\ ∀c∈s.2.1,∃a b,c= .str a b
section
variable (H:af) (s:mf) (o:Obj)
theorem L6:(d_ H s).get H.n=some (.cells (q 226) (q 226) 0 [.map (H.n+1+1)]):=by simp [d_,af.push,af.get];omega
theorem L7:(d_ H s).get (H.n+1)=some (.cells (q 9) (q 9) 0 [.str s.2.2.1 s.2.2.2]):=by simp [d_,af.push,af.get]
theorem EZ:(d_ H s).get (H.n+1+1)=some (.map false s.1 s.2.1):=by simp [d_,af.push,af.get]
theorem L8 (a b:Nat):(d_ H s).set (H.n+1) (.cells (q 9) (q 9) 0 [.str a b])=d_ H (s.1,s.2.1,a,b):=by simp [d_,af.push,af.set];rfl
theorem aag (a vs:List aa):(d_ H s).set (H.n+1+1) (.map false a vs)=d_ H (a,vs,s.2.2):=by simp [d_,af.push,af.set];rfl
end
theorem aaf (H:af) (s:mf):(d_ H s).set H.n (.cells (q 226) (q 226) 0 [.map (H.n+1+1)])=d_ H s:=by simp [d_,af.push,af.set];intro _;rfl
@[go_sem] theorem agY (E:Env) (tm H a t b u):gp E [.cell a t,.cell b u] tm H=(match dW E t (O a (M tm a)) tm H,dW E u (O b (M tm b)) tm H with
  |some v,some w=>(if aD v&&aD w then .ret (.av [v,w]) H else .fail)
  |_,_=> .fail):=by
 simp only [gp,hU,lx];show (match (match dW E t (O a (M tm a)) tm H with|some v=>(match (match dW E u (O b (M tm b)) tm H with|some v=>some [v]|none=>none) with|some c=>some (v::c)|none=>none)|none=>none) with|some [v]=>_|some c=>_|none=>_)=_;cases dW E t (O a (M tm a)) tm H<;>cases dW E u (O b (M tm b)) tm H<;>simp
theorem aae (H:af) (a b c o:Obj):(((H.push a).push b).push c).set H.n o=((H.push o).push b).push c:=by simp [af.push,af.set];rw [if_pos ab];rfl
def aad (H:af) (a b c:Obj):(((H.push a).push b).push c).get H.n=some a:=by simp [af.push,af.get];omega
def aah {H:af} (h:Tidy H) (s:mf) (k:lK s):Tidy (d_ H s):=by
 obtain ⟨l,m,d,e⟩:=s;obtain ⟨f,i,g⟩:=k;have j:Nat.blt (H.n+1+1) (H.n+1+1+1)=true:=h_ ab;simp only at f i g;refine ⟨by simp [d_,af.push,h.1],λo a=> ?_⟩;simp only [d_,af.push,b2] at a;rcases a with rfl|rfl|rfl|a
 . show (l.all _&&m.all _)=true;rw [br];exact ⟨ba.2 λc b=>by (obtain ⟨d,e,rfl⟩:=f c b;rfl),ba.2 λc b=>by (obtain ⟨d,e,rfl⟩:=g c b;rfl)⟩
 . rfl
 . show ([aa.map (H.n+1+1)].all _)=true;simp only [aO,jm,y,nR];exact j
 . exact Ee (by show H.n<=H.n+1+1+1;omega) _ (h.2 o a)
def aaj (x:List aa) (z:aN x): ∃B,∀ad n,B<=ad->B<=n-> ∀(H:af) (s:mf) (d:Int),Tidy H->lK s->
    ∃s',lK s'/\ ∀tm,cx G (X G R ad n) (.fn (.func 251) [] [.ptr H.n (q 226) 0 1,.ptr (H.n+1) (q 9) 0 1]) [.agg x,.int .i64 d] (d_ H s) tm= .ok (.av []) tm (d_ H s'):=by
 obtain ⟨V,W,b,e,p,r,ab,ae,ak,al,z,-,-⟩:=z.ea;refine ⟨1,λad n ag ah H s d ai N=> ?_⟩;obtain ⟨n,rfl⟩:=bY n;obtain ⟨rfl,T,U⟩:=z.c;obtain ⟨a,g,i,j⟩:=s;obtain ⟨k,l,t⟩:=N;simp only at k l t;have u:=df.at (E:=G) (R:=R) (f:=251) (m:=45) (ad:=ad) (n:=n) (args:= [.agg [.int .i64 V,.int .i64 W,.str b e,.str p r,ab,ae],.int .i64 d,.ptr H.n (q 226) 0 1,.ptr (H.n+1) (q 9) 0 1]) (H:=d_ H (a,g,i,j))
  (Q:=λC A=>C= .av []/\ ∃s',lK s'/\A=d_ H s') rfl rfl rfl rfl rfl rfl rfl rfl ?_
 . obtain ⟨C,A,⟨rfl,D,M,rfl⟩,F⟩:=u;exact ⟨D,M,λtm=>by simp only [eg,a6,bl];exact F tm⟩
 obtain ⟨v,w,ok,I⟩: ∃v w ok,∀h,iM G 226 (.map (H.n+1+1)) (.str b e) true (d_ H (a,g,h))=some (.av [.str v w,.bool ok]):=by
  have u: ∀h,iM G 226 (.map (H.n+1+1)) (.str b e) true (d_ H (a,g,h))=some (jX true (.str 0 0) (c2 (cU b e) a g 0)):=λh=>tP (cK:=0) G FP lA (by simp only [mapOf,EZ]) z9 k l
  cases y:c2 (cU b e) a g 0 with
  |none=>exact ⟨0,0,false,λh=>by rw [u,y];rfl⟩
  | some Y=>
    obtain ⟨aj,Z⟩:=Y;obtain ⟨an,-,-,S⟩:=BS y;obtain ⟨v,w,rfl⟩:=t Z (aV S);exact ⟨v,w,true,λh=>by rw [u,y];rfl⟩
 have K: ∀h tm,ih G 226 (.map (H.n+1+1)) (.str b e) (.str p r) tm (d_ H (a,g,h))= .ok (.av []) tm (d_ H (h3 (cU b e) (.str b e) a g,h4 (cU b e) (.str p r) a g,h)):=λh tm=>by refine zu rfl rfl ?_;rw [Ai G FP lA (EZ H (a,g,h)) k l,aag]
 have O: ∀i j,lK (a,g,i,j):=λi j=>⟨k,l,t⟩;have P: ∀i j,lK (h3 (cU b e) (.str b e) a g,h4 (cU b e) (.str p r) a g,i,j):=λi j=>⟨CD k,CF l,CE t ⟨p,r,rfl⟩⟩;simp only [go_sem,T.J,U.J]
 iterate 9 all_goals try (refine df.aE ?_ ?_<;>intro L<;>simp only [go_sem,L,L6,L7,L8,I,K])
 all_goals first
  |exact df.mk rfl ⟨rfl,_,O _ _,pV rfl⟩
  |exact df.mk rfl ⟨rfl,_,P _ _,pV rfl⟩
abbrev EY (H:af):aa:= .fn (.func 251) [] [.ptr H.n (q 226) 0 1,.ptr (H.n+1) (q 9) 0 1]
def L9 (H:af) (s:mf):U H (d_ H s):=(((U.refl H).push _).push _).push _
def AH (r:List aa):Prop:= ∃a,a<=10000000/\e1 r a
def aai {r:List aa} (h:AH r): ∃k,∀ad c,k<=ad->k<=c-> ∀(H:af) (s:mf) (d:Int),Tidy H->lK s->
    ∃s',lK s'/\ ∀tm,az G (X G R ad c) 185 [.agg r,.int .i64 d,EY H] (d_ H s) tm= .ok (.av []) tm (d_ H s'):=by
 obtain ⟨j,g,h⟩:=h;obtain ⟨q,l⟩:=wa (ι:=af) (σ:=mf) (T:=Tidy) (P:=λ_ s=>lK s) (W:=λ_=>0) (cS:=d_) (pE:=10000001) (fv:=EY) (λH s b a=>aah b s a) (λ_=>⟨rfl,λ_=>rfl⟩) (λ_ _ _ _ _=>pV rfl) (λt p=>by obtain ⟨k,m⟩:=aaj t p;exact ⟨k,λad j f g H s d b a _=>by obtain ⟨s',i,e⟩:=m ad j f g H s d b a;exact ⟨s',i,ab,e⟩⟩) h g;exact ⟨q,λad c f n H s d b a=>by obtain ⟨s',i,-,e⟩:=l ad c f n H s d b a ab;exact ⟨s',i,e⟩⟩
def hg {S:aa->Prop} {f:Nat} {args:List aa} {ad n:Nat} {H:af} (a:(∃v,S v/\ ∀tm,az G (X G R ad n) f args H tm= .ok v tm H)\/(∃v,bQ v/\ ∀tm,az G (X G R ad n) f args H tm= .aK v H)):
    ∃v,S v/\ ∀tm,az G (X G R ad n) f args H tm= .ok v tm H:=by
 rcases a with a|⟨v,a,-⟩
 . exact a
 . exact a.elim
def Jh (rows:Y) (h: ∀r∈rows,AH r) (F:rows.length<4611686018427387904):bo λad n=> ∀x H,Tidy H->cG H 6 x rows->
    ∃v,(∃e vs a b,v= .av [.ck e vs,.str a b])/\ ∀tm,az G (X G R ad n) 187 [x] H tm= .ok v tm H:=by
 obtain ⟨U,C⟩:=dE (l:=rows) (Q:=λr ad w=> ∀(H:af) (s:mf) (z:Int),Tidy H->lK s->
  ∃g,lK g/\ ∀tm,az G (X G R ad w) 185 [.agg r,.int .i64 z,EY H] (d_ H s) tm= .ok (.av []) tm (d_ H g)) λr c=>aai (h r c)
 refine ⟨U+rows.length+2,λad n ag ah x H j d=> ?_⟩;obtain ⟨n,rfl⟩:=bY n;have E: ∀r∈rows,r.length=6:=λr c=>by obtain ⟨n,-,c⟩:=h r c;exact c.wt.len
 refine hg (aL.at (m:=18) rfl rfl rfl rfl rfl (by simp only [aO,d.aD];rfl) rfl rfl ?_);simp only [go_sem,d.O,d.len,lq,aae,aad];generalize ae:a1 _ _ _ _ _ _ _ _ _ _=y;revert y;refine hz _ _ _ _ (σ:=mf) (λ_=> [(2,.ptr H.n (q 226) 0 1),(3,.ptr (H.n+1) (q 9) 0 1),(7,x)]) (λs=>d_ H s) (λ_ s=>lK s) 19 rows.length ([],[],0,0) rfl rfl (λ_=>rfl) rfl ⟨λ_ c=>(by cases c),rfl,λ_ c=>(by cases c)⟩
  dC ab F ?_ ?_
 . intro ai s tm D i hF;obtain ⟨r,u⟩:=bA D;have f:=aV u;obtain ⟨g,P,A⟩:=C ad n ab ab r f H s 1 j i;obtain ⟨ao,L,M,N,-⟩:=(d.up j.1 (L9 H s)).at E u;obtain ⟨w,-,I⟩:=h r f;obtain ⟨al,an,V,Z,W,aa,aq,ar,aj,ak,rfl,S,T⟩:=I.wt.t;simp only [go_sem,hF,d.O,L,M,N,S.J,T.J,A];exact au.next g rfl P ay
 . rintro ⟨e,vs,a,b⟩ tm i hF;simp only [go_sem,hF,L6,L7,aaf,L8];obtain ⟨k,B,p⟩:=i;simp only at k B p;have f:=zA 48 (EZ H (e,vs,a,b)) (ba.2 λx d=>by (obtain ⟨a,b,rfl⟩:=k x d;rfl)) (ba.2 λx d=>by (obtain ⟨a,b,rfl⟩:=p x d;rfl));have K:aZ bR (.av [.map (H.n+1+1),.str a b]) (d_ H (e,vs,a,b))=some (.av [.ck e vs,.str a b],(d_ H (e,vs,a,b)).set (H.n+1+1) (.map true e vs)):=by show aZ (49+1) _ _=_;rw [aZ,lk f (lk rfl rfl)];simp only [bu]
   exact .inl ⟨_,⟨e,vs,a,b,rfl⟩,_,_,_,rfl,K,gV j ((L9 H _).set ab _) rfl⟩
def bL (rows:Y) (N:Nat):Prop:= ∃a:List aa->Nat,(∀b∈rows,e1 b (a b))/\(rows.map a).sum<=N
def Ad (H:af) (l:List (Nat×Nat)) (d:Nat):U H (eY 9 22 H d l):=by
 cases l with
 |nil=>exact (U.refl H).push _
 |cons a l=>exact ((U.refl H).push _).push _
def zV:eW []= []:=by simp [eW]
def ph (l:List (Nat×Nat)):(eW l).length=l.length:=by simp [eW]
def aal (l:List (Nat×Nat)) (p):p∈eW l↔p∈l:=by simp [eW]
def eC.sort {l} (b:eC l):eC (eW l):=λa c=>b a ((aal l a).1 c)
theorem aaz (l:List (Nat×Nat)): ∀r∈l.map iu,r.length=1:=λr a=>by obtain ⟨b,-,rfl⟩:=cd.1 a;rfl
def Mo (l:List (Nat×Nat)):Rows 1 (l.map iu):=λd a=>by obtain ⟨c,-,rfl⟩:=cd.1 a;exact ⟨rfl,λe b=>by obtain rfl:=bs.1 b;exact ⟨rfl,rfl⟩⟩
def Yd (H:af) (l:List (Nat×Nat)) (s:l.length<1048560):qC [cO 9 H.n l] (dr H l)= .ret (.av []) (eY 9 22 H (l.length-1) (eW l)):=by
 cases l with
 |nil=>rw [zV];rfl
 | cons b l=>
   have f:(eW (b::l)).length=l.length+1:=ph _;have g: ∃d c,eW (b::l)=d::c/\c.length=l.length:=by
    cases e:eW (b::l) with
    |nil=>rw [e] at f;simp at f
    |cons d c=>rw [e] at f;exact ⟨d,c,rfl,by simpa using f⟩
   obtain ⟨d,c,g,e⟩:=g;simp only [cl] at s;have t:dr H (b::l)=(H.push (.cells (q 22) (q 22) 0 [cO 9 H.n (b::l)])).push (.cells (q 9+l.length) (q 9+0) 0 ((b::l).map λa=>aa.str a.1 a.2)):=rfl;have i:(dr H (b::l)).get (H.n+1)=some (.cells (q 9+l.length) (q 9+0) 0 ((b::l).map λa=>aa.str a.1 a.2)):=dL (H.push _) _;have j:sub ((b::l).map λa=>aa.str a.1 a.2) 0 (l.length+1)=some ((b::l).map λa=>aa.str a.1 a.2):=by unfold sub;rw [if_pos ai];rw [rF,fT ai]
   have k:cB ((b::l).map λa=>aa.str a.1 a.2) 0 ((eW (b::l)).map λa=>aa.str a.1 a.2)=some ((eW (b::l)).map λa=>aa.str a.1 a.2):=by unfold cB;rw [if_pos (by simp [ph])];simp [ph]
   have p:decide (True/\0<=0/\q 9+0<=q 9+l.length/\l.length+1<4611686018427387904)=true:=decide_eq_true ⟨trivial,aT _,ab,ab⟩;have r:qC [cO 9 H.n (b::l)] (dr H (b::l))=qC [.ref (H.n+1) (q 9+l.length) 0 1 (l.length+1) false] (dr H (b::l)):=rfl;rw [r];unfold qC;simp only [i,p,j,aaG,k,bu,c8];have m: ∀h,(dr H (b::l)).set (H.n+1) h=(H.push (.cells (q 22) (q 22) 0 [cO 9 H.n (b::l)])).push h:=λh=>o_ (H.push _) _ _;rw [m,g];have o:cO 9 H.n (b::l)=cO 9 H.n (d::c):=by simp only [cO,e]
   rw [o];simp only [eY,e,cl,tD]
theorem Dy {ad n:Nat} {H:af} {l:List (Nat×Nat)} (c:l.length<1048560) (tm:List aa):az G (X G R ad (n+1)) 194 [cO 9 H.n l] (dr H l) tm= .ok (.av []) tm (eY 9 22 H (l.length-1) (eW l)):=by
 rw [jL G _ _ _ _ tm rfl (by cases l<;>rfl)];have b:X G R ad (n+1) 194 [cO 9 H.n l] (dr H l)= .ret (.av []) (eY 9 22 H (l.length-1) (eW l)):=by have e:G.cL 194=some qC:=rfl;simp only [X,nE,e,Yd H l c]
 rw [b];have d:(eY 9 22 H (l.length-1) (eW l)).n=(dr H l).n:=by
  have:=ph l
  cases l with
  |nil=>rw [zV];rfl
  | cons a l=>
    cases f:eW (a::l) with
    |nil=>rw [f] at this;simp at this
    |cons g h=>rfl
 simp only [hV,fi _ _ (.av []) (fr 20 bR _ al rfl),ft (yW d)];split<;>rfl
def E_ (H:af) (l:List (Nat×Nat)) (d:Nat):(eY 9 22 H d l).get H.n=some (.cells (q 22) (q 22) 0 [cO 9 H.n l]):=by
 cases l with
 |nil=>exact dL _ _
 |cons a l=>exact ta _ _ _
def abd (H:af) (l:List (Nat×Nat)) (d:Nat) (a:d<=l.length-1) (b:l.length<1048560):bd H.n 9 1 1048560 (eY 9 22 H d l) (l.map iu) (cO 9 H.n l):=by
 cases l with
 |nil=>exact .inl ⟨rfl,rfl⟩
 | cons c l=>
   simp only [cl,tD] at b a;refine .inr (.inr ⟨H.n+1,q 9+l.length,q 9+d,by simp [cO],ab,?_,ab,?_,?_⟩)
   . rw [HK];exact dL (H.push _) _
   . simp only [q];omega
   . right;simp only [q];omega
def abC {r:List aa} {n:Nat} (o:e1 r n) (h:n<=1048560): ∃k,∀ad c,k<=ad->k<=c-> ∀(H:af) (l:List (Nat×Nat)) (d:Int),Tidy H->eC l->l.length+n<=1048560->
    ∃b,eC b/\b.length<=l.length+n/\ ∀tm,az G (X G R ad c) 185 [.agg r,.int .i64 d,Ab H] (dr H l) tm= .ok (.av []) tm (dr H b):=by
 obtain ⟨q,i⟩:=wa (ι:=af) (σ:=List (Nat×Nat)) (T:=Tidy) (P:=λ_ l=>eC l) (W:=λl=>l.length) (cS:=λH l=>dr H l) (pE:=1048560) (fv:=Ab) (λH l a _=>Fb a l) (λ_=>⟨rfl,λ_=>rfl⟩) (λH l b _ _=>uA H l b) (λs p=>by obtain ⟨k,j⟩:=abE s p;exact ⟨k,λad n e h H l d a g f=>j ad n e h H l d a g f⟩) o ab;exact ⟨q,λad c e m H l d a g f=>i ad c e m H l d a g f⟩
def abD {r:List aa} {n:Nat} (o:e1 r n) (h:n<=1048560): ∃k,∀ad c,k<=ad->k<=c-> ∀(H:af) (l:List (Nat×Nat)) (d:Int),Tidy H->eC l->l.length+n<=1048560->
    ∃b,eC b/\b.length<=l.length+n/\ ∀tm,az G (X G R ad c) 185 [.agg r,.int .i64 d,Ac H] (dr H l) tm= .ok (.av []) tm (dr H b):=by
 obtain ⟨q,i⟩:=wa (ι:=af) (σ:=List (Nat×Nat)) (T:=Tidy) (P:=λ_ l=>eC l) (W:=λl=>l.length) (cS:=λH l=>dr H l) (pE:=1048560) (fv:=Ac) (λH l a _=>Fb a l) (λ_=>⟨rfl,λ_=>rfl⟩) (λH l b _ _=>uA H l b) (λs p=>by obtain ⟨k,j⟩:=abF s p;exact ⟨k,λad n e h H l d a g f=>j ad n e h H l d a g f⟩) o ab;exact ⟨q,λad c e m H l d a g f=>i ad c e m H l d a g f⟩
def uO (N:Nat) (v:aa):Prop:= ∃a,F v (a.map iu)/\eC a/\a.length<=N
def JA (rows:Y) (N:Nat) (hN:N<1048560) (S:bL rows N):bo λad n=> ∀x H,Tidy H->cG H 6 x rows->
    ∃v,uO N v/\ ∀tm,az G (X G R ad n) 130 [x] H tm= .ok v tm H:=by
 obtain ⟨d,i,g⟩:=S;have U: ∀b∈rows,d b<=N:=λb j=>eT (o3 j) g;have aC:rows.length<=N:=eT (qq λx f=>(i x f).pos) g;obtain ⟨ae,C⟩:=dE (l:=rows) (Q:=λb ad ai=> ∀(H:af) (a:List (Nat×Nat)) (z:Int),Tidy H->eC a->a.length+d b<=1048560->
  ∃r,eC r/\r.length<=a.length+d b/\ ∀tm,az G (X G R ad ai) 185 [.agg b,.int .i64 z,Ab H] (dr H a) tm= .ok (.av []) tm (dr H r)) λb e=>abC (i b e) (by have:=U b e;omega)
 refine ⟨ae+rows.length+3,λad n aB aE x H p f=> ?_⟩;obtain ⟨n,rfl⟩: ∃ah,n=ah+2:=⟨n-2,ab⟩;have E: ∀b∈rows,b.length=6:=λb e=>(i b e).wt.len;refine hg (aL.at (m:=18) rfl rfl rfl rfl rfl (by simp only [aO,f.aD];rfl) rfl rfl ?_);simp only [go_sem,f.O,f.len];generalize aA:a1 _ _ _ _ _ _ _ _ _ _=w;revert w;refine hz _ _ _ _ (σ:=List (Nat×Nat)) (λ_=> [(3,.ptr H.n (q 22) 0 1),(6,x)]) (λa=>dr H a) (λh a=>eC a/\a.length<=((rows.take h).map d).sum) 19 rows.length [] rfl rfl (λ_=>rfl) rfl ⟨λ_ e=>(by cases e),fV _⟩
  dC ab ab ?_ ?_
 . intro h u tm D o hF;obtain ⟨o,aF⟩:=o;obtain ⟨b,k⟩:=bA D;have j:=aV k;have aH:((rows.take (h+1)).map d).sum=((rows.take h).map d).sum+d b:=by rw [fg,k];simp
   have aI:=si d rows (h+1);obtain ⟨aj,T,aG,A⟩:=C ad (n+1) ab ab b j H u 1 p o ab;obtain ⟨aP,L,M,P,-⟩:=(f.up p.1 (Ad H u 0)).at E k;obtain ⟨aM,aN,ao,aw,aq,ax,aQ,an,aJ,aK,aa,-,-⟩:=(i b j).wt.ea;obtain ⟨rfl,V,Z⟩:=aa.c;simp only [go_sem,hF,f.O,L,M,P,V.J,Z.J,A];exact au.next aj rfl ⟨T,ab⟩ ay
 . rintro a tm ⟨K,F⟩ hF;rw [bX] at F;have t:a.length<1048560:=ab;have B:=λtm=>Dy (ad:=ad) (n:=n) (H:=H) t tm;have s:cO 9 H.n (eW a)=cO 9 H.n a:=by
    have:=ph a
    cases a with
    |nil=>rw [zV]
    | cons y a=>
      cases g:eW (y::a) with
      |nil=>rw [g] at this;simp at this
      |cons ar ag=>rw [g] at this;simp only [cl] at this;simp only [cO];rw [show ag.length=a.length by omega]
   simp only [go_sem,hF,E_,Ae,B,s];rw [<-s];have I:aD (cO 9 H.n (eW a))=true:=by cases eW a<;>rfl
   simp only [dX,I,if_true];exact ak.W al p (Mo _) (abd H (eW a) _ (by rw [ph];exact aT _) (by rw [ph];exact t)) (aT _) (Ad H _ _) λan e=>⟨eW a,e,K.sort,by rw [ph];omega⟩
abbrev mq (H:af) (u:aa) (g d:Nat) (l:List (Nat×Nat)):af:=(H.push (.cells (q 22) (q 22) 0 [u])).push (.cells g d 0 (l.map λa:Nat×Nat=>aa.str a.1 a.2))
structure Aw (K:Nat->List (Nat×Nat)->af) (id g:Nat):Prop where
  get: ∀d L,(K d L).get id=some (.cells g d 0 (L.map λp:Nat×Nat=>aa.str p.1 p.2))
  set: ∀d L ov,(K d L).set id (.cells g g 0 (ov.map λp:Nat×Nat=>aa.str p.1 p.2))=K g ov
def Ps (H:af) (u:aa) (g:Nat):Aw (λd L=>mq H u g d L) (H.n+1) g:=by
 exact ⟨λd L=>vo _ _ _,λd L a=>o_ (H.push _) _ _⟩
def u4 {a id g} (c:Aw a id g) {d:Nat} {L:List (Nat×Nat)} {off i j n:Nat} {p:Nat×Nat} (e:L[j]? =some p) (l:d<=g) (f:off+i=j) (m:i<n):
    ∃ q,kA 1 (.ref id g off 1 n false) (.int .i64 (i:Nat))=some q/\(∀t,O t q=q)/\fh q=true/\(∀tm,jY 1 false (gq tm (a d L) q)=some (.str p.1 p.2))/\
      ∀(w:Nat×Nat) tm,hf 1 q [.str w.1 w.2] tm (a d L)= .ok (.av []) tm (a g (L.set j w)):=by
 have r:=(e6.1 e).1;have o:kA 1 (.ref id g off 1 n false) (.int .i64 (i:Nat))=some (.ptr id g (off+i*1) (off+i*1+1)):=by show (if 1=1/\i<n then _ else _)=_;rw [if_pos ⟨rfl,m⟩]
 refine ⟨_,o,λ_=>rfl,rfl,λtm=> ?_,λw tm=> ?_⟩
 . show (match (match (a d L).get id with|some (.cells _ h _ b)=>if h<=g then some (b,off+i*1,off+i*1+1) else none|_=>none) with|some (b,off,s)=>(match Nat.ble (off+1) s with|true=>b[off]? |false=>none)|none=>none)=_;rw [c.get];simp only [if_pos l];have:Nat.ble (off+i*1+1) (off+i*1+1)=true:=h_ (aT _);rw [this,tG,f];simp [e]
 . have k:cB (L.map λp:Nat×Nat=>aa.str p.1 p.2) (off+i*1) [.str w.1 w.2]=some ((L.set j w).map λp:Nat×Nat=>aa.str p.1 p.2):=by unfold cB;rw [tG,f,if_pos da];congr 1;rw [List.map_set,List.set_eq_take_append_cons_drop,if_pos (by simpa using r)];simp
   rw [Mj,if_pos ⟨rfl,rfl⟩,c.get,Mk,if_pos ⟨rfl,fV _,aT _⟩,k];simp only [c.set]
def Gz {id g off n:Nat} {k:Nat} (c:k<n):fG 1 (.ref id g off 1 n false) (some (.int .i64 (k:Nat))) none none=some (.ref id g (off+k) 1 (n-k) false):=by
 show (if k<=n/\n<=n/\(false=true->n=n) then (if k=n/\0<k then some (aa.A [] false) else bC (off+k*1) λb=>bC (n-k) λn=>some (.ref id g b 1 n false)) else none)=_;rw [if_pos ⟨ab,aT _,λa=>by cases a⟩,if_neg ab];simp only [c1,tG]
def PG {id g n:Nat} {k:Nat} (b:k<=n) (d:0<n):fG 1 (.ref id g 0 1 n false) none (some (.int .i64 (k:Nat))) none=some (.ref id g 0 1 k false):=by
 show (if 0<=k/\k<=n/\(false=true->k=n) then (if 0=n/\0<0 then some (aa.A [] false) else bC (0+0*1) λc=>bC (k-0) λn=>some (.ref id g c 1 n false)) else none)=_;rw [if_pos ⟨fV _,b,λa=>by cases a⟩,if_neg ab];simp only [c1,tG,vU,Nat.sub_zero]
def PF {c id g} (e:Aw c id g) {d:Nat} {L:List (Nat×Nat)} {k n:Nat} (p:k+n=L.length) (q:0<n):
    oH G 22 (.ref id g (0+k) 1 n false) (c d L)=some (.av [],c g (L.take k++List.replicate n (0,0))):=by
 obtain ⟨a,rfl⟩:=bY n;have l:aW G 22=some (.slice 9):=aq;have m:bN G 9=some (.str 0 0):=aq;have j:bZ G 9=some 1:=aq;have i:cB (L.map λb:Nat×Nat=>aa.str b.1 b.2) (0+k) (List.replicate (a+1) (aa.str 0 0).cells).flatten=some ((L.take k++List.replicate (a+1) (0,0)).map λb:Nat×Nat=>aa.str b.1 b.2):=by
  have h:(List.replicate (a+1) (aa.str 0 0).cells).flatten=List.replicate (a+1) (aa.str 0 0):=by
   show (List.replicate (a+1) [aa.str 0 0]).flatten=_
   induction a+1 with
   |zero=>rfl
   |succ n o=>rw [rI,iJ,o];rfl
  unfold cB;rw [h,gH,if_pos da];simp only [List.length_replicate,vR,List.map_take,List.map_replicate];rw [tv da,fw]
 have f:Nat.beq (a+1) 0=false:=rfl;simp only [oH,l,f,j,m,e.get];rw [if_pos ⟨trivial,trivial,fV _,rfl,rfl⟩,i];simp only [bu,c8,e.set]
def Un {ad n:Nat} (H:af) (tm:List aa):az G (X G R ad (n+1)) 253 [.V] H tm= .ok .V tm H:=by
 have d: ∃b a,(b= .V/\a=H)/\ ∀tm,az G (X G R ad (n+1)) 253 [.V] H tm= .ok b tm a:=by refine bn.at (Q:=λb a=>b= .V/\a=H) (m:=60) (rs:= [.tmp 2]) rfl rfl rfl rfl rfl rfl rfl rfl ?_;simp only [go_sem];exact bn.mk ⟨rfl,ft (aT _)⟩
 obtain ⟨_,_,⟨rfl,rfl⟩,c⟩:=d;exact c tm
def Um:bo λad n=> ∀(H:af) (u:aa) (g d len:Nat) (l:List (Nat×Nat)),Tidy (mq H u g d l)->eC l->l.length=len->0<len->len<1048560->d<=g->q 9<=g->g<q 9+1048560->
    ∃e m c,eC e/\e.length<=len/\c<=g/\ ∀tm,az G (X G R ad n) 253 [.ref (H.n+1) g 0 1 len false] (mq H u g d l) tm= .ok (.ref (H.n+1) g 0 1 e.length false) tm (mq H u g c (e++m)):=by
 refine ⟨1048570,λad n bq bs H u g d len l aO an ak bc bd J bg bh=> ?_⟩;obtain ⟨n,rfl⟩:=bY n;have s:=Ps H u g;generalize Z:(λd b=>mq H u g d b)=o at s;have ag: ∀d b,mq H u g d b=o d b:=λd b=>by rw [<-Z]
 have aQ: ∀c b,(o c b).n=(o d l).n:=λc b=>by rw [<-Z];rfl
 simp only [ag];generalize aF:H.n+1=id at*;clear aF Z ag aO;have ah: ∀c b r,gc (o d l).n r (o c b)=o c b:=λc b r=>ft (by rw [aQ c b];exact aT _);have aP: ∃r t,(∃e m c,r= .ref id g 0 1 e.length false/\t=o c (e++m)/\eC e/\e.length<=len/\c<=g)/\ ∀tm,az G (X G R ad (n+1)) 253 [.ref id g 0 1 len false] (o d l) tm= .ok r tm t:=by
  refine bn.at (E:=G) (R:=R) (f:=253) (ad:=ad) (n:=n) (args:= [.ref id g 0 1 len false]) (H:=o d l) (Q:=λr t=> ∃e m c,r= .ref id g 0 1 e.length false/\t=o c (e++m)/\eC e/\e.length<=len/\c<=g) (m:=60) (rs:= [.tmp 2]) rfl rfl rfl rfl rfl rfl rfl rfl ?_;have av: ∀ {aq},aq=(o d l).n->bn (λr t=> ∃e m c,r= .ref id g 0 1 e.length false/\t=o c (e++m)/\eC e/\e.length<=len/\c<=g) aq (.ret (.ref id g 0 1 len false) (o d l)):=λW=>by subst W;exact bn.mk ⟨l,[],d,by rw [ak],by rw [ah,fw],an,ab,J⟩
  by_cases bf:len<2
  . have U:decide ((len:Int)<2)=true:=decide_eq_true ab;simp only [go_sem,U];exact av rfl
  have U:decide ((len:Int)<2)=false:=decide_eq_false ab;simp only [go_sem,U];generalize w:a1 _ _ _ _ _ _ _ _ _ _=T;revert T;refine rP _ _ _ _ (λa tm S=>S=o d l/\a+1<=len/\aM 61 [(0,.ref id g 0 1 len false),(3,.int .i64 ((a+1:Nat):Int))] tm) len ab ⟨rfl,ab,by simp only [go_sem];trivial⟩ ?_;rintro a tm _ bj ⟨rfl,bk,hF⟩;by_cases aH:a+1<len
  . have I :decide (((a+1:Nat):Int)<(len:Int))=true:=decide_eq_true ab;have ae:IntKind.i64.wrap (((a+1:Nat):Int)-1)=(a:Nat):=by rw [wrap64 _ ab ab];omega
    have N:IntKind.i64.wrap (((a+1:Nat):Int)+1)=((a+1+1:Nat):Int):=by rw [wrap64 _ ab ab];rfl
    obtain ⟨p,aI⟩: ∃p,l[a]? =some p:=⟨l[a]'ab,ai⟩;obtain ⟨bw,aK⟩: ∃p,l[a+1]? =some p:=⟨l[a+1]'ab,ai⟩;obtain ⟨aw,x,B,C,D,-⟩:=u4 s (off:=0) (i:=a) (n:=len) aI J ab ab;obtain ⟨ax,v,y,F,z,-⟩:=u4 s (off:=0) (i:=a+1) (n:=len) aK J ab ab;simp only [go_sem,hF,I,ae,x,B,C,D,v,y,F,z];refine dy.aE ?_ ?_<;>intro aC
    . clear x B C D v y F z N I;have aW:=Gz (id:=id) (g:=g) (off:=0) aH;have al:iL (.ref id g (0+(a+1)) 1 (len-(a+1)) false)=some (.int .i64 (len-(a+1):Nat)):=rfl;have M: ∀a6,O a6 (.ref id g (0+(a+1)) 1 (len-(a+1)) false)= .ref id g (0+(a+1)) 1 (len-(a+1)) false:=λ_=>rfl;have bt:aD (.ref id g (0+(a+1)) 1 (len-(a+1)) false)=true:=rfl;generalize aN:aa.ref id g (0+(a+1)) 1 (len-(a+1)) false=aX at*;simp only [go_sem,hF,aW];generalize w:a1 _ _ _ _ _ _ _ _ _ _=T;revert T;refine rP _ _ _ _ (λh tm S=> ∃c b j,S=o c b/\c<=g/\b.length=len/\eC b/\a+1<=j/\j<=a+1+h/\h+1<=len-(a+1)/\aM 61 [(0,.ref id g 0 1 len false),(3,.int .i64 (j:Nat)),(4,aX),(5,.int .i64 ((h+1:Nat):Int))] tm) len ab ⟨d,l,a+1,rfl,J,ak,an,aT _,ab,ab,by simp only [go_sem,hF,M];rfl⟩ ?_;clear hF;rintro h tm _ bm ⟨c,b,j,rfl,K,aj,w,aG,bp,bl,hF⟩;obtain ⟨bx,aL⟩: ∃p,b[j]? =some p:=⟨b[j]'ab,ai⟩;have a7:IntKind.i64.wrap ((j:Int)+1)=((j+1:Nat):Int):=by rw [wrap64 _ ab ab];rfl
      by_cases br:h+1<len-(a+1)
      . have V:decide (((h+1:Nat):Int)<((len-(a+1):Nat):Int))=true:=decide_eq_true ab;have ae:IntKind.i64.wrap (((h+1:Nat):Int)-1)=(h:Nat):=by rw [wrap64 _ ab ab];omega
        have N:IntKind.i64.wrap (((h+1:Nat):Int)+1)=((h+1+1:Nat):Int):=by rw [wrap64 _ ab ab];rfl
        obtain ⟨bu,aJ⟩: ∃p,b[0+(a+1)+h]? =some p:=⟨b[0+(a+1)+h]'ab,ai⟩;obtain ⟨ar,ao⟩: ∃p,b[0+(a+1)+(h+1)]? =some p:=⟨b[0+(a+1)+(h+1)]'ab,ai⟩;obtain ⟨aw,x,B,C,D,-⟩:=u4 s (off:=0+(a+1)) (i:=h) (n:=len-(a+1)) aJ K rfl ab;obtain ⟨ax,v,y,F,z,-⟩:=u4 s (off:=0+(a+1)) (i:=h+1) (n:=len-(a+1)) ao K rfl ab;obtain ⟨a8,aA,aB,ba,-,Y⟩:=u4 s (off:=0) (i:=j) (n:=len) aL K ab ab;have Y:=Y ar;rw [aN] at x v;simp only [go_sem,hF,M,al,V,ae,x,B,C,D,v,y,F,z];refine dy.aE ?_ ?_<;>intro bb<;>simp only [go_sem,hF,M,v,y,z,aA,aB,Y,N,a7]
        . exact dy.next (by show h<len;omega) ⟨c,b,j,rfl,K,aj,w,aG,ab,ab,ay⟩
        . exact dy.next (by show h<len;omega) ⟨g,b.set j ar,j+1,rfl,aT _,by rw [aiY,aj],λP A=>by
           rcases C4 A with A|rfl
           . exact w P A
           . exact w P (aV ao),ab,ab,ab,ay⟩
      . have V:decide (((h+1:Nat):Int)<((len-(a+1):Nat):Int))=false:=decide_eq_false ab;have aY:=Gz (id:=id) (g:=g) (off:=0) (n:=len) (k:=j) ab;have aZ:=PG (id:=id) (g:=g) (n:=len) (k:=j) ab ab;have au:=PF s (d:=c) (L:=b) (k:=j) (n:=len-j) ab ab;rw [gH] at au;simp only [go_sem,hF,M,al,V];refine dy.stop rfl ?_;simp only [go_sem,hF,aY,au,aZ,bH];refine dy.stop rfl ?_;simp only [go_sem,hF];exact bn.mk ⟨b.take j,List.replicate (len-j) (0,0),g,by rw [h6,Nat.min_eq_left ab],ah _ _ _,λP A=>w P (hQ A),by rw [h6];omega,aT _⟩
    . simp only [go_sem,hF,aC,N];exact dy.next (by show a<len;omega) ⟨rfl,ab,ay⟩
  . have I:decide (((a+1:Nat):Int)<(len:Int))=false:=decide_eq_false ab;simp only [go_sem,hF,I];exact dy.stop rfl (by simp only [go_sem,hF];exact av rfl)
 obtain ⟨_,_,⟨e,m,c,rfl,rfl,aR,aS,aU⟩,W⟩:=aP;exact ⟨e,m,c,aR,aS,aU,W⟩
@[go_sem] theorem acW (a b H):cT G 22 1 [(0,.str a b)] H=some (.A [[.str a b]] true,H):=aq
@[go_sem] theorem acX (a b c d H):cT G 22 2 [(0,.str a b),(1,.str c d)] H=some (.A [[.str a b],[.str c d]] true,H):=aq
@[go_sem] theorem acY (a b c d e f H):cT G 22 3 [(0,.str a b),(1,.str c d),(2,.str e f)] H=some (.A [[.str a b],[.str c d],[.str e f]] true,H):=aq
def nx {α:Type}:List (Nat×Nat×α)->α->Nat->Nat->α
 | [],a,_,_=>a
 |(d,e,f)::t,a,b,c=>if b==d&&c==e then f else nx t a b c
def dc {α:Type} {a b x t} {d:α} {l m:Nat} (c:(l==a&&m==b)=true):nx ((a,b,x)::t) d l m=x:=by rw [nx,if_pos c]
theorem db {α:Type} {a b x t} {d:α} {l m:Nat} (c:(l==a&&m==b)=false):nx ((a,b,x)::t) d l m=nx t d l m:=by rw [nx,c];rfl
def Bq {α:Type} (P:α->Prop) (d:α) (l m:Nat) (a:P d): ∀t:List (Nat×Nat×α),(∀r∈t,P r.2.2)->P (nx t d l m)
 | [],_=>a
 | (b,c,f)::t,e=>by
   rw [nx];split
   . simp_all
   . exact Bq P d l m a t ah
def akt {a:List aa} {k:Nat} {v:aa} {tm:List aa} (b:r a k v=tm) (c:k<a.length):M tm k=v:=by rw [<-b,vn];simp [c]
def q5 (l m:Nat):Y:=nx [(3,6579297,[[.str 3 7630409],[.str 3 7630409]]),(3,6452595,[[.str 3 7630409],[.str 3 7630409]]),(3,7107949,[[.str 3 7630409],[.str 3 7630409]]),(3,7760228,[[.str 3 7630409],[.str 3 7630409]]),(3,6582125,[[.str 3 7630409],[.str 3 7630409]]),(2,29804,[[.str 3 7630409],[.str 3 7630409]]),(2,25964,[[.str 3 7630409],[.str 3 7630409]]),(2,29799,[[.str 3 7630409],[.str 3 7630409]]),(2,25959,[[.str 3 7630409],[.str 3 7630409]]),(3,6776174,[[.str 3 7630409]]),(4,1954047348,[[.str 3 7630409]]),(2,29029,[[.str 3 7958081],[.str 3 7958081]]),(2,25966,[[.str 3 7958081],[.str 3 7958081]]),(3,6581857,[[.str 4 1819242306],[.str 4 1819242306]]),(2,29295,[[.str 4 1819242306],[.str 4 1819242306]]),(3,7630702,[[.str 4 1819242306]]),(4,1801677168,[[.str 4 1819242306],[.str 3 7958081],[.str 3 7958081]]),(3,7627107,[[.str 4 1954047316],[.str 4 1954047316]]),(6,114849160783212,[[.str 4 1953720652]]),(4,1852403562,[[.str 4 1953720652],[.str 4 1953720652]]),(3,7628135,[[.str 3 7364941],[.str 3 7958081]]),(3,7561576,[[.str 3 7364941],[.str 3 7958081]]),(3,7103844,[[.str 3 7364941],[.str 3 7958081]]),(3,7632240,[[.str 3 7364941],[.str 3 7958081],[.str 3 7958081]]),(4,1937335659,[[.str 3 7364941]]),(4,1702521203,[[.str 3 7364941]]),(2,29545,[[.str 3 7958081],[.str 4 1954047316]])] [[.str 3 7958081]] l m
def pd (l m:Nat):Nat×Nat:=nx [(3,6579297,(3,7630409)),(3,6452595,(3,7630409)),(3,7107949,(3,7630409)),(3,7760228,(3,7630409)),(3,6582125,(3,7630409)),(3,6776174,(3,7630409)),(6,114849160783212,(3,7630409)),(4,1702521203,(3,7630409)),(3,7627107,(4,1954047316)),(4,1954047348,(4,1954047316)),(4,1852403562,(4,1953720652)),(4,1937335659,(4,1953720652)),(3,7632240,(3,7364941)),(3,7103844,(3,7364941)),(4,1801677168,(3,7958081)),(3,7628135,(3,7958081))] (4,1819242306) l m
theorem U9 (l m:Nat):K 304 [.str l m] (.A (q5 l m) true):=by
 refine C.run (m:=57) rfl rfl rfl rfl rfl rfl rfl rfl 0 λj k h i g d=> ?_;unfold q5;simp only [go_sem]
 iterate 27
  generalize hT:r _ _ _=f;have hF:M f 3= .str l m:=aY;have c:f.length=58:=aY;have b:=akt hT (by simp only [go_sem, *]);clear hT;refine e.aE ?_ ?_<;>intro a
  . rw [dc a];simp only [go_sem,c,b,a];exact e.mk rfl d (U.refl _)
  rw [db a];simp only [go_sem,hF,c,b,a]
 exact e.mk rfl d (U.refl _)
def Ou (l m:Nat):b8 (q5 l m)/\(q5 l m).length<=3:=by
 unfold q5;refine Bq (λc=>b8 c/\c.length<=3) _ l m ?_ _ λb a=> ?_
 . exact ⟨λb a=>by obtain rfl:=bs.1 a;exact ⟨_,_,rfl,by unfold T;decide,al⟩,al⟩
 . simp only [b2,dG,or_false] at a;rcases a with rfl|rfl|rfl|rfl|rfl|rfl|rfl|rfl|rfl|rfl|rfl|rfl|rfl|rfl|rfl|rfl|rfl|rfl|rfl|rfl|rfl|rfl|rfl|rfl|rfl|rfl|rfl
   all_goals
    refine ⟨λb a=> ?_,al⟩;simp only [b2,dG,or_false] at a;rcases a with rfl|rfl|rfl<;>exact ⟨_,_,rfl,by unfold T;decide,al⟩
theorem VH (l m:Nat):K 305 [.str l m] (.str (pd l m).1 (pd l m).2):=by
 refine C.run (m:=24) rfl rfl rfl rfl rfl rfl rfl rfl 0 λj k h i g d=> ?_;unfold pd;simp only [go_sem]
 iterate 16
  generalize hT:r _ _ _=f;have hF:M f 3= .str l m:=aY;have c:f.length=25:=aY;have b:=akt hT (by simp only [go_sem, *]);clear hT;refine e.aE ?_ ?_<;>intro a
  . rw [dc a];simp only [go_sem,c,b,a];exact e.mk rfl d (U.refl _)
  rw [db a];simp only [go_sem,hF,c,b,a]
 exact e.mk rfl d (U.refl _)
def Y6 (l m:Nat):T (pd l m).1 (pd l m).2/\(pd l m).1<=4:=by
 unfold pd;refine Bq (λa:Nat×Nat=>T a.1 a.2/\a.1<=4) _ l m ⟨by unfold T;decide,al⟩ _ λc b=> ?_;simp only [b2,dG,or_false] at b;rcases b with rfl|rfl|rfl|rfl|rfl|rfl|rfl|rfl|rfl|rfl|rfl|rfl|rfl|rfl|rfl|rfl
 all_goals exact ⟨by unfold T;decide,al⟩
def uT (l m:Nat):Bool:=q7.any (isStr l m)
def sF (l m:Nat):List aa:=if uT l m then [.str l m,.A (q5 l m) true,.str (pd l m).1 (pd l m).2,.V,.int .i64 0,.int .i64 0,.V] else Aq
def Gd (l m:Nat) (d:T l m) (c:l<4611686018427387904):c6 (sF l m):=by
 unfold sF;split
 . have a:=Ou l m;have b:=Y6 l m;exact ⟨_,_,q5 l m,_,_,[],⟨⟨_,_,_,_,_,rfl,.inr ⟨_,rfl⟩,.inl ⟨rfl,rfl⟩,[],.inl ⟨rfl,rfl⟩,al,λ_ ag=>by cases ag⟩,d,b.1,c,ab,a.1,ab,λ_ ag=>(by cases ag),al⟩⟩
 . exact NJ
def VL (l m:Nat):K 242 [.str l m] (.av [.agg (sF l m),.bool (uT l m)]):=by
 obtain ⟨k,c⟩:=Dq l m;obtain ⟨n,h⟩:=U9 l m;obtain ⟨o,i⟩:=VH l m;refine C.run (m:=13) rfl rfl rfl rfl rfl rfl rfl rfl (k+n+o) λf g p q b d=> ?_;have c: ∀a,az G (X G R f g) 179 [.str l m] b a= .ok (.bool (uT l m)) a b:=λa=>c f g ab ab b a d;have h:=λa=>h f g ab ab b a d;have i:=λa=>i f g ab ab b a d;unfold sF;cases j:uT l m<;>rw [j] at c
 . simp only [go_sem,c];exact e.mk rfl d (U.refl _)
 . simp only [go_sem,c,h,i];exact e.mk rfl d (U.refl _)
@[go_sem] theorem agZ (E:Env) (tm H a t u v):gp E [.cell a t,.tmp u,.tmp v] tm H=(match dW E t (O a (M tm a)) tm H with
  |some w=>(if aD w&&(aD (M tm u)&&aD (M tm v)) then .ret (.av [w,M tm u,M tm v]) H else .fail)
  |none=> .fail):=by
 simp only [gp,hU,lx,Er];cases dW E t (O a (M tm a)) tm H<;>simp
def GA (rop j3:Y) (l m:Nat):Bool:=j0 rop l m||j0 j3 l m||uT l m
def mr (rop j3:Y) (l m:Nat):List aa:=if j0 rop l m then iQ rop l m else if j0 j3 l m then iQ j3 l m else sF l m
def Bl {rop j3:Y} (a: ∀r∈rop,c6 r) (b: ∀r∈j3,c6 r) (l m:Nat) (d:T l m) (c:l<4611686018427387904):c6 (mr rop j3 l m):=by
 unfold mr;split
 . exact qA a l m
 . split
   . exact qA b l m
   . exact Gd l m d c
def zU (kN rop j3:Y) (k:Int) (l1 m1 c d:Nat):Nat×Nat:=if k=1 then (3,7630409) else if k=2 then (4,1819242306) else if k=3 then (4,1954047316) else if k=4 then (2,25673) else if k=7 then (4,1953720652) else if k=8 then (3,7364941) else
 if k=5 then (match mr rop j3 l1 m1 with
  |_::_:: .str a b::_=>(a,b)
  |_=>(0,0)) else if my kN c d then (c,d) else (0,0)
section
variable {ax:aa} {s:List aa} {kN jv rop j3 aJ:Y} (ag:dO ax s kN jv rop j3 aJ)
include ag
theorem Dr (l m:Nat) (O:T l m) (B:l<4611686018427387904):K 165 [ax,.str l m] (.av [.agg (mr rop j3 l m),.bool (!(j0 rop l m)),.bool (GA rop j3 l m)]):=by
 obtain ⟨X,b⟩:=(MO ag).c (l,m) trivial;obtain ⟨Y,f⟩:=(MN ag).c (l,m) trivial;obtain ⟨Z,q⟩:=VL l m;obtain ⟨x,aT,az,-⟩:=ag.val;have au:=qA ag.bT.op l m;have aw:=qA ag.bT.cP l m;have ay:=Gd l m O B;refine C.run (m:=28) rfl rfl rfl rfl rfl (by simp only [aO,az];rfl) rfl rfl (X+Y+Z) λv w B aG p d=> ?_;have b:=λj=>b v w ab ab p j d;have f:=λj=>f v w ab ab p j d;have q:=λj=>q v w ab ab p j d;unfold mr GA;generalize iQ rop l m=aM at*;generalize iQ j3 l m=aN at*;generalize sF l m=aP at*;obtain ⟨ad,ak,aA,ah,ao,aQ,⟨⟨y,E,H,P,S,rfl,g,i,⟨aH,h,-⟩⟩,-⟩⟩:=au;obtain ⟨ae,al,aB,ai,aq,aR,⟨⟨z,F,I,Q,V,rfl,k,o,⟨aK,n,-⟩⟩,-⟩⟩:=aw;obtain ⟨af,an,aC,aj,ar,aS,⟨⟨A,G,L,R,W,rfl,r,u,⟨aL,t,-⟩⟩,-⟩⟩:=ay;have aD: ∀a,D (a+1) y=true/\D (a+1) H=true/\D (a+1) E=true:=λa=>⟨g.aI a,i.aI a,h.aI a⟩;have aE: ∀a,D (a+1) z=true/\D (a+1) I=true/\D (a+1) F=true:=λa=>⟨k.aI a,o.aI a,n.aI a⟩;have aF: ∀a,D (a+1) A=true/\D (a+1) L=true/\D (a+1) G=true:=λa=>⟨r.aI a,u.aI a,t.aI a⟩;cases M:j0 rop l m<;>rw [M] at b
 . cases N:j0 j3 l m<;>rw [N] at f
   . simp only [go_sem,x,b,f,q,g.J,i.J,h.J,k.J,o.J,n.J,r.J,u.J,t.J];exact e.mk (by show (([aa.str af an,A,.str aj ar,G,.int .i64 R,.int .i64 W,L]:List aa).all (D 18)&&_)=true;rw [vj r u t];rfl) d (U.refl _)
   . simp only [go_sem,x,b,f,g.J,i.J,h.J,k.J,o.J,n.J];exact e.mk (by show (([aa.str ae al,z,.str ai aq,F,.int .i64 Q,.int .i64 V,I]:List aa).all (D 18)&&_)=true;rw [vj k o n];rfl) d (U.refl _)
 . simp only [go_sem,x,b,g.J,i.J,h.J];exact e.mk (by show (([aa.str ad ak,y,.str ah ao,E,.int .i64 P,.int .i64 S,H]:List aa).all (D 18)&&_)=true;rw [vj g i h];rfl) d (U.refl _)
theorem U2 {r k n l1 m1 f g y z ky i} (a:kX r k n l1 m1 f g y z ky i):K 87 [ax,.agg r] (.str (zU kN rop j3 k l1 m1 f g).1 (zU kN rop j3 k l1 m1 f g).2):=by
 obtain ⟨F,j⟩:=Dr ag l1 m1 a.c5 a.s1;obtain ⟨G,l⟩:=I_ ag f g;obtain ⟨H,aa,I,-⟩:=ag.val;have x:=Bl ag.bT.op ag.bT.cP l1 m1 a.c5 a.s1;refine C.run (m:=39) rfl rfl rfl rfl rfl (by simp only [aO,I];rfl) rfl rfl (F+G) λq t M N b o=> ?_;have j:=λp=>j q t ab ab b p o;have l:=λp=>l q t ab ab b p o;obtain ⟨rfl,D,E⟩:=a.c;unfold zU;generalize mr rop j3 l1 m1=V at*;obtain ⟨Q,S,L,R,T,Z,⟨⟨d,W,Y,O,P,rfl,w,B,⟨X,A,-⟩⟩,-⟩⟩:=x;have u: ∀ {d h:Nat×Nat},d=h->e (.str d.1 d.2) b (.ret (.str h.1 h.2) b):=λag=>by subst ag;exact e.mk rfl o (U.refl _)
 simp only [go_sem,D.J,E.J]
 iterate 8 all_goals try (refine e.aE ?_ ?_<;>intro v<;>simp only [go_sem,v,H,j,l,w.J,B.J,A.J])
 all_goals exact @u _ (_,_) de
def eh (kN rop j3:Y) (x:List aa):Nat×Nat:=match x with
 | [.int _ a,_,.str b d,.str c e,_,_]=>zU kN rop j3 a b d c e
 |_=>(0,0)
theorem v_ {x} (a:aN x):K 87 [ax,.agg x] (.str (eh kN rop j3 x).1 (eh kN rop j3 x).2):=by obtain ⟨f,i,b,d,c,e,j,k,g,h,a,-,-⟩:=a.ea;have:=U2 ag a;obtain ⟨rfl,-⟩:=a;exact this
theorem Ja {r} (e:aN r):dt 184 [ax,.agg r] dI bQ:=by
 induction e with
 | @mk r ba n P R Q S bq br u bb e L aW ar _=>
 obtain ⟨av,D⟩:=aL.j8 ar;obtain ⟨aw,E⟩:=I_ ag Q S;obtain ⟨az,F⟩:=Dr ag P R e.c5 e.s1;have aj:=Bl ag.bT.op ag.bT.cP P R e.c5 e.s1;obtain ⟨aA,G⟩:=C.all (l:=u) (f:=87) (g:=λa=> [ax,.agg a]) (v:=λa=> .str (eh kN rop j3 a).1 (eh kN rop j3 a).2) λa p=>v_ ag (L a p);obtain ⟨aB,H⟩:=MQ ag;obtain ⟨z,bp,aP,-⟩:=ag.val;refine aL.run (m:=71) rfl rfl rfl rfl rfl (by simp only [aO,aP];rfl) rfl rfl (av+aw+az+aA+aB+u.length+1) λw x aX aZ h b=> ?_;have D:=λa p=>D w x ab ab a p h b;have E:=λd=>E w x ab ab h d b;have F:=λd=>F w x ab ab h d b;have G:=λa p d=>G w x ab ab a p h d b;have H:=λaG aH Q S d=>H w x ab ab (aG,aH,Q,S) trivial h d b;obtain ⟨rfl,-,-,-,-,c,aq,a6,a7⟩:=e;generalize mr rop j3 P R=bh at*;obtain ⟨bc,bf,B,bd,bg,bm,⟨⟨aR,bj,bl,a8,y,rfl,j,an,⟨bk,al,-⟩⟩,-,-,-,-,ao,-,-,-⟩⟩:=aj;simp only [go_sem,c.J,aq.J,c.O,c.len];generalize ah:a1 _ _ _ _ _ _ _ _ _ _=A;revert A;have hF:=trivial;refine dA [0,3,13,7] (λ_=>True) u.length trivial ?_ ?_
 . intro y s d K I hF;obtain ⟨a,q⟩:=bA K;have o:=aV q;obtain ⟨bo,⟨aT,rfl⟩,aa⟩:=D a o;obtain ⟨aF,aI,W,Y,X,Z,aM,aQ,aC,aD,rfl,M,N⟩:=(L a o).t;simp only [go_sem,hF,c.O,c.a_ (k:=6) q rfl,M.J,N.J,z,aa];refine au.aE ?_ ?_<;>intro i<;>simp only [go_sem,i]
   all_goals first
    |exact au.next () rfl trivial ay
    |exact au.stop rfl (by simp only [go_sem,hF];exact ak.bW b (U.refl _))
 intro s d I hF;simp only [go_sem,hF];refine ak.aE ?_ ?_<;>intro i<;>simp only [go_sem,hF,i,z,E]
 . exact ak.bW b (U.refl _)
 refine ak.aE ?_ ?_<;>intro ae<;>simp only [go_sem,hF,ae,z,F,j.J,an.J,al.J]
 . exact ak.bW b (U.refl _)
 refine ak.aE ?_ ?_<;>intro af<;>simp only [go_sem,hF,af,j.len,j.O,c.len,c.O]
 rotate_left
 . exact ak.bW b (U.refl _)
 refine ak.aE ?_ ?_<;>intro T<;>simp only [go_sem,hF,T,c.len,c.O]
 . exact ak.bW b (U.refl _)
 have aY:B.length=u.length:=by simp at T;omega
 generalize ah:a1 _ _ _ _ _ _ _ _ _ _=A;revert A;refine dA [0,7,54] (λ_=>True) u.length trivial ?_ ?_
 . intro y s d K I hF;obtain ⟨a,q⟩:=bA K;obtain ⟨aK,V⟩: ∃r,B[y]? =some r:=⟨B[y]'ab,ai⟩;have o:=aV q;have ad:=G a o;obtain ⟨aS,aU,rfl,-⟩:=ao aK (aV V);generalize eh kN rop j3 a=bn at*;obtain ⟨aF,aI,W,Y,X,Z,aM,aQ,aC,aD,rfl,M,N⟩:=(L a o).t;simp only [go_sem,hF,c.O,c.a_ (k:=6) q rfl,M.J,N.J,z,ad,j.O,j.a_ (k:=1) V rfl,H];refine au.aE ?_ ?_<;>intro i<;>simp only [go_sem,i]
   all_goals first
    |exact au.next () rfl trivial ay
    |exact au.stop rfl (by simp only [go_sem,hF];exact ak.bW b (U.refl _))
 . intro s d I hF;simp only [go_sem,hF];exact ak.bW b (U.refl _)
end
section
variable {ax:aa} {s:List aa} {kN jv rop j3 aJ:Y} (ag:dO ax s kN jv rop j3 aJ)
include ag
omit ag in
abbrev ru (ax:aa) (H:af) (b:Bool):af:=(H.push (.cells (q 65) (q 65) 0 [ax])).push (.cells (q 4) (q 4) 0 [.bool b])
theorem Iw {H:af} (a:Tidy H) (b:Bool):Tidy (ru ax H b):=(a.push (by show [ax].all _=true;simp only [aO,ag.val.2.2.2.2.1];rfl)).push rfl
theorem SO (x:List aa) (a:aN x): ∃k,∀ad n,k<=ad->k<=n-> ∀(H:af) (b:Bool) (d:Int),Tidy H->True->0<1->
  ∃e,True/\0<=0+1/\ ∀tm,cx G (X G R ad n) (.fn (.func 186) [] [.ptr H.n (q 65) 0 1,.ptr (H.n+1) (q 4) 0 1]) [.agg x,.int .i64 d] (ru ax H b) tm= .ok (.av []) tm (ru ax H e):=by
 obtain ⟨A,F,g,h,D,I,L,M,V,W,a,-,-⟩:=a.ea;obtain ⟨B,i⟩:=Dr ag g h a.c5 a.s1;obtain ⟨K,ao,aq,ar,au,aw⟩:=ag.val;have t:=Bl ag.bT.op ag.bT.cP g h a.c5 a.s1;refine ⟨B+1,λad n P S H b d w _ _=> ?_⟩;obtain ⟨n,rfl⟩:=bY n;have i:=λtm=>i ad n ab ab (ru ax H b) tm (Iw ag w b);obtain ⟨rfl,y,z⟩:=a.c;generalize mr rop j3 g h=ai at*;obtain ⟨Y,ae,O,Z,ah,an,⟨⟨N,aj,al,T,U,rfl,r,v,⟨ak,u,-⟩⟩,-⟩⟩:=t;have C:=df.at (E:=G) (R:=R) (f:=186) (m:=20) (ad:=ad) (n:=n) (args:= [.agg [.int .i64 A,.int .i64 F,.str g h,.str D I,L,M],.int .i64 d,.ptr H.n (q 65) 0 1,.ptr (H.n+1) (q 4) 0 1]) (H:=ru ax H b)
  (Q:=λl j=>l= .av []/\ ∃e,j=ru ax H e) rfl rfl rfl rfl rfl rfl rfl rfl ?_
 . obtain ⟨l,j,⟨rfl,e,rfl⟩,o⟩:=C;exact ⟨e,trivial,ab,λtm=>by simp only [eg,a6,bl];exact o tm⟩
 simp only [go_sem,y.J,z.J]
 iterate 3 all_goals try (refine df.aE ?_ ?_<;>intro p<;>simp only [go_sem,p,yg,vo,K,i,r.J,v.J,u.J])
 all_goals exact df.mk rfl ⟨rfl,_,pV rfl⟩
theorem Jc {r:List aa} {n:Nat} (j:e1 r n) (f:n<=10000000):dt 124 [ax,.agg r] dI bQ:=by
 obtain ⟨y,z,A,B,N,O⟩:=ag.val;obtain ⟨w,o⟩:=wa (ι:=af) (σ:=Bool) (T:=Tidy) (P:=λ_ _=>True) (W:=λ_=>0) (cS:=λa d=>ru ax a d) (pE:=10000001)
  (fv:=λa=> .fn (.func 186) [] [.ptr a.n (q 65) 0 1,.ptr (a.n+1) (q 4) 0 1]) (λa d b _=>Iw ag b d) (λ_=>⟨rfl,λ_=>rfl⟩) (λ_ _ _ _ _=>pV rfl) (λC g=>by obtain ⟨k,p⟩:=SO ag C g;exact ⟨k,λh n t f a d l b _ _=>by obtain ⟨i,-,-,e⟩:=p h n t f a d l b trivial al;exact ⟨i,trivial,ab,e⟩⟩) j f
 obtain ⟨k,K,H,L,I,M,Q,R,F,G,g,-,-⟩:=j.wt.ea;refine aL.run (m:=8) rfl rfl rfl rfl rfl (by simp only [aO,A];rfl) rfl rfl w λh x D E a b=> ?_;obtain ⟨i,-,-,e⟩:=o h x ab ab a false 1 b trivial ab;obtain ⟨rfl,u,v⟩:=g.c;simp only [go_sem,u.J,v.J,y,z,B,lq,e,vo];exact ak.bW b (((U.refl a).push _).push _)
end
def fA (v:aa):Prop:= ∃(a:Int) (d e:Nat) (b c:Int),v= .iface 78 (.agg [.int .i64 a,.str d e,.int .i64 b,.int .i64 c])/\a≠0
theorem fA.aI {v} (a:fA v) (d:Nat):D (d+3) v=true:=by obtain ⟨e,f,g,b,c,rfl,-⟩:=a;rfl
def fK (f:Nat) (args:List aa) (ad n:Nat) (H:af):Prop:=(∀a,az G (X G R ad n) f args H a= .ok (.av []) a H)\/ ∃b,fA b/\ ∀a,az G (X G R ad n) f args H a= .aK b H
def o6 {f:Nat} {args:List aa} {ad n:Nat} {H:af} (ag:(∃v,lL v/\ ∀tm,az G (X G R ad n) f args H tm= .ok v tm H)\/(∃v,fA v/\ ∀tm,az G (X G R ad n) f args H tm= .aK v H)):fK f args ad n H:=by
 rcases ag with ⟨v,rfl,a⟩|ag
 . exact .inl a
 . exact .inr ag
def dP (H:af) (c:aa) (d:List aa) (ax:aa):Prop:= ∃id a b e,c= .ptr id a 0 14/\H.get id=some (.cells a b e (d++ [ax]))/\b<=a/\d.length=13
def dP.up {H H':af} {c d ax} (ag:dP H c d ax) (h:H.l.length=H.n) (i:U H H'):dP H' c d ax:=by
 obtain ⟨id,b,a,j,e,f,g⟩:=ag;exact ⟨id,b,a,j,e,i.get h f,g⟩
def abt (c:Int) (f:c≠0):su G R 109 (λ_:Nat×Nat×Int×Int=>True) (λp=> [.int .i64 c,.str p.1 p.2.1,.int .i64 p.2.2.1,.int .i64 p.2.2.2]) (λp=> .iface 78 (.agg [.int .i64 c,.str p.1 p.2.1,.int .i64 p.2.2.1,.int .i64 p.2.2.2])):=by
 refine su.run (m:=10) rfl rfl rfl rfl (λ_=>rfl) (λ_ _=>rfl) rfl rfl 0 λj l g h a _ d b=> ?_;obtain ⟨i,k,a,e⟩:=a;simp only [go_sem];exact q3.mk rfl b (U.refl _)
def abu (c:Int) (g:c≠0):su G R 63 (λ_:Nat×Nat×Int×Int=>True) (λp=> [.agg [.int .i64 p.2.2.1,.int .i64 p.2.2.2],.int .i64 c,.str p.1 p.2.1]) (λp=> .iface 78 (.agg [.int .i64 c,.str p.1 p.2.1,.int .i64 p.2.2.1,.int .i64 p.2.2.2])):=by
 obtain ⟨h,a⟩:=abt c g;refine su.run (m:=10) rfl rfl rfl rfl (λ_=>rfl) (λ_ _=>rfl) rfl rfl h λj l o q b _ e d=> ?_;obtain ⟨i,k,b,f⟩:=b;have a:=λn=>a j l ab ab (i,k,b,f) trivial e n d;simp only at a;simp only [go_sem,a];exact q3.mk rfl d (U.refl _)
def gu (c:Int) (f:c≠0):bo λad n=> ∀(l m:Nat) (a b:Int) H tm,Tidy H->az G (X G R ad n) 63 [.agg [.int .i64 a,.int .i64 b],.int .i64 c,.str l m] H tm= .aK (.iface 78 (.agg [.int .i64 c,.str l m,.int .i64 a,.int .i64 b])) H:=by
 obtain ⟨h,ag⟩:=abu c f;exact ⟨h,λad n d e l m a b H tm g=>ag ad n d e (l,m,a,b) trivial H tm g⟩
def lO (c:Int) (d:c≠0) (l m:Nat) (a b:Int):fA (.iface 78 (.agg [.int .i64 c,.str l m,.int .i64 a,.int .i64 b])):=⟨c,l,m,a,b,rfl,d⟩
section
variable {ax:aa} {s:List aa} {kN jv rop j3 aJ:Y} (ag:dO ax s kN jv rop j3 aJ)
include ag
theorem wb (rows:Y) (j: ∀r∈rows,aN r) (ah:rows.length<4611686018427387904):bo λad n=> ∀x c d (a b:Int) (l m:Nat) H,Tidy H->dP H c d ax->cG H 6 x rows->
  fK 123 [c,.agg [.int .i64 a,.int .i64 b],.str l m,x] ad n H:=by
 obtain ⟨P,w⟩:=aL.j8 (l:=rows) (f:=184) (g:=λr=> [ax,.agg r]) (S:=λ_=>dI) λr h=>Ja ag (j r h);obtain ⟨Q,y⟩:=gu 16 al;obtain ⟨R,aB,aC,aF,aG,aH⟩:=ag.val;refine ⟨P+Q+rows.length+2,λad n af ai x c d a b l m H i B e=> ?_⟩;obtain ⟨n,rfl⟩:=bY n;obtain ⟨id,o,aa,aw,rfl,E,D,C⟩:=B;have G: ∀r∈rows,r.length=6:=λr ag=>(j r ag).len;have A:(d++ [ax])[13]? =some ax:=by rw [vP ab,C];rfl
 refine o6 (aL.at (m:=23) rfl rfl rfl rfl rfl (by simp only [aO,e.aD];rfl) rfl rfl ?_);simp only [go_sem,e.O,e.len];generalize ae:a1 _ _ _ _ _ _ _ _ _ _=q;revert q;have hF:=trivial;refine dA [0,2,5,10] (λ_=>True) rows.length trivial ?_ ?_
 . intro aj s k F z hF;obtain ⟨r,p⟩:=bA F;have h:=aV p;obtain ⟨aA,⟨W,rfl⟩,u⟩:=w ad n ab ab r h H i;have v:=λl m a b k=>y ad n ab ab l m a b H k i;obtain ⟨av,I,K,L,-⟩:=e.at G p;obtain ⟨aq,ar,T,X,V,Z,az,aI,an,ao,rfl,M,N⟩:=(j r h).t;simp only [go_sem,hF,e.O,I,K,L,M.J,N.J,E,D,A,R,u];refine au.aE ?_ ?_<;>intro o<;>simp only [go_sem,hF,o,v]
   all_goals first
    |exact au.next () rfl trivial ay
    |exact au.stop rfl (by simp only [go_sem];exact ak.aK (lO 16 al _ _ _ _) rfl i (U.refl _))
 . intro s k z hF;simp only [go_sem];exact ak.un i (U.refl _)
end
def U4 (rows:Y) (N:Nat) (hN:N<1048560) (aG:bL rows N):bo λad n=> ∀x H,Tidy H->cG H 6 x rows->
    ∃v,uO N v/\ ∀tm,az G (X G R ad n) 189 [x] H tm= .ok v tm H:=by
 obtain ⟨i,z,s⟩:=aG;have aJ: ∀b∈rows,i b<=N:=λb k=>eT (o3 k) s;have bf:rows.length<=N:=eT (qq λx o=>(z x o).pos) s;obtain ⟨aP,an⟩:=dE (l:=rows) (Q:=λb ad aS=> ∀(H:af) (a:List (Nat×Nat)) (ah:Int),Tidy H->eC a->a.length+i b<=1048560->
  ∃f,eC f/\f.length<=a.length+i b/\ ∀tm,az G (X G R ad aS) 185 [.agg b,.int .i64 ah,Ac H] (dr H a) tm= .ok (.av []) tm (dr H f)) λb j=>abD (z b j) (by have:=aJ b j;omega)
 obtain ⟨aQ,ao⟩:=Um;refine ⟨aP+aQ+rows.length+3,λad n bc bg x H u o=> ?_⟩;obtain ⟨n,rfl⟩: ∃aR,n=aR+2:=⟨n-2,ab⟩;have ax: ∀b∈rows,b.length=6:=λb j=>(z b j).wt.len;refine hg (aL.at (m:=19) rfl rfl rfl rfl rfl (by simp only [aO,o.aD];rfl) rfl rfl ?_);simp only [go_sem,o.O,o.len];generalize bb:a1 _ _ _ _ _ _ _ _ _ _=ag;revert ag;refine hz _ _ _ _ (σ:=List (Nat×Nat)) (λ_=> [(3,.ptr H.n (q 22) 0 1),(6,x)]) (λa=>dr H a) (λw a=>eC a/\a.length<=((rows.take w).map i).sum) 20 rows.length [] rfl rfl (λ_=>rfl) rfl ⟨λ_ j=>(by cases j),fV _⟩
  dC ab ab ?_ ?_
 . intro w ae tm aw E hF;obtain ⟨E,bh⟩:=E;obtain ⟨b,D⟩:=bA aw;have k:=aV D;have bk:((rows.take (w+1)).map i).sum=((rows.take w).map i).sum+i b:=by rw [fg,D];simp
   have bl:=si i rows (w+1);obtain ⟨aW,aH,bj,aj⟩:=an ad (n+1) ab ab b k H ae 1 u E ab;obtain ⟨p,aC,aE,aF,-⟩:=(o.up u.1 (Ad H ae 0)).at ax D;obtain ⟨bp,bq,aY,a6,aZ,a7,br,bs,bm,bn,aN,-,-⟩:=(z b k).wt.ea;obtain ⟨rfl,aK,aM⟩:=aN.c;simp only [go_sem,hF,o.O,aC,aE,aF,aK.J,aM.J,aj];exact au.next aW rfl ⟨aH,ab⟩ ay
 . rintro a tm ⟨r,W⟩ hF;rw [bX] at W;have T:a.length<1048560:=ab;have t:=λtm=>Dy (ad:=ad) (n:=n) (H:=H) T tm;have B:=ph a
   cases a with
   | nil=>
     have y:=Un (ad:=ad) (n:=n);simp only [go_sem,hF,E_,Ae,t];rw [zV];simp only [go_sem,hF,cO,y];exact .inl ⟨.V,⟨[],.inl ⟨rfl,rfl⟩,(λ_ j=>by cases j),fV _⟩,e.mk rfl u (Ad H _ _)⟩
   | cons d a=>
     obtain ⟨h,g,A⟩: ∃h g,eW (d::a)=h::g:=by
      cases s:eW (d::a) with
      |nil=>rw [s] at B;simp at B
      |cons h g=>exact ⟨h,g,rfl⟩
     rw [A] at B;simp only [cl] at B T W;have aB:eC (h::g):=by rw [<-A];exact r.sort
     have k:g.length=a.length:=ab;have L:eY 9 22 H ((d::a).length-1) (eW (d::a))=mq H (cO 9 H.n (d::a)) (q 9+a.length) (q 9+a.length) (h::g):=by rw [A];simp only [eY,cO,k,cl,tD]
     have hT:Tidy (mq H (cO 9 H.n (d::a)) (q 9+a.length) (q 9+a.length) (h::g)):=by
      rw [<-L,A];have C:=Fb u (h::g);refine ⟨C.1,λaU r=> ?_⟩;simp only [eY,af.push,b2] at r;rcases r with rfl|rfl|r
      . exact ba.2 λv F=>by obtain ⟨p,-,rfl⟩:=cd.1 F;rfl
      . exact C.2 _ (by simp [eY,af.push])
      . exact C.2 aU (by simp [eY,af.push,r])
     obtain ⟨f,I,K,aA,bd,aq,y⟩:=ao ad (n+1) ab ab H (cO 9 H.n (d::a)) (q 9+a.length) (q 9+a.length) (a.length+1) (h::g) hT aB (by simp [k]) ab ab (aT _) ab ab;have P:(mq H (cO 9 H.n (d::a)) (q 9+a.length) (q 9+a.length) (h::g)).get H.n=some (.cells (q 22) (q 22) 0 [cO 9 H.n (d::a)]):=ta _ _ _;have M:(dr H (d::a)).get H.n=some (.cells (q 22) (q 22) 0 [cO 9 H.n (d::a)]):=E_ H (d::a) 0;have t:=λtm=>Dy (ad:=ad) (n:=n) (H:=H) (l:=d::a) da tm;rw [L] at t;have ak:cO 9 H.n (d::a)= .ref (H.n+1) (q 9+a.length) 0 1 (a.length+1) false:=rfl;rw [ak] at t y M P;generalize a8:mq H (.ref (H.n+1) (q 9+a.length) 0 1 (a.length+1) false) (q 9+a.length) (q 9+a.length) (h::g)=aX at*;simp only [go_sem,hF,M,t,P,y];have ar:(mq H (.ref (H.n+1) (q 9+a.length) 0 1 (a.length+1) false) (q 9+a.length) K (f++I)).get (H.n+1)=some (.cells (q 9+a.length) K 0 ((f++I).map λp=>aa.str p.1 p.2)):=dL (H.push _) _;have s:sub ((f++I).map λp=>aa.str p.1 p.2) 0 (f.length*1)=some (f.map iu).flatten:=by unfold sub;rw [if_pos ai,rF,HK,vR,C7 ai]
     have Z:=o9 49 (H.n+1) (q 9+a.length) 0 1 f.length false _ ar aq al s (λv F=>fi _ 49 v (fr 20 49 v al ((Mo f).aI v F)));have S:=k3 1 (f.map iu) (aaz f);rw [di] at S;rw [S] at Z;exact .inl ⟨_,⟨f,.inr ⟨false,rfl⟩,aA,ab⟩,_,_,_,rfl,Z,gV u ((((U.refl H).push _).push _).set ab _) rfl⟩
def ra (l m:Nat):Bool:=l==0&&m==0
def ah3 (k v:Int) (l1 m1 a b n:Nat):Bool:=
 if k=1 then (n:Int)==0&&(aiW v||v==0||v==1)&&ra l1 m1&&ra a b else if k=2 then (n:Int)==0&&(v==0||v==1)&&ra l1 m1&&ra a b else
 if k=3 then (n:Int)==0&&aiE l1 m1&&v==0&&ra a b else if k=4 then (n:Int)==0&&aiv l1 m1&&v==0&&ra a b else
 if k=5 then ajb l1 m1&&decide ((n:Int)<=8)&&v==0&&ra a b else if k=7 then v==0&&ra l1 m1&&ra a b else if k=8 then (n:Int).tmod 2==0&&v==0&&ra l1 m1&&ra a b else false
def aiz (i:Y) (w:aa):Prop:= ∃a,w= .bool a/\(i= []->a=true)
def aiS (k v:Int) (l1 m1 b c:Nat) (ky i:Y) (w:aa):Prop:= ∃a,w= .bool a/\(a=true->k=1\/k=3\/k=4->ky= []/\i= [])/\(i= []->k≠6->a=ah3 k v l1 m1 b c ky.length)
def Az (k v:Int) (l1 m1 e f:Nat) (y z:aa) (ky i:Y) (h:Bool) (x w:aa):Prop:= ∃g a b c d ok,x= .W 0 [.int .i64 k,.int .i64 g,.str a b,.str c d,y,z]/\w= .bool ok/\(ok=true->k=1\/k=3\/k=4->h=true)/\
 (i= []->k≠6->(ok&&(v==g)&&(l1==a&&m1==b)&&(e==c&&f==d))=ah3 k v l1 m1 e f ky.length)
theorem Jy {r k n l1 m1 e f y z ky i} (h:kX r k n l1 m1 e f y z ky i)
  (N:k=7\/k=8-> ∀l m,dt 295 [.agg r,.str l m] (aiz i) bQ):dt 231 [.agg r] (aiS k n l1 m1 e f ky i) bQ:=by
 obtain ⟨ae,t⟩:=qn l1 m1 h.c5;obtain ⟨af,u⟩:=qn e f h.pw;obtain ⟨ag,F⟩:=(UP n);obtain ⟨ah,H⟩:=US l1 m1;obtain ⟨ai,I⟩:=UO l1 m1 h.c5;obtain ⟨aj,K⟩:=UQ l1 m1 h.c5 h.s1;have Y: ∃P,∀d n,P<=d->P<=n-> ∀b,Tidy b->(k=7\/k=8)->(∃B,aiz i B/\ ∀a,az G (X G R d n) 295 [.agg r,.str 4 1953720652] b a= .ok B a b)/\
   ∃B,aiz i B/\ ∀a,az G (X G R d n) 295 [.agg r,.str 3 7364941] b a= .ok B a b:=by
  by_cases x:k=7\/k=8
  . obtain ⟨C,Z⟩:=(N x _ _).val;obtain ⟨D,w⟩:=(N x _ _).val;exact ⟨C+D,λd n t u b L _=>⟨Z d n ab ab b L,w d n ab ab b L⟩⟩
  . exact ⟨0,λ_ _ _ _ _ _ h=>absurd h x⟩
 obtain ⟨al,v⟩:=Y;refine aL.run (m:=166) rfl rfl rfl rfl rfl rfl rfl rfl (ae+af+ag+ah+ai+aj+al) λd q aC aD b j=> ?_;have t:=λa=>t d q ab ab b a j;have u:=λa=>u d q ab ab b a j;have F:=λa=>F d q ab ab b a j;have H:=λa=>H d q ab ab b a j;have I:=λa=>I d q ab ab b a j;have K:=λa=>K d q ab ab b a j;have v:=v d q ab ab b j;obtain ⟨rfl,o,p⟩:=h.c;refine ak.seq (λa g=>b=g/\aM 167 [(1,.W 0 [.int .i64 k,.int .i64 n,.str l1 m1,.str e f,y,z]),(3,.av [])] a) ?_ ?_
 . simp only [go_sem,o.J,p.J];exact dD.mk ⟨rfl,dC⟩
 rintro a _ ⟨rfl,hF⟩;refine ak.seq (λa g=>b=g/\aM 167 [(1,.W 0 [.int .i64 k,.int .i64 n,.str l1 m1,.str e f,y,z]),(3,.W 0 [.int .i64 k,.int .i64 0,.str 0 0,.str 0 0,y,z])] a) ?_ ?_
 . simp only [go_sem,hF,o.J,p.J,o.O,p.O,o.cells,p.cells];exact dD.mk ⟨rfl,ay⟩
 clear hF;rintro a _ ⟨rfl,hF⟩;refine ak.seq (λa g=>b=g/\aM 167 [(1,.W 0 [.int .i64 k,.int .i64 n,.str l1 m1,.str e f,y,z]),(3,.W 0 [.int .i64 k,.int .i64 0,.str 0 0,.str 0 0,y,z])] a/\M a 4= .bool (((ky.length:Nat):Int)==0&&((i.length:Nat):Int)==0)) ?_ ?_
 . simp only [go_sem,hF,o.O,o.len];refine dD.aE ?_ ?_<;>intro s<;>simp only [go_sem,s,hF,p.O,p.len]
   all_goals exact dD.mk ⟨rfl,ay,by simp only [go_sem,hF,s];try simp⟩
 clear hF;rintro a _ ⟨rfl,hF,w⟩;generalize aw:(((ky.length:Nat):Int)==0&&((i.length:Nat):Int)==0)=E at w;refine ak.seq (λa g=>b=g/\aM 167 [(1,.W 0 [.int .i64 k,.int .i64 n,.str l1 m1,.str e f,y,z]),(3,.W 0 [.int .i64 k,.int .i64 0,.str 0 0,.str 0 0,y,z]),(4,.bool E),(5,.bool false)] a) ?_ ?_
 . simp only [go_sem];exact dD.mk ⟨rfl,by simp only [go_sem,hF,w]⟩
 clear hF w;rintro a _ ⟨rfl,hF⟩;refine ak.seq (λa g=>b=g/\aM 167 [(1,.W 0 [.int .i64 k,.int .i64 n,.str l1 m1,.str e f,y,z])] a/\Az k n l1 m1 e f y z ky i E (M a 3) (M a 5)) ?_ ?_
 . have done: ∀(A:List aa),aM 167 [(1,.W 0 [.int .i64 k,.int .i64 n,.str l1 m1,.str e f,y,z])] A->Az k n l1 m1 e f y z ky i E (M A 3) (M A 5)->dD (λa g=>b=g/\aM 167 [(1,.W 0 [.int .i64 k,.int .i64 n,.str l1 m1,.str e f,y,z])] a/\Az k n l1 m1 e f y z ky i E (M a 3) (M a 5)) {} (.normal A b []):=λA C D=>dD.mk ⟨rfl,C,D⟩;have Q:k=1\/k=2\/k=3\/k=4\/k=5\/k=6\/k=7\/k=8\/((k==1)=false/\(k==2)=false/\(k==3)=false/\(k==4)=false/\(k==5)=false/\(k==6)=false/\(k==7)=false/\(k==8)=false):=by simp only [beq_eq_false_iff_ne];omega
   rcases Q with rfl|rfl|rfl|rfl|rfl|rfl|rfl|rfl|x
   rotate_left 6
   iterate 2
    obtain ⟨⟨_,⟨ao,rfl,ax⟩,v⟩,_,⟨aq,rfl,aA⟩,V⟩:=v ab;simp only [go_sem,hF,v,V]
    rotate_left
   simp only [go_sem,hF,x]
   all_goals try simp only [go_sem,hF,K]
   iterate 8 all_goals try (refine dD.aE ?_ ?_<;>intro s<;>simp only [go_sem,s,hF,t,u,F,H,I,o.O,p.O,o.len,p.len])
   all_goals exact done _ ay (by simp only [go_sem,hF];exact ⟨_,_,_,_,_,_,rfl,rfl,de,by first|(simp_all [ah3,ra];done)|(simp_all [ah3,ra];intros;simp_all;done)|(simp_all [ah3,ra];grind)⟩)
 clear hF;rintro a _ ⟨rfl,hF,aF,C,D,ar,au,an,S,T,aB,ad⟩;simp only [go_sem,hF,T]
 iterate 3 all_goals try (refine ak.aE ?_ ?_<;>intro s<;>simp only [go_sem,s,hF,S])
 all_goals exact ak.mk ⟨_,rfl,by first|(simp_all;done)|(simp_all;intros;simp_all;done)|grind,λt u=>by rw [<-ad t u];first|(simp_all;done)|grind⟩ rfl j (U.refl _)
def Jr {r k n l1 m1 t u y z ky i} (a:kX r k n l1 m1 t u y z ky i) (W: ∀x∈i,aN x) (l m:Nat):dt 295 [.agg r,.str l m] (aiz i) bQ:=by
 cases i with
 | nil=>
   refine aL.run (m:=36) rfl rfl rfl rfl rfl rfl rfl rfl 0 λe v Q S b f=> ?_;obtain ⟨rfl,q,d⟩:=a.c;simp only [go_sem,q.J,d.J,d.O,d.len];exact ak.mk ⟨_,rfl,λ_=>rfl⟩ rfl f (U.refl _)
 | cons x i=>
   obtain ⟨s,ae,w,A,F,H,ag,ah,aa,ad,p⟩: ∃k n l1 m1 t u y z ky i,kX x k n l1 m1 t u y z ky i:=by cases W x (dF ..) with|mk a _ _=>exact ⟨_,_,_,_,_,_,_,_,_,_,a⟩
   obtain ⟨Y,g⟩:=qn w A p.c5;have M: ∃C,∀e n,C<=e->C<=n-> ∀b,Tidy b->s=6-> ∃D,aiS s ae w A F H aa ad D/\ ∀j,az G (X G R e n) 231 [.agg x] b j= .ok D j b:=by
    by_cases P:s=6
    . obtain ⟨E,N⟩:=(Jy p (λa=>by omega)).val;exact ⟨E,λe n g h b L _=>N e n g h b L⟩
    . exact ⟨0,λ_ _ _ _ _ _ a=>absurd a P⟩
   obtain ⟨Z,h⟩:=M;refine aL.run (m:=36) rfl rfl rfl rfl rfl rfl rfl rfl (Y+Z) λe v Q S b f=> ?_;have g:=λj=>g e v ab ab b j f;have h:=h e v ab ab b f;obtain ⟨rfl,q,d⟩:=a.c;obtain ⟨rfl,T,V⟩:=p.c;have I:(((List.length i+1:Nat):Int)==0)=false:=da;simp only [go_sem,q.J,d.J,T.J,V.J,d.O,d.len,I,d.vJ (k:=6) rfl rfl];refine ak.aE ?_ ?_<;>intro o<;>simp only [go_sem,o]
   . refine ak.aE ?_ ?_<;>intro B<;>simp only [go_sem,B]
     . obtain ⟨_,⟨af,rfl,-⟩,K⟩:=h (by simpa using B);simp only [go_sem,K]
       iterate 4 all_goals try (refine ak.aE ?_ ?_<;>intro o<;>simp only [go_sem,o,g])
       all_goals exact ak.mk ⟨_,rfl,λa=>by cases a⟩ rfl f (U.refl _)
     . exact ak.mk ⟨_,rfl,λa=>by cases a⟩ rfl f (U.refl _)
   . exact ak.mk ⟨_,rfl,λa=>by cases a⟩ rfl f (U.refl _)
def VK {r k n l1 m1 b c y z ky i} (a:kX r k n l1 m1 b c y z ky i) (d: ∀x∈i,aN x):dt 231 [.agg r] (aiS k n l1 m1 b c ky i) bQ:=Jy a λ_=>Jr a d
inductive ak1
  |n (k v:Int) (l1 m1 gJ mQ:Nat) (ky i:List ak1)
inductive aic:List aa->ak1->Prop
  |mk {r k v l1 m1 gJ mQ y z ky i} {ty tz:List ak1} (h:kX r k v l1 m1 gJ mQ y z ky i) (afG:ky.length=ty.length) (afH:i.length=tz.length) (dh: ∀(i:Nat) x t,ky[i]? =some x->ty[i]? =some t->aic x t) (cq: ∀(j:Nat) x t,i[j]? =some x->tz[j]? =some t->aic x t):aic r (.n k v l1 m1 gJ mQ ty tz)
def aN.iU {r} (b:aN r): ∃t,aic r t:=by
 induction b with
 | @mk r s n u w v x y z k l b _ _ p q=>
   classical
   let d:List aa->ak1:=λa=>if c: ∃t,aic a t then Classical.choose c else .n 0 0 0 0 0 0 [] []
   have i: ∀a∈k++l,aic a (d a):=λa c=>by have b: ∃t,aic a t:=(cr.1 c).elim (p a) (q a);have m:d a=Classical.choose b:=dif_pos b;rw [m];exact Classical.choose_spec b
   have j: ∀e:Y,(∀a∈e,aic a (d a))-> ∀(f:Nat) a t,e[f]? =some a->(e.map d)[f]? =some t->aic a t:=λe o f a t g h=>by rw [hO,g] at h;cases h;exact o a (aV g)
   exact ⟨_,.mk (ty:=k.map d) (tz:=l.map d) b ai ai (j _ λa c=>i a (hP _ c)) (j _ λa c=>i a (h7 _ c))⟩
def aic.uniq {r t} (e:aic r t): ∀ {c},aic r c->t=c:=by
 induction e with
 | @mk r z N F H G I P R B D J L e p s _ _ n o=>
   intro c g
   cases g with
   | @mk _ A O _ _ _ _ Q S C E K M g q u l m=>
     have j:=e.eq.symm.trans g.eq;simp only [jn,aa.int.injEq,aa.str.injEq,and_true,true_and] at j;obtain ⟨rfl,rfl,⟨rfl,rfl⟩,⟨rfl,rfl⟩,rfl,rfl⟩:=j;obtain rfl:=qe e.dh g.dh;obtain rfl:=qe e.cq g.cq;have k: ∀ {h:Y} {b d:List ak1},h.length=b.length->h.length=d.length->(∀(a:Nat) f t,h[a]? =some f->b[a]? =some t-> ∀ {c},d[a]? =some c->t=c)->b=d:=λ{h b d} x y e=>by refine List.ext_getElem ab λa v w=> ?_;exact e a (h[a]'ab) b[a] ai ai ai
     rw [k p q λa f t b d {c} i=>n a f t b d (l a f c b i),k s u λa f t b d {c} i=>o a f t b d (m a f c b i)]
open Classical in
noncomputable def ah2 (r:List aa):ak1:=if h: ∃t,aic r t then h.choose else .n 0 0 0 0 0 0 [] []
def aN.tree {r} (a:aN r):aic r (ah2 r):=by
 have b:ah2 r=a.iU.choose:=dif_pos a.iU;rw [b];exact a.iU.choose_spec
def ah9 {r k n l1 m1 l m y z ky i} (f:kX r k n l1 m1 l m y z ky i) (g: ∀x∈ky,aN x) (h: ∀x∈i,aN x):ah2 r= .n k n l1 m1 l m (ky.map ah2) (i.map ah2):=by
 have j: ∀a:Y,(∀x∈a,aN x)-> ∀(b:Nat) x c,a[b]? =some x->(a.map ah2)[b]? =some c->aic x c:=λa o b x c d e=>by rw [hO,d] at e;cases e;exact (o x (aV d)).tree
 exact (aN.mk f g h).tree.uniq (.mk f ai ai (j _ g) (j _ h))
def aib:ak1->Prop
 | .n a _ _ _ _ _ b c=>a≠6/\c= []/\ ∀d∈b,aib d
def aih:ak1->Prop
 | .n a _ _ _ _ _ b c=>(a=1\/a=3\/a=4->b= []/\c= [])/\ ∀d∈b,aih d
def om:Nat->List aa->Prop
 |0,_=>False
 |c+1,d=> ∀b a,d[4]? =some b->F b a-> ∀e∈a,om c e
abbrev o1 (H:af) (a:Int) (b:Bool):af:=H.push (.cells (q 201) (q 201) 0 [.int .i64 a,.bool b])
def tT {rows:Y} {j:Nat} {r x:List aa} (b:rows[j]? =some r) (a:x∈rows.take (j+1)):x∈rows.take j\/x=r:=by
 rw [fg,b] at a;simpa using a
mutual
def ah5:ak1->Int->Int->Option Int
 | .n d i e g f h c _,b,a=>if b<=60/\a+1<=2000/\ah3 d i e g f h c.length=true then ah7 c (b+1) (a+1) else none
def ah7:List ak1->Int->Int->Option Int
 | [],_,a=>some a
 |c::l,b,a=>(ah5 c b a).bind (ah7 l b)
end
def ajk (l1 b:List ak1) (d:Int): ∀a,ah7 (l1++b) d a=(ah7 l1 d a).bind (ah7 b d):=by
 induction l1 with
 |nil=>intro a;simp [ah7]
 | cons f g e=>
   intro a;simp only [bl,ah7]
   cases ah5 f d a with
   |none=>rfl
   |some c=>exact e c
mutual
def ajP: ∀(t:ak1) (d a b:Int),0<=a->a<=2000->ah5 t d a=some b->0<=b/\b<=2000
 | .n h o j l k m e i,d,a,b,f,g,c=>by
   simp only [ah5] at c;split at c
   . exact ai1 e _ _ _ ab ab c
   . cases c
def ai1: ∀(l:List ak1) (d a b:Int),0<=a->a<=2000->ah7 l d a=some b->0<=b/\b<=2000
 | [],d,a,b,g,h,c=>by simp only [ah7,N] at c;omega
 | i ::l,d,a,b,g,h,c=>by
   simp only [ah7] at c
   cases e:ah5 i d a with
   |none=>rw [e] at c;cases c
   | some f=>
     rw [e] at c;have:=ajP i d a f g h e;exact ai1 l d f b this.1 this.2 c
end
def FH (H:af) (a:Int) (b:Bool) (d:Int) (r:List aa) (v:aa) (H':af):Prop:=v= .av []/\ ∃e c,H'=o1 H e c/\(c=true->b=true/\om (61-d).toNat r/\aih (ah2 r))/\(aib (ah2 r)->b=true->0<=a/\a<=2000->ah5 (ah2 r) d a=if c then some e else none)
def VB {r} (aS:aN r):qX G R 155 (λi:af×Int×Bool×Int=> [.ptr i.1.n (q 201) 0 2,.agg r,.int .i64 i.2.2.2]) (λi=>o1 i.1 i.2.1 i.2.2.1) (λi=>Tidy i.1/\0<=i.2.2.2/\i.2.2.2<=61)
    (λi v H'=>FH i.1 i.2.1 i.2.2.1 i.2.2.2 r v H'):=by
 induction aS with
 | @mk r f n g j h l p u w V a ae ax a7 _=>
 obtain ⟨a8,H⟩:=(VK a ax).val;have D:=ah9 a ae ax;obtain ⟨ba,Z⟩:=qX.all a7;refine qX.run (m:=88) rfl rfl rfl rfl (λ_=>rfl) (λ_=>rfl) rfl rfl (a8+ba+w.length+V.length+1) λaz aA bb bc i aO=> ?_;obtain ⟨e,b,y,d⟩:=i;obtain ⟨ag,aK,E⟩:=aO;simp only at ag aK E|-;obtain ⟨rfl,-,-,-,-,F,ah,aP,aQ⟩:=a;have hT: ∀b y,Tidy (o1 e b y):=λb y=>ag.push rfl;refine df.seq (λA H'=>o1 e b y=H'/\aM 91 [(0,.ptr e.n (q 201) 0 2),(2,.int .i64 d),(4,.W 0 [.int .i64 f,.int .i64 n,.str g j,.str h l,p,u])] A) ?_ ?_
 . simp only [go_sem,F.J,ah.J];exact dD.mk ⟨rfl,dC⟩
 rintro A _ ⟨rfl,hF⟩;refine df.seq (λA H'=>o1 e (IntKind.i64.wrap (b+1)) y=H'/\aM 91 [(0,.ptr e.n (q 201) 0 2),(2,.int .i64 d),(4,.W 0 [.int .i64 f,.int .i64 n,.str g j,.str h l,p,u])] A) ?_ ?_
 . simp only [go_sem,hF];exact dD.mk ⟨rfl,ay⟩
 clear hF;rintro A _ ⟨rfl,hF⟩;have I:0<=b/\b<=2000->IntKind.i64.wrap (b+1)=b+1:=λa=>wrap64 _ ab ab;generalize IntKind.i64.wrap (b+1)=C at*;obtain ⟨_,⟨aB,rfl,aJ,M⟩,H⟩:=H az aA ab ab (o1 e C y) (hT _ _);have P: ∀C:Int,(aib (ah2 [.int .i64 f,.int .i64 n,.str g j,.str h l,p,u])->y=true->0<=b/\b<=2000->ah5 (ah2 [.int .i64 f,.int .i64 n,.str g j,.str h l,p,u]) d b=none)->df (FH e b y d [.int .i64 f,.int .i64 n,.str g j,.str h l,p,u]) (e.n+1) (.ret (.av []) (o1 e C false)):=λC a=>df.mk rfl ⟨rfl,C,false,ft (aT _),λa=>(by cases a),a⟩;have aj:aib (ah2 [.int .i64 f,.int .i64 n,.str g j,.str h l,p,u])->V= []/\f≠6:=λa=>by rw [D,aib] at a;exact ⟨List.map_eq_nil_iff.1 a.2.1,a.1⟩
 cases y with
 | false=>
   simp only [go_sem,hF];exact P _ λ_ a=>by cases a
 | true=>
   have aa: ∀bd:Prop,(0<=b/\b<=2000->aib (ah2 [.int .i64 f,.int .i64 n,.str g j,.str h l,p,u])-> ¬(d<=60/\b+1<=2000/\ah3 f n g j h l w.length=true))->(aib (ah2 [.int .i64 f,.int .i64 n,.str g j,.str h l,p,u])->true=true->0<=b/\b<=2000->ah5 (ah2 [.int .i64 f,.int .i64 n,.str g j,.str h l,p,u]) d b=none):=λ_ a H _ Z=>by have:=a Z H;rw [D,ah5,di,if_neg this]
   simp only [go_sem,hF];refine df.aE ?_ ?_<;>intro N<;>simp only [go_sem,N,hF]
   rotate_left
   . exact P _ (aa True λ_ _ a=>by simp at N;omega)
   refine df.aE ?_ ?_<;>intro E<;>simp only [go_sem,E,hF,H]
   rotate_left
   . exact P _ (aa True λa _ an=>by have:=I a;simp at E;omega)
   cases aB with
   | false=>
     simp only [go_sem];exact P _ (aa True λ_ a an=>by have:=M (aj a).1 (aj a).2;rw [an.2.2] at this;cases this)
   |true=>
   simp only [go_sem,hF];have N:d<=60:=by simpa using N
   have aL:IntKind.i64.wrap (d+1)=d+1:=wrap64 _ ab ab;simp only [go_sem,F.O,F.len];generalize aG:a1 _ _ _ _ _ _ _ _ _ _=Y;revert Y;refine hz _ _ _ _ (σ:=Int) (λ_=> [(0,.ptr e.n (q 201) 0 2),(2,.int .i64 d),(4,.W 0 [.int .i64 f,.int .i64 n,.str g j,.str h l,p,u]),(43,p)]) (λt=>o1 e t true) (λz t=>(∀o∈w.take z,om (60-d).toNat o/\aih (ah2 o))/\(aib (ah2 [.int .i64 f,.int .i64 n,.str g j,.str h l,p,u])->0<=b/\b<=2000->ah7 ((w.map ah2).take z) (d+1) (b+1)=some t))
    91 w.length C rfl rfl (λ_=>rfl) rfl ⟨ai,λ_ a=>by rw [I a];rfl⟩ ay ab aP ?_ ?_
   . intro z t A ad ⟨L,S⟩ K;obtain ⟨o,U⟩:=bA ad;have T:=aV U;have aH:ah7 ((w.map ah2).take (z+1)) (d+1) (b+1)=(ah7 ((w.map ah2).take z) (d+1) (b+1)).bind (ah5 (ah2 o) (d+1)):=by rw [fg,hO,U,ajk];congr 1;funext b;simp [ah7]
     have aI:ah7 (w.map ah2) (d+1) (b+1)=(ah7 ((w.map ah2).take (z+1)) (d+1) (b+1)).bind (ah7 ((w.map ah2).drop (z+1)) (d+1)):=by rw [<-ajk,yT]
     obtain ⟨v,H',⟨rfl,ak,aC,rfl,M,aw⟩,al⟩:=Z az aA ab ab o T (e,t,true,d+1) ⟨ag,by show 0<=d+1;omega,by show d+1<=61;omega⟩;simp only at M aw al;have ar:aib (ah2 [.int .i64 f,.int .i64 n,.str g j,.str h l,p,u])->0<=b/\b<=2000->ah7 ((w.map ah2).take (z+1)) (d+1) (b+1)=if aC then some ak else none:=λa x=>by have aq:=S a x;rw [D,aib] at a;have aF:=ai1 _ _ _ _ (by have:=I x;omega) (by have:=I x;simp at E;omega) aq;rw [aH,aq];exact aw (a.2.2 _ (C3 T)) trivial aF
     have aX:=(ae o T).len;have s:=ae o T
     cases s with
     |mk s _ _=>
     obtain ⟨rfl,aY,aZ⟩:=s.c;simp only [go_sem,K,F.O,F.a_ (k:=6) U aX,aL,aY.J,aZ.J,al];refine au.aE ?_ ?_<;>intro B<;>simp only [go_sem,B]
     . refine au.next ak (by subst B;rfl) ⟨λo s=> ?_,λa x=>by rw [ar a x,B];rfl⟩ (by simp only [go_sem,K]);rcases tT U s with s|rfl
       . exact L o s
       . have:=(M B).2
         rwa [show 61-(d+1)=60-d by omega] at this
     . subst B;refine au.stop rfl ?_;simp only [go_sem];refine P _ λa _ x=> ?_;have:=ar a x;rw [D,ah5];split
       . rw [aI,this];rfl
       . rfl
   . intro t A ⟨L,S⟩ K;rw [bX] at L;rw [fT ai] at S;simp only [go_sem,K,ah.O,ah.len];generalize aG:a1 _ _ _ _ _ _ _ _ _ _=Y;revert Y;refine hz _ _ _ _ (σ:=Int×Bool) (λ_=> [(0,.ptr e.n (q 201) 0 2),(2,.int .i64 d)]) (λt=>o1 e t.1 t.2) (λ_ X=>V= []->X=(t,true)) 91 V.length (t,true) rfl rfl (λ_=>rfl) rfl (λ_=>rfl) (by simp only [go_sem,K]) ab aQ ?_ ?_
     . intro z t A ad _ Q;simp only [go_sem,Q]
       iterate 2 all_goals try (refine au.aE ?_ ?_<;>intro B<;>simp only [go_sem,B,Q])
       all_goals exact au.next (_,_) rfl (λa=>by subst a;cases ad) (by simp only [go_sem,Q])
     . intro X A aR Q;simp only [go_sem];refine df.mk rfl ⟨rfl,X.1,X.2,ft (aT _),λ_=>⟨rfl,?_,?_⟩,λa _ x=> ?_⟩
       . rw [show (61-d).toNat=(60-d).toNat+1 by omega];intro bh bf a6 aU o s;cases a6;rw [qe aU F] at s;exact (L o s).1
       . rw [D,aih];refine ⟨λa=>by obtain ⟨rfl,rfl⟩:=aJ rfl a;exact ⟨rfl,rfl⟩,λbg aW=> ?_⟩;obtain ⟨o,s,rfl⟩:=cd.1 aW;exact (L o s).2
       . obtain ⟨ao,aD⟩:=aj a;rw [aR ao,if_pos rfl,D,ah5,di,if_pos ⟨N,by have:=I x;simp at E;omega,(M ao aD).symm⟩];exact S a x
def aix (t:ak1):Bool:=(ah5 t 1 0).isSome
def aji {r} (g:aN r):dt 82 [.agg r] (λw=> ∃b,w= .bool b/\(b=true->om 60 r/\aih (ah2 r))/\(aib (ah2 r)->b=aix (ah2 r))) bQ:=by
 obtain ⟨n,j⟩:=VB g;refine aL.run (m:=8) rfl rfl rfl rfl rfl rfl rfl rfl n λo p t u i h=> ?_;obtain ⟨x,q,⟨rfl,s,b,rfl,e,f⟩,d⟩:=j o p ab ab (i,0,true,1) ⟨h,by show (0:Int)<=1;decide,by show (1:Int)<=61;decide⟩;simp only at e f d;generalize ah2 r=v at*
 cases g with
 |mk a _ _=>
 obtain ⟨rfl,k,l⟩:=a.c;simp only [go_sem,k.J,l.J,d];exact ak.mk ⟨b,rfl,λa=>(e a).2,λa=>by unfold aix;rw [f a trivial al];cases b<;>rfl⟩ rfl h ((U.refl _).push _)
def Dz {r} (e:aN r):dt 82 [.agg r] (j9 (om 60 r)) bQ:=(aji e).mono (λ_ ⟨b,c,a,_⟩=>⟨b,c,λd=>(a d).1⟩) λ_ a=>a
def e1.uniq {r n} (ag:e1 r n): ∀ {m},e1 r m->n=m:=by
 induction ag with
 | @mk r v n B F D H K M x z p ag t u l o=>
 intro m d
 cases d with
 | @mk _ w J C G E I L N y A q d j k=>
 obtain ⟨rfl,f,g⟩:=ag.c;obtain ⟨e,-,-,-,-,h,i,-,-⟩:=d;simp only [jn,aa.int.injEq,aa.str.injEq,and_true,true_and] at e;obtain ⟨-,-,-,-,rfl,rfl⟩:=e;obtain rfl:=qe f h;obtain rfl:=qe g i;congr 2;refine vS λb a=> ?_;rcases cr.1 a with a|a
 . exact l b a (j b a)
 . exact o b a (k b a)
open Classical in
noncomputable def mT (r:List aa):Nat:=if ag: ∃n,e1 r n then ag.choose else 0
def Kh {r n} (ag:e1 r n):mT r=n:=by
 unfold mT;rw [dif_pos ⟨n,ag⟩];exact (Exists.choose_spec (⟨n,ag⟩: ∃n,e1 r n)).uniq ag
def bL.g_ {rows N} (ag:bL rows N) {r} (a:r∈rows):e1 r (mT r)/\mT r<=N:=by
 obtain ⟨d,b,c⟩:=ag;have:=b r a;rw [Kh this];exact ⟨this,eT (o3 a) c⟩
def bL.sum {rows N} (ag:bL rows N):(rows.map mT).sum<=N:=by
 obtain ⟨d,a,e⟩:=ag
 rwa [vS λc b=>Kh (a c b)]
def bL.mk {rows N} (ag: ∀r∈rows,e1 r (mT r)) (a:(rows.map mT).sum<=N):bL rows N:=⟨mT,ag,a⟩
def bL.wt {rows N} (ag:bL rows N): ∀r∈rows,aN r:=λr a=>(ag.g_ a).1.wt
def bL.len {rows N} (ag:bL rows N):rows.length<=N:=by
 obtain ⟨e,a,b⟩:=ag;exact eT (qq λd c=>(a d c).pos) b
def bL.app {a b n m} (ag:bL a n) (g:bL b m):bL (a++b) (n+m):= .mk (λe d=>(cr.1 d).elim (λc=>(ag.g_ c).1) λc=>(g.g_ c).1) (by have:=ag.sum;have:=g.sum;simp;omega)
def bL.mono {a n m} (ag:bL a n) (b:n<=m):bL a m:= .mk (λd c=>(ag.g_ c).1) (eT ag.sum b)
def bL.left {a b n} (ag:bL (a++b) n):bL a n:= .mk (λd c=>(ag.g_ (hP _ c)).1) (by have:=ag.sum;simp at this;omega)
def bL.right {a b n} (ag:bL (a++b) n):bL b n:= .mk (λd c=>(ag.g_ (h7 _ c)).1) (by have:=ag.sum;simp at this;omega)
def bL.one {r rows n} (ag:bL rows n) (a:r∈rows):bL [r] n:= .mk (λc b=>by rw [bs.1 b];exact (ag.g_ a).1) (by have:=(ag.g_ a).2;simpa)
def bL.ok {rows N} (ag:bL rows N) (hN:N<1048560): ∀r∈rows,AH r:=λr a=>⟨_,by have:=(ag.g_ a).2;omega,(ag.g_ a).1⟩
def qI {rows} (ag:b8 rows): ∀r∈rows,eu r r=true:=λr a=>by
 obtain ⟨c,d,rfl,-⟩:=ag r a;exact m5 _ λe b=>by rw [bs.1 b];exact r8 _ _
def LX {rows:Y} (ag: ∀r∈rows,gd r): ∀r∈rows,eu r r=true:=λr b=>by
 obtain ⟨c,d,e,f,rfl,-⟩:=ag r b;exact m5 _ λg a=>by simp only [b2,dG,or_false] at a;rcases a with rfl|rfl<;>exact r8 _ _
def c6.same {r} (ag:c6 r):eu r r=true:=by
 obtain ⟨n,p,l,o,q,v,⟨⟨k,t,s,i,m,rfl,b,h,⟨u,d,-,c⟩⟩,-,-,-,-,f,-,g,-⟩⟩:=ag;refine m5 _ λj a=> ?_;simp only [b2,dG,or_false] at a;rcases a with rfl|rfl|rfl|rfl|rfl|rfl|rfl
 . exact r8 _ _
 . exact b.same (qI f)
 . exact r8 _ _
 . exact d.same (LX c)
 . exact wJ _ _
 . exact wJ _ _
 . exact h.same λr e=>by obtain ⟨i,rfl⟩:=g r e;exact m5 _ λj a=>by rw [bs.1 a];exact wJ _ _
def ES {a} (ag:mg a):eu a a=true:=m5 _ λc b=>by obtain ⟨d,e,rfl⟩:=ag c b;exact r8 _ _
def hH.same {a b rop} (ag:hH a b rop):cN (.ck a b) (.ck a b)=true:=ER (ES ag.k) (m5 _ λe d=>by obtain ⟨f,rfl,c⟩:=ag.s e d;exact LW c.same)
def dO.same {ax:aa} {s:List aa} {kN jv rop j3 aJ:Y} (ag:dO ax s kN jv rop j3 aJ):f_ (some ax) (some ax)=true:=by
 obtain ⟨a,q,y,t,A,r,z,rfl,e,g,hF⟩:=ag;obtain ⟨w,o,u,p,x,rfl,i,j,l,m,n⟩:=a.eq;refine ZR _ (m5 _ λf c=> ?_);simp only [bl,a6,b2,dG,or_false] at c;rcases c with rfl|rfl|rfl|rfl|rfl|rfl|rfl|rfl
 . exact i.same (qI a.so)
 . exact j.same (LX a.be)
 . exact l.same λd b=>(a.op d b).same
 . exact m.same λd b=>(a.cP d b).same
 . exact n.same (qI a.bJ)
 . exact ER (ES e.k) (m5 _ λf c=>by obtain ⟨v,b,h⟩:=e.s f c;exact b.same (qI h))
 . exact g.same
 . exact hF.same
section
variable {ax:aa} {s:List aa} {kN jv rop j3 aJ:Y} (ag:dO ax s kN jv rop j3 aJ)
include ag
omit ag in
theorem dP.te {d:List aa} {ax:aa} (Ir:d.length=13):(d++ [ax])[13]? =some ax:=by rw [vP ab,Ir];rfl
theorem Ve {r} (b:aN r):bo λad n=> ∀c d H tm,Tidy H->dP H c d ax->az G (X G R ad n) 191 [c,.agg r] H tm= .ok (.str (eh kN rop j3 r).1 (eh kN rop j3 r).2) tm H:=by obtain ⟨w,a⟩:=v_ ag b;obtain ⟨x,P,Q,T,V,W⟩:=ag.val;refine ⟨w+1,λad n D E c d H tm g l=> ?_⟩;obtain ⟨n,rfl⟩:=bY n;have a:=λtm=>a ad n ab ab H tm g;obtain ⟨id,j,C,M,rfl,q,p,o⟩:=l;have k:=dP.te (ax:=ax) o;obtain ⟨h,rfl,i⟩:=hg (S:=λh=>h= .str (eh kN rop j3 r).1 (eh kN rop j3 r).2) (aL.at (m:=9) (f:=191) (args:= [.ptr id j 0 14,.agg r]) (ad:=ad) (n:=n) (H:=H) rfl rfl rfl rfl rfl rfl rfl rfl (by generalize eh kN rop j3 r=N at*;obtain ⟨K,L,y,A,z,B,O,Y,F,I,rfl,u,v⟩:=b.t;simp only [go_sem,u.J,v.J,q,p,k,x,a];exact .inl ⟨_,rfl,e.mk rfl g (U.refl _)⟩));exact i tm
theorem tM {r} (o:aN r):bo λad n=> ∀c d (a b:Int) (l m ls ms:Nat) H,Tidy H->dP H c d ax->fK 128 [c,.agg [.int .i64 a,.int .i64 b],.str l m,.agg r,.str ls ms] ad n H:=by
 obtain ⟨y,g⟩:=Ve ag o;obtain ⟨z,h⟩:=gu 16 al;obtain ⟨A,i⟩:=MQ ag;obtain ⟨D,V,W,X,Y,Z⟩:=ag.val;refine ⟨y+z+A+1,λad n L M c d a b l m ls ms H e k=> ?_⟩;obtain ⟨n,rfl⟩:=bY n;have g:=λf=>g ad n ab ab c d H f e k;have h:=λf=>h ad n ab ab l m a b H f e;have i:=λl m B C f=>i ad n ab ab (l,m,B,C) trivial H f e;obtain ⟨id,j,K,R,rfl,v,u,q⟩:=k;have p:=dP.te (ax:=ax) q;refine o6 (aL.at (m:=18) rfl rfl rfl rfl rfl rfl rfl rfl ?_);generalize eh kN rop j3 r=S at*;obtain ⟨P,Q,E,G,F,I,T,aa,N,O,rfl,w,x⟩:=o.t;simp only [go_sem,w.J,x.J,v,u,p,D,g,i,ag.same];refine ak.aE ?_ ?_<;>intro j<;>simp only [go_sem,j,h]
 . exact ak.un e (U.refl _)
 . exact ak.aK (lO 16 al _ _ _ _) rfl e (U.refl _)
end
def Jv (rows:Y) (N:Nat) (hN:N<1048560) (g:bL rows N):bo λad n=> ∀(a b:Int) x H,Tidy H->cG H 6 x rows->fK 126 [.agg [.int .i64 a,.int .i64 b],x] ad n H:=by
 obtain ⟨i,d⟩:=Jh rows (g.ok hN) (by have:=g.len;omega);obtain ⟨j,e⟩:=gu 16 al;refine ⟨i+j+1,λad n p q a b x H c f=> ?_⟩;obtain ⟨n,rfl⟩:=bY n;obtain ⟨v,⟨r,w,t,u,rfl⟩,d⟩:=d ad n ab ab x H c f;have e:=λk l o=>e ad n ab ab k l a b H o c;refine o6 (aL.at (m:=14) rfl rfl rfl rfl rfl (by simp only [aO,f.aD];rfl) rfl rfl ?_);simp only [go_sem,f.O,d];refine ak.aE ?_ ?_<;>intro h<;>simp only [go_sem,h,e]
 . exact ak.un c (U.refl _)
 . exact ak.aK (lO 16 al _ _ _ _) rfl c (U.refl _)
def uO.str {l:List (Nat×Nat)} (b:eC l):b8 (l.map iu):=λe d=>by
 obtain ⟨a,c,rfl⟩:=cd.1 d;exact ⟨a.1,a.2,rfl,b a c⟩
def Jk (q rows:Y) (N M:Nat) (hN:N<1048560) (B:M<1048560) (E:bL q N) (F:bL rows M):bo λad n=> ∀(a b:Int) y x H,Tidy H->cG H 6 y q->cG H 6 x rows->
    fK 127 [.agg [.int .i64 a,.int .i64 b],y,x] ad n H:=by
 obtain ⟨G,e⟩:=U4 q N hN E;obtain ⟨I,f⟩:=JA rows M B F;obtain ⟨J,g⟩:=gu 17 al;obtain ⟨K,h⟩:=oZ 1048560 al;refine ⟨G+I+J+K+1048561,λad n S V a b y x H c j i=> ?_⟩;obtain ⟨n,rfl⟩:=bY n;obtain ⟨Q,⟨L,l,P,W⟩,e⟩:=e ad n ab ab y H c j;obtain ⟨af,⟨p,d,Z,X⟩,f⟩:=f ad n ab ab x H c i;have g:=λo r t=>g ad n ab ab o r a b H t c;have h:=λo r=>h ad n ab ab Q (L.map iu) o r H (uO.str P) da c l.cw;refine o6 (aL.at (m:=31) rfl rfl rfl rfl rfl (by simp only [aO,i.aD,j.aD];rfl) rfl rfl ?_);simp only [go_sem,i.O,j.O,e,f,l.O,d.O,d.len];generalize R:a1 _ _ _ _ _ _ _ _ _ _=z;revert z;have hF:=trivial;refine dA [3,6,12] (λ_=>True) (p.map iu).length trivial (hlf:=da) (hN:=da) ?_ ?_
 . intro v s t D C hF;obtain ⟨w,u⟩: ∃w,(p.map iu)[v]? =some w:=⟨(p.map iu)[v],by simp only [lj D]⟩;obtain ⟨⟨aa,ae⟩,T,rfl⟩:=cd.1 (aV u);simp only [go_sem,hF,d.O,d.a_ (k:=1) u rfl,iu]
   iterate 3 all_goals try (refine au.aE ?_ ?_<;>intro A<;>simp only [go_sem,hF,A,g,h,l.O])
   all_goals first
    |exact au.next () rfl trivial ay
    |exact au.stop rfl (by simp only [go_sem];exact ak.aK (lO 17 al _ _ _ _) rfl c (U.refl _))
 . intro s t C hF;simp only [go_sem];exact ak.un c (U.refl _)
def jc {r} (ag:aN r) (H:af):cT G 33 1 [(0,.agg r)] H=some (.A [r] true,H):=by
 have a:=ag.row;exact mo (E:=G) (t:=33) (el:=35) (k:=6) (H:=H) (z:= .agg [.int .i64 0,.int .i64 0,.str 0 0,.str 0 0,.V,.V]) aq aq aq al rfl al (.agg r) ⟨a.1,ba.2 λc b=>(a.2 c b).1,ba.2 λc b=>(a.2 c b).2⟩
def aiD (k:Int):Bool:=k==1||k==3||k==4
def ajg {r k m l1 m1 j l y z ky i} (f:kX r k m l1 m1 j l y z ky i):K 158 [.agg r] (.bool (aiD k)):=by
 refine C.run (m:=15) rfl rfl rfl rfl rfl rfl rfl rfl 0 λq t o p n d=> ?_;obtain ⟨rfl,g,h⟩:=f.c;simp only [go_sem,g.J,h.J]
 iterate 2 all_goals try (refine e.aE ?_ ?_<;>intro a<;>simp only [go_sem,a])
 all_goals exact e.b d (U.refl _) (by simp_all [aiD])
def Jd {r} (a:aN r):dt 158 [.agg r] dI bQ:=by
 obtain ⟨c,h,f,i,g,j,k,l,d,e,b,-,-⟩:=a.ea;exact (ajg b).cs ⟨_,rfl⟩
abbrev ns (H:af) (b:Bool):af:=H.push (.cells (q 4) (q 4) 0 [.bool b])
theorem Gb {H:af} (a:Tidy H) (b:Bool):Tidy (ns H b):=a.push rfl
def TI (x:List aa) (C:aN x): ∃V,∀ad n,V<=ad->V<=n-> ∀(H:af) (b:Bool) (d:Int),Tidy H->
    ∃a,∀tm,cx G (X G R ad n) (.fn (.func 188) [] [.ptr H.n (q 4) 0 1]) [.agg x,.int .i64 d] (ns H b) tm= .ok (.av []) tm (ns H a):=by
 cases C with
 | @mk x r w u y v z A B e aO C M aC=>
 obtain ⟨an,ai⟩:=aL.j8 (l:=e) (f:=158) (g:=λh=> [.agg h]) (S:=λ_=>dI) λh p=>Jd (M h p);refine ⟨an+e.length+2,λad n aD aF H b d ak=> ?_⟩;obtain ⟨n,rfl⟩:=bY n;obtain ⟨rfl,-,-,-,-,o,al,aG,-⟩:=C;have ao:=df.at (E:=G) (R:=R) (f:=188) (m:=46) (ad:=ad) (n:=n) (args:= [.agg [.int .i64 r,.int .i64 w,.str u y,.str v z,A,B],.int .i64 d,.ptr H.n (q 4) 0 1]) (H:=ns H b)
  (Q:=λD i=>D= .av []/\ ∃a,i=ns H a) rfl rfl rfl rfl rfl rfl rfl rfl ?_
 . obtain ⟨D,i,⟨rfl,a,rfl⟩,ae⟩:=ao;exact ⟨a,λtm=>by simp only [eg,a6,bl];exact ae tm⟩
 refine df.seq (λtm i=>ns H b=i/\aM 49 [(2,.ptr H.n (q 4) 0 1),(3,.W 0 [.int .i64 r,.int .i64 w,.str u y,.str v z,A,B])] tm) ?_ ?_
 . simp only [go_sem,o.J,al.J];exact dD.mk ⟨rfl,dC⟩
 rintro tm _ ⟨rfl,hF⟩;refine df.seq (λtm i=>(∃a,ns H a=i)/\aM 49 [(2,.ptr H.n (q 4) 0 1),(3,.W 0 [.int .i64 r,.int .i64 w,.str u y,.str v z,A,B])] tm) ?_ ?_
 . cases b with
   | false=>
     simp only [go_sem,hF];exact dD.mk ⟨⟨_,rfl⟩,ay⟩
   | true=>
     simp only [go_sem,hF]
     iterate 2 all_goals try (refine dD.aE ?_ ?_<;>intro j<;>simp only [go_sem,j,hF])
     all_goals exact dD.mk ⟨⟨_,rfl⟩,ay⟩
 clear hF;rintro tm _ ⟨⟨F,rfl⟩,hF⟩;simp only [go_sem,hF];refine df.aE ?_ ?_<;>intro j<;>simp only [go_sem,j]
 rotate_left
 . exact df.mk rfl ⟨rfl,F,pV rfl⟩
 generalize aA:a1 _ _ _ _ _ _ _ _ _ _=Z;revert Z;refine rP _ _ _ _ (λc tm Y=>(∃a,Y=ns H a)/\aM 49 [(2,.ptr H.n (q 4) 0 1),(3,.W 0 [.int .i64 r,.int .i64 w,.str u y,.str v z,A,B]),(5,.int .i64 ((2*c:Nat):Int))] tm) e.length ab ⟨⟨F,rfl⟩,by simp only [go_sem,hF];rfl⟩ ?_;clear hF;rintro c tm _ aB ⟨⟨I,rfl⟩,hF⟩;simp only [go_sem,hF,o.O,o.len];refine dy.aE ?_ ?_<;>intro K<;>simp only [go_sem,hF,K,o.O]
 rotate_left
 . exact dy.stop rfl (by simp only [go_sem];exact df.mk rfl ⟨rfl,I,pV rfl⟩)
 have aj:2*c<e.length:=by simp at K;omega
 obtain ⟨h,N⟩: ∃h,e[2*c]? =some h:=⟨e[2*c],by simp [aj]⟩;have p:=aV N;obtain ⟨D,⟨au,rfl⟩,ah⟩:=ai ad n ab ab h p (ns H true) (Gb ak true);obtain ⟨aK,aP,aq,aw,ar,az,aQ,aR,aH,aI,rfl,T,U⟩:=(M h p).t;have P:IntKind.i64.wrap (((2*c:Nat):Int)+2)=((2*(c+1):Nat):Int):=by rw [wrap64 _ ab ab];omega
 have L:=o.a_ (k:=6) N rfl
 cases I with
 | false=>
   simp only [go_sem,hF,L,T.J,U.J,P];exact dy.next (by show c<e.length;omega) ⟨⟨_,rfl⟩,ay⟩
 | true=>
   simp only [go_sem,hF,L,T.J,U.J,ah]
   iterate 3 all_goals try (refine dy.aE ?_ ?_<;>intro j<;>simp only [go_sem,j,hF,P])
   all_goals exact dy.next (by show c<e.length;omega) ⟨⟨_,rfl⟩,ay⟩
section
variable {ax:aa} {s:List aa} {kN jv rop j3 aJ:Y} (ag:dO ax s kN jv rop j3 aJ)
include ag
theorem Je {r:List aa} {n:Nat} (e:e1 r n) (u:n<=1048560):dt 125 [ax,.agg r] dI bQ:=by
 obtain ⟨w,ay,X,az,aA,aB⟩:=ag.val;obtain ⟨M,j⟩:=((Dz e.wt).mono (S':=dI) (λ_ I=>by obtain ⟨d,g,-⟩:=I;exact ⟨d,g⟩) λ_ ag=>ag).bW;obtain ⟨N,k⟩:=(Ja ag e.wt).bW;obtain ⟨O,l⟩:=(Jc ag e ab).bW;obtain ⟨Q,o⟩:=Jh [r] (λx h=>by rw [bs.1 h];exact ⟨n,ab,e⟩) ai;obtain ⟨R,p⟩:=wa (ι:=af) (σ:=Bool) (T:=Tidy) (P:=λ_ _=>True) (W:=λ_=>0) (cS:=λa d=>ns a d) (pE:=10000001)
  (fv:=λa=> .fn (.func 188) [] [.ptr a.n (q 4) 0 1]) (λa d b _=>Gb b d) (λ_=>⟨rfl,λ_=>rfl⟩) (λ_ _ _ _ _=>pV rfl) (λx h=>by obtain ⟨v,E⟩:=TI x h;exact ⟨v,λf n G u a d y b _ _=>by obtain ⟨t,g⟩:=E f n G u a d y b;exact ⟨t,trivial,ab,g⟩⟩) e ab
 obtain ⟨v,ar,ao,au,aq,av,aD,aF,al,an,h,-,-⟩:=e.wt.ea;refine aL.run (m:=32) rfl rfl rfl rfl rfl (by simp only [aO,X];rfl) rfl rfl (M+N+O+Q+R) λf i ae ah a b=> ?_;obtain ⟨Y,j⟩:=j f i ab ab a b;obtain ⟨Z,k⟩:=k f i ab ab a b;obtain ⟨ad,l⟩:=l f i ab ab a b;have H:F (.A [r] true) [r]:= .inr ⟨_,rfl⟩;obtain ⟨aw,⟨aj,aC,S,V,rfl⟩,o⟩:=o f i ab ab (.A [r] true) a b H.cw;have p:=λd=>p f i ab ab a d 1 b trivial ab;have D:=jc (e.wt) a;obtain ⟨rfl,K,L⟩:=h.c;simp only [go_sem,K.J,L.J,j];refine ak.aE ?_ ?_<;>intro z<;>simp only [go_sem,z,w,k]
 all_goals try (refine ak.aE ?_ ?_<;>intro B<;>simp only [go_sem,B,w,l])
 all_goals try (refine ak.aE ?_ ?_<;>intro C<;>simp only [go_sem,C,D,bH,o])
 all_goals try exact ak.bW b (U.refl _)
 obtain ⟨t,-,-,g⟩:=p (S==0&&V==0);simp only [go_sem,g,dL];exact ak.bW b ((U.refl _).push _)
end
def aaZ {n0 c:Nat} {H:af} {rows aQ:Y} {v x:aa} (ag:bd n0 35 6 c H rows v) (g:Tidy H) (e:n0<=H.n) (f: ∀r∈rows,aN r) (h:cG H 6 x aQ) (d: ∀r∈aQ,aN r) (hN:rows.length+aQ.length<10000000) (i:c+aQ.length<1048560):
    ∃a H',cI G 33 33 v x H=some (a,H')/\bd n0 35 6 (c+aQ.length) H' (rows++aQ) a/\iX n0 v a H H'/\cG H' 6 v rows:=
 ag.uS (b:=96) (k:=6) aq yf rfl rfl al al g e (aN.rows f) (h.elems λr ag=>(d r ag).len) (aN.rows d) (by unfold b7;omega) ab
def pq {n0 c:Nat} {H:af} {rows aQ:Y} {v x:aa} (ag:bd n0 35 6 c H rows v) (g:Tidy H) (e:n0<=H.n) (f: ∀r∈rows,aN r) (h:cG H 6 x aQ) (d: ∀r∈aQ,aN r) (hN:rows.length+aQ.length<10000000) (i:c+aQ.length<1048560):
    ∃a H',cI G 33 33 v x H=some (a,H')/\bd n0 35 6 (c+aQ.length) H' (rows++aQ) a/\iX n0 v a H H':=
 ag.app (b:=96) (k:=6) aq yf rfl rfl al al g e (aN.rows f) (h.elems λr ag=>(d r ag).len) (aN.rows d) (by unfold b7;omega) ab
def A4 {r q} (ag:aN r) (g:aN q) (H:af):cT G 33 2 [(0,.agg r),(1,.agg q)] H=some (.A [r,q] true,H):=by
 have c:=ag.row;have d:=g.row;exact uX (E:=G) (t:=33) (el:=35) (k:=6) (H:=H) (z:= .agg [.int .i64 0,.int .i64 0,.str 0 0,.str 0 0,.V,.V]) aq aq aq al rfl al (.agg r) (.agg q) ⟨c.1,ba.2 λb a=>(c.2 b a).1,ba.2 λb a=>(c.2 b a).2⟩ ⟨d.1,ba.2 λb a=>(d.2 b a).1,ba.2 λb a=>(d.2 b a).2⟩
section
variable {ax:aa} {s:List aa} {kN jv rop j3 aJ:Y} (ag:dO ax s kN jv rop j3 aJ)
include ag
theorem Vk {r:List aa} (bf:xb r) {N:Nat} (hT: ∀L R i a b j,r=L++R++ [i,a,b]->L.length=6->R.length=6->F i j->bL ([L,R]++j) N) (hN:N<100000):
  bo λad n=> ∀c d H,Tidy H->dP H c d ax->fK 65 [c,.agg r] ad n H:=by
 obtain ⟨L,R,i,a,b,rfl,a8,ba,⟨j,C,br,-⟩,⟨y,rfl⟩,⟨z,rfl⟩⟩:=bf;have aB:=hT L R i _ _ j rfl a8.len ba.len C;clear hT;have cJ:=aB.len;simp only [bl,a6,cl] at cJ;have cv:=aB.g_ (r:=L) ai
 cases dq:a8 with
 | @mk _ aF aO E I aH aN aT aU aG dH bZ cI dt=>
 cases dr:ba with
 | @mk _ V Z ae aj af ao ar aw dG dJ cy ds du=>
 have b3: ∀o∈aG,∃n,e1 o n/\n<=1048560:=λo aD=>by
  obtain ⟨aC,bQ⟩:=cv;generalize mT L=dQ at*
  cases aC with
  | @mk _ dB dO dK dM dL dN ec ed dF da bI ch cO dy=>
  obtain ⟨bG,-,-,-,-,bD,-⟩:=bZ;obtain ⟨D,-,-,-,-,bE,-⟩:=ch;rw [bG] at D;simp only [jn,aa.int.injEq,aa.str.injEq,and_true,true_and] at D;obtain ⟨-,-,-,-,rfl,rfl⟩:=D;obtain rfl:=qe bD bE;refine ⟨bI o,cO o aD,?_⟩;have:bI o<=((aG++da).map bI).sum:=o3 ah;omega
 obtain ⟨cX,bJ⟩:=(MN ag).c (E,I) trivial;obtain ⟨cZ,cm⟩:=wb ag ([L,R]++j) aB.wt ah;obtain ⟨c0,cn⟩:=aL.j8 (l:=aG) (f:=124) (g:=λr=> [ax,.agg r]) (S:=λ_=>dI) λo aD=>by obtain ⟨n,aC,bQ⟩:=b3 o aD;exact Jc ag aC ab
 obtain ⟨c1,cp⟩:=aL.j8 (l:=aG) (f:=125) (g:=λr=> [ax,.agg r]) (S:=λ_=>dI) λo aD=>by obtain ⟨n,aC,bQ⟩:=b3 o aD;exact Je ag aC bQ
 have bq:bL ([R]++j++ [L]) N:= .mk (λo aD=>(aB.g_ ah).1) (by have:=aB.sum;grind);have b0:bL ([R]++j) N:=bq.left;obtain ⟨c2,cq⟩:=Jv ([R]++j++ [L]) N ab bq;obtain ⟨c3,cr⟩:=Jk [L] ([R]++j) N N ab ab bq.right b0;obtain ⟨c4,ct⟩:=dE (l:=j) (Q:=λr ad n=> ∀c d (a b:Int) (X Y bz bB:Nat) H,Tidy H->dP H c d ax->fK 128 [c,.agg [.int .i64 a,.int .i64 b],.str X Y,.agg r,.str bz bB] ad n H) λr P=>tM ag (br r P);obtain ⟨c5,cu⟩:=tM ag ba;obtain ⟨c6,bK⟩:=gu 15 al;obtain ⟨cY,cj⟩:=gu 16 al;obtain ⟨b9,aq,dX,dY,dZ,ea⟩:=ag.val;have cK:=qA ag.bT.cP E I;refine ⟨cX+cZ+c0+c1+c2+c3+c4+c5+c6+cY+aG.length+j.length+2,λad n dv aC c d H w bc=> ?_⟩;obtain ⟨n,rfl⟩:=bY n;have bJ:=λH w e=>bJ ad n ab ab H e w;have bO:=bc;obtain ⟨id,q,dm,dT,rfl,cF,cD,cC⟩:=bc;have b1:=dP.te (ax:=ax) cC;have cA:=A4 a8 ba H;obtain ⟨rfl,eb,-,dV,-,bj,cS,dw,-⟩:=bZ;obtain ⟨rfl,cQ,cT⟩:=cy.c;generalize iQ j3 E I=dR at*;obtain ⟨db,dc,di,bz,bB,dW,⟨⟨ca,de,df,cU,cW,rfl,cz,cM,⟨dS,cL,-⟩⟩,-⟩⟩:=cK;refine o6 (aL.at (m:=142) rfl rfl rfl rfl rfl rfl rfl rfl ?_);simp only [bl,a6];generalize u: [aa.int .i64 aF,.int .i64 aO,.str E I,.str aH aN,aT,aU,.int .i64 V,.int .i64 Z,.str ae aj,.str af ao,ar,aw,i,.int .i64 y,.int .i64 z]=aS at*;refine ak.seq (λe h=>H=h/\aM 144 [(0,.ptr id q 0 14),(3,.W 0 aS),(4,.av []),(6,.av [])] e) ?_ ?_
 . subst u;simp only [go_sem,bj.J,cS.J,cQ.J,cT.J,C.J];exact dD.mk ⟨rfl,dC⟩
 rintro e _ ⟨rfl,hF⟩;refine ak.seq (λe h=>H=h/\aM 144 [(0,.ptr id q 0 14),(3,.W 0 aS),(4,.W 0 [.int .i64 y,.int .i64 z]),(6,.av [])] e) ?_ ?_
 . subst u;simp only [go_sem,hF];exact dD.mk ⟨rfl,ay⟩
 clear hF;rintro e _ ⟨rfl,hF⟩;refine ak.P0 hF (λp e h=>H=h/\aM 144 [(5,.str 0 0)] e/\p e) ?_ ?_
 . simp only [go_sem];exact dD.mk ⟨rfl,ay⟩
 clear hF;rintro e _ ⟨rfl,hF⟩;refine ak.seq (λe h=>H=h/\ ∃aP aR,aM 144 [(0,.ptr id q 0 14),(3,.W 0 aS),(4,.W 0 [.int .i64 y,.int .i64 z]),(6,.av []),(5,.str aP aR)] e) ?_ ?_
 . subst u;simp only [go_sem,hF]
   iterate 2 all_goals try (refine dD.aE ?_ ?_<;>intro q<;>simp only [go_sem,q,hF])
   all_goals exact dD.mk ⟨rfl,_,_,by simp only [go_sem,hF];trivial⟩
 clear hF;rintro e _ ⟨rfl,aP,aR,hF⟩;have b4: ∀(c:Int) (bc:c≠0) X Y bk h,U H h->ak lL fA H (fin G [] (.aK (.iface 78 (.agg [.int .i64 c,.str X Y,.int .i64 y,.int .i64 z])) bk h [])):=λc bc X Y bk h bR=>by simp only [go_sem];exact ak.aK (lO c bc _ _ _ _) rfl w bR
 have b5: ∀bm,fA bm-> ∀bk h,U H h->ak lL fA H (fin G [] (.aK bm bk h [])):=λbm b7 bk h bR=>by simp only [go_sem];exact ak.aK b7 (b7.aI 17) w bR
 have dx: ∀b8,O b8 (.W 0 aS)= .cR b8 0 0:=λ_=>rfl;refine ak.bM (λe h=>H=h/\ ∃bX,aM 144 [(0,.ptr id q 0 14),(3,.W 0 aS),(4,.W 0 [.int .i64 y,.int .i64 z]),(5,.str aP aR),(6,.W 0 [.str db dc,ca,.str bz bB,de,.int .i64 cU,.int .i64 cW,df]),(7,.bool bX)] e) ?_ ?_
 . have bG:=bJ H w;subst u;simp only [go_sem,hF,cF,cD,b1,b9,bG,cz.J,cM.J,cL.J];exact an.mk ⟨rfl,_,by simp only [go_sem,hF];trivial⟩
 clear hF;rintro e _ ⟨rfl,bX,hF⟩;refine ak.kp [0,3,4,5,6] (λp e h=>H=h/\p e) ?_ ?_
 . have bK:=λX Y e=>bK ad n ab ab X Y y z H e w;subst u;simp only [go_sem,hF]
   iterate 2 all_goals try (refine an.aE ?_ ?_<;>intro q<;>simp only [go_sem,q,hF,bK])
   all_goals first
    |exact an.mk ⟨rfl,ay⟩
    |exact an.stop rfl (b4 15 al _ _ _ _ (U.refl _))
 clear hF;rintro e _ ⟨rfl,hF⟩;refine ak.bF hF (λp e h=>Tidy h/\U H h/\p e) ?_ ?_
 . obtain ⟨bn,h,a7,T,B⟩:=pq (n0:=H.n) (c:=2) (H:=H) (rows:= [[.int .i64 aF,.int .i64 aO,.str E I,.str aH aN,aT,aU],[.int .i64 V,.int .i64 Z,.str ae aj,.str af ao,ar,aw]]) (aQ:=j) (v:= .A [[.int .i64 aF,.int .i64 aO,.str E I,.str aH aN,aT,aU],[.int .i64 V,.int .i64 Z,.str ae aj,.str af ao,ar,aw]] true) (x:=i) (.inr (.inl rfl)) w ab ah C.cw br ah ab;have bt:=B.up H ab (U.refl _);have bw:=T.cw (λr bf=>(aB.wt r bf).len);have D:=cm ad n ab ab bn (.ptr id q 0 14) d y z aP aR h B.tidy (bO.up w.1 bt) bw;subst u;simp only [go_sem,hF,C.O,cA,bH,a7,T.O];rcases D with D|⟨bp,K,D⟩
   . simp only [go_sem,D];exact an.mk ⟨B.tidy,bt,ay⟩
   . simp only [go_sem,D];exact an.stop rfl ah
 clear hF;rintro e az ⟨bx,bu,hF⟩;have cB:=bO.up w.1 bu;obtain ⟨dz,dp,dn,dU,cg,cH,cE,-⟩:=cB;cases cg;have ck:=λX Y e=>cj ad n ab ab X Y y z az e bx
 iterate 2
  refine ak.bF hF (λp e h=>az=h/\p e) ?_ ?_
  . subst u;simp only [go_sem,hF,bj.O,bj.len];generalize cx:a1 _ _ _ _ _ _ _ _ _ _=bC;revert bC;refine dA [0,3,4,5,6,69,87] (λ_=>True) aG.length trivial ?_ ?_
    . intro cV s e bP bN hF;obtain ⟨o,bh⟩:=bA bP;have P:=aV bh;obtain ⟨bm,⟨dj,rfl⟩,cd⟩:=cn ad n ab ab o P az bx;obtain ⟨bm,⟨dk,rfl⟩,cf⟩:=cp ad n ab ab o P az bx;obtain ⟨c9,dd,bD,bE,cb,cc,dg,dh,c7,c8,rfl,bU,bV⟩:=(cI o P).t;simp only [go_sem,hF,bj.O,bj.a_ (k:=6) bh rfl,bU.J,bV.J,cH,cE,b1,b9,cd,cf];refine au.aE ?_ ?_<;>intro q<;>simp only [go_sem,hF,q,ck]
      all_goals first
       |exact au.next () rfl trivial ay
       |exact au.stop rfl (by simp only [go_sem];exact an.stop rfl (b4 16 al _ _ _ _ bu))
    . intro s e bN hF;simp only [go_sem];exact an.mk ⟨rfl,ay⟩
  clear hF;rintro e _ ⟨rfl,hF⟩
 refine ak.bF hF (λp e h=>Tidy h/\U H h/\ ∃aq,bd H.n 35 6 (1+j.length) h ([[.int .i64 V,.int .i64 Z,.str ae aj,.str af ao,ar,aw]]++j) aq/\aM 144 [(12,aq)] e/\p e) ?_ ?_
 . obtain ⟨bn,h,a7,T,B⟩:=pq (n0:=H.n) (c:=1) (H:=az) (rows:= [[.int .i64 V,.int .i64 Z,.str ae aj,.str af ao,ar,aw]]) (aQ:=j) (v:= .A [[.int .i64 V,.int .i64 Z,.str ae aj,.str af ao,ar,aw]] true) (x:=i) (.inr (.inl rfl)) bx bu.n ah C.cw br ah ab;have bb:=jc ba az;subst u;simp only [go_sem,hF,C.O,bb,bH,a7,T.O];exact an.mk ⟨B.tidy,B.up H ab bu,bn,T,ay⟩
 clear hF;rintro e bW ⟨cN,b6,aq,bw,hF⟩;refine ak.kp [0,4,5,6] (λp e h=>Tidy h/\U H h/\cG h 6 aq ([[.int .i64 V,.int .i64 Z,.str ae aj,.str af ao,ar,aw]]++j)/\M e 3= .W 0 aS/\M e 12=aq/\p e) ?_ ?_
 . obtain ⟨bn,h,a7,T,B,bs⟩:=aaZ (n0:=H.n) (c:=1+j.length) (H:=bW) (rows:= [[.int .i64 V,.int .i64 Z,.str ae aj,.str af ao,ar,aw]]++j) (aQ:= [[.int .i64 aF,.int .i64 aO,.str E I,.str aH aN,aT,aU]]) (v:=aq) (x:= .A [[.int .i64 aF,.int .i64 aO,.str E I,.str aH aN,aT,aU]] true) bw cN b6.n b0.wt (.inl (.inr ⟨_,rfl⟩)) ah ah ah;have bb:=jc a8 bW;have bt:=B.up H ab b6;have aW:=cq ad n ab ab y z bn h B.tidy (T.cw λr bf=>(bq.wt r bf).len);subst u;simp only [go_sem,hF,bw.O,bb,bH,a7,T.O];rcases aW with aW|⟨bp,K,aW⟩
   . simp only [go_sem,aW];exact an.mk ⟨B.tidy,bt,bs,ay⟩
   . simp only [go_sem,aW];exact an.stop rfl ah
 clear hF;rintro e aA ⟨bS,bg,bs,hF⟩;refine ak.kp [0,3,4,5,6] (λp e h=>aA=h/\p e) ?_ ?_
 . have bb:=jc a8 aA;have aX:=cr ad n ab ab y z (.A [[.int .i64 aF,.int .i64 aO,.str E I,.str aH aN,aT,aU]] true) aq aA bS (.inl (.inr ⟨_,rfl⟩)) bs;subst u;simp only [go_sem,hF,bs.O,bb,bH];rcases aX with aX|⟨bp,K,aX⟩
   . simp only [go_sem,aX];exact an.mk ⟨rfl,ay⟩
   . simp only [go_sem,aX];exact an.stop rfl (b5 _ K _ _ bg)
 clear hF;rintro e _ ⟨rfl,hF⟩;have b2:=bO.up w.1 bg;refine ak.bF hF (λp e h=>aA=h/\p e) ?_ ?_
 . subst u;simp only [go_sem,hF,C.O,C.len];generalize cx:a1 _ _ _ _ _ _ _ _ _ _=bC;revert bC;refine dA [0,3,4,5,6,124] (λ_=>True) j.length trivial ?_ ?_
   . intro cV s e bP bN hF;obtain ⟨o,bh⟩:=bA bP;have P:=aV bh;have aY:=ct ad n ab ab o P (.ptr id q 0 14) d y z aP aR 4 1819242306 aA bS b2;obtain ⟨c9,dd,bD,bE,cb,cc,dg,dh,c7,c8,rfl,bU,bV⟩:=(br o P).t;simp only [go_sem,hF,C.O,C.a_ (k:=6) bh rfl,bU.J,bV.J];rcases aY with aY|⟨bp,K,aY⟩
     . simp only [go_sem,aY];exact au.next () rfl trivial ay
     . simp only [go_sem,aY];exact au.stop rfl (by simp only [go_sem];exact an.stop rfl (b5 _ K _ _ bg))
   . intro s e bN hF;simp only [go_sem];exact an.mk ah
 clear hF;rintro e _ ⟨rfl,hF⟩;have aZ:=cu ad n ab ab (.ptr id q 0 14) d y z aP aR bz bB aA bS b2;subst u;simp only [go_sem,hF];rcases aZ with aZ|⟨bp,K,aZ⟩
 . simp only [go_sem,aZ];exact ak.un w bg
 . simp only [go_sem,aZ];exact ak.aK K (K.aI 17) w bg
end
def AI (f:Nat) (args:List aa) (ad n:Nat) (H:af) (P:Prop):Prop:=(P/\ ∀a,az G (X G R ad n) f args H a= .ok (.av []) a H)\/ ∃b,fA b/\ ∀a,az G (X G R ad n) f args H a= .aK b H
def FR (P:Prop) (v:aa):Prop:=v= .av []/\P
def Xz {f:Nat} {args:List aa} {ad n:Nat} {H:af} {P:Prop} (ag:(∃v,FR P v/\ ∀tm,az G (X G R ad n) f args H tm= .ok v tm H)\/(∃v,fA v/\ ∀tm,az G (X G R ad n) f args H tm= .aK v H)):AI f args ad n H P:=by
 rcases ag with ⟨v,⟨rfl,b⟩,a⟩|ag
 . exact .inl ⟨b,a⟩
 . exact .inr ag
@[go_sem] theorem ag0 (E:Env) (tm H t u w):gp E [.tmp t,.tmp u,.tmp w] tm H=(if aD (M tm t)&&(aD (M tm u)&&aD (M tm w)) then .ret (.av [M tm t,M tm u,M tm w]) H else .fail):=by simp only [gp,hU,lx];simp
def NN (v:aa):Prop:= ∃a b c ok,v= .av [.str a b,.bool c,.bool ok]
section
variable {ax:aa} {s:List aa} {kN jv rop j3 aJ:Y} (ag:dO ax s kN jv rop j3 aJ) {d:List aa} {ahJ p aU ahI:Y} (aX:fz d s kN jv rop j3 aJ ahJ p aU ahI)
include ag aX
omit ag in
theorem Jl:bo λad n=> ∀c (l m:Nat) H,Tidy H->dP H c d ax-> ∃v,NN v/\ ∀tm,az G (X G R ad n) 131 [c,.str l m] H tm= .ok v tm H:=by
 refine ⟨p.length+aU.length+2,λad n cQ bO c l m H hw bp=> ?_⟩;obtain ⟨n,rfl⟩:=bY n;obtain ⟨id,g,adv,ro,rfl,ku,ks,Ir⟩:=bp;obtain ⟨so,be,op,cP,bJ,rfl,-⟩:=aX.bT.eq;have aeN:=aX.n1;obtain ⟨n3,e,o,rN,afJ,ag5,st,uG,rfl,-,he,b9,-,hm,bh,-,-⟩:=aX.eq;simp only [bl,a6] at ku;refine hg (aL.at (m:=43) rfl rfl rfl rfl rfl rfl rfl rfl ?_);have hF:=trivial;refine ak.kp [0,1] (λF tm H'=>H=H'/\F tm) ?_ ?_
 . simp only [go_sem];exact an.mk ⟨rfl,dC⟩
 rintro tm _ ⟨rfl,hF⟩;refine ak.kp [0,1] (λF tm H'=>H=H'/\F tm) ?_ ?_
 . simp only [go_sem,hF,ku,ks,b9.O,b9.len];generalize SA:a1 _ _ _ _ _ _ _ _ _ _=AG;revert AG;refine dA [0,1,15] (λ_=>True) p.length trivial ?_ ?_
   . intro j s tm gE p0 hF;obtain ⟨x,rB⟩:=bA gE;obtain ⟨Qk,cs,a,A9,Bo,rfl,⟨kY,Oy,rfl,-⟩,⟨a2,Oz,rfl,-⟩,Cb,⟨A9,rfl⟩,⟨Bo,rfl⟩⟩:=aX.b9 x (aV rB);obtain ⟨VV,wk,i1,i2,i3,i4,u,w,VU,kw,rfl,Cv,Cw⟩:=Cb.t;simp only [bl,a6] at rB;simp only [go_sem,hF,b9.O,b9.a_ (k:=10) rB rfl,Cv.J,Cw.J];refine au.aE ?_ ?_<;>intro g<;>simp only [go_sem,hF,g]
     all_goals first
      |exact au.next () rfl trivial ay
      |exact au.stop rfl (by simp only [go_sem];exact an.stop rfl (by simp only [go_sem,hF];exact ak.mk ⟨_,_,_,_,rfl⟩ rfl hw (U.refl _)))
   . intro s tm p0 hF;simp only [go_sem];exact an.mk ⟨rfl,ay⟩
 clear hF;rintro tm _ ⟨rfl,hF⟩;simp only [go_sem,hF,ku,ks,hm.O,hm.len];generalize SA:a1 _ _ _ _ _ _ _ _ _ _=AG;revert AG;refine dA [1,32] (λ_=>True) aU.length trivial ?_ ?_
 . intro j s tm gE p0 hF;obtain ⟨x,rB⟩:=bA gE;obtain ⟨Qk,cs,a,A9,Bo,rfl,⟨kY,Oy,rfl,-⟩,⟨a2,Oz,rfl,-⟩,Cb,⟨A9,rfl⟩,⟨Bo,rfl⟩⟩:=aX.hm x (aV rB);obtain ⟨VV,wk,i1,i2,i3,i4,u,w,VU,kw,rfl,Cv,Cw⟩:=Cb.t;simp only [bl,a6] at rB;simp only [go_sem,hF,hm.O,hm.a_ (k:=10) rB rfl,Cv.J,Cw.J];refine au.aE ?_ ?_<;>intro g<;>simp only [go_sem,hF,g]
   all_goals first
    |exact au.next () rfl trivial ay
    |exact au.stop rfl (by simp only [go_sem,hF];exact ak.mk ⟨_,_,_,_,rfl⟩ rfl hw (U.refl _))
 . intro s tm p0 hF;simp only [go_sem,hF];exact ak.mk ⟨_,_,_,_,rfl⟩ rfl hw (U.refl _)
end
def VQ {ax:aa} {s:List aa} {kN jv rop j3 x:Y} (q:dO ax s kN jv rop j3 x) {d:List aa} {bw p bx bz:Y} (ag:fz d s kN jv rop j3 x bw p bx bz):
    bo λad n=> ∀c H,Tidy H->dP H c d ax->AI 67 [c] ad n H (∀r∈rop,∀l m args ls ms st,fB r l m args ls ms st->st≠ []->pt kN jv x ls ms=false):=by
 obtain ⟨bh,A⟩:=sm q;obtain ⟨bj,T⟩:=Jl ag;obtain ⟨bk,B⟩:=gu 13 al;obtain ⟨bm,V⟩:=gu 15 al;obtain ⟨bn,Z⟩:=gu 16 al;obtain ⟨bp,aY⟩:=dE (l:=rop) (Q:=λr ad n=> ∀l m args ls ms st,fB r l m args ls ms st-> ∀H a,Tidy H->az G (X G R ad n) 86 [ax,.str ls ms] H a= .ok (.bool (pt kN jv x ls ms)) a H) λr z=>by obtain ⟨l,m,args,ls,ms,st,aJ⟩:=q.bT.op r z;obtain ⟨bg,ba⟩:=Jg q ls ms;refine ⟨bg,λad n A T aO aQ aA aP aR aS N H a i=> ?_⟩;obtain ⟨b,av,s,ar,F,L,-⟩:=aJ.eq;obtain ⟨aW,br,bB,bd,bf,u,-⟩:=N.eq;rw [L] at u;simp only [jn,aa.str.injEq] at u;obtain ⟨-,-,⟨rfl,rfl⟩,-⟩:=u;exact ba ad n A T H a i
 obtain ⟨aU,ck,cl,cm,cn,cp⟩:=q.val;refine ⟨bh+bj+bk+bm+bn+bp+rop.length+2,λad n bL bN c H i C=> ?_⟩;obtain ⟨n,rfl⟩:=bY n;have A:=λl m a=>A ad n ab ab (l,m) trivial H a i;have aH:=λl m=>T ad n ab ab c l m H i C;have B:=λl m b f a=>B ad n ab ab l m b f H a i;have V:=λl m b f a=>V ad n ab ab l m b f H a i;have Z:=λl m b f a=>Z ad n ab ab l m b f H a i;obtain ⟨id,j,bH,cb,rfl,h,o,a8⟩:=C;have bJ:=dP.te (ax:=ax) a8;have bO:=ag.n1;have bQ:=q.bT.n;have ao:=q.bT.op;have a7:=q;obtain ⟨bb,bZ,cr,b4,cu,b2,ct,af,-⟩:=q;obtain ⟨cj,bG,b8,bI,cq,rfl,bS,bU,t,bV,bW⟩:=bb.eq;obtain ⟨b6,L,b7,b3,b5,cc,st,cv,rfl,-,bK,aJ,⟨b0,b1,rfl,-⟩,D,z,⟨cf,ch,rfl,-⟩,⟨bD,bE,rfl,-⟩⟩:=ag.eq;simp only [bl,a6] at h af;have bP:=a7.same;have I: ∀(aw:Prop) (c:Int) (C:c≠0) l m b f aT,ak (FR aw) fA H (fin G [] (.aK (.iface 78 (.agg [.int .i64 c,.str l m,.int .i64 b,.int .i64 f])) aT H [])):=λaw c C l m b f aT=>by simp only [go_sem];exact ak.aK (lO c C _ _ _ _) rfl i (U.refl _)
 refine Xz (aL.at (m:=140) rfl rfl rfl rfl rfl rfl rfl rfl ?_);refine ak.bM (λa e=>H=e/\aM 141 [(0,.ptr id j 0 14),(2,.W 0 [.int .i64 0,.int .i64 0])] a) ?_ ?_
 . simp only [go_sem];exact an.mk ⟨rfl,dC⟩
 rintro a _ ⟨rfl,hF⟩;refine ak.bF hF (λg a e=>H=e/\g a) ?_ ?_
 . simp only [go_sem,hF,h,o,aU,A];refine an.aE ?_ ?_<;>intro j<;>simp only [go_sem,hF,j,h,o,B]
   . exact an.mk ⟨rfl,ay⟩
   . exact an.stop rfl (I _ 13 al _ _ _ _ _)
 clear hF;rintro a _ ⟨rfl,hF⟩;refine ak.bF hF (λg a e=>H=e/\g a) ?_ ?_
 . obtain ⟨bC,⟨b,f,bq,ok,rfl⟩,S⟩:=aH bD bE;refine an.kp [0,2] (λg a e=>H=e/\(∃aB aC,M a 4= .bool aB/\M a 5= .bool aC/\g a)) ?_ ?_
   . simp only [go_sem,hF,h,o,S];exact an.mk ⟨rfl,_,_,by simp only [go_sem,hF];trivial⟩
   clear hF;rintro a _ ⟨rfl,aB,aC,hF⟩;simp only [go_sem,hF]
   iterate 2 all_goals try (refine an.aE ?_ ?_<;>intro j<;>simp only [go_sem,hF,j,h,o,B])
   all_goals first
    |exact an.mk ⟨rfl,ay⟩
    |exact an.stop rfl (I _ 13 al _ _ _ _ _)
 clear hF;rintro a _ ⟨rfl,hF⟩;refine ak.bF hF (λg a e=>H=e/\g a) ?_ ?_
 . simp only [go_sem,hF,h,o,D.O,D.len];refine an.aE ?_ ?_<;>intro j<;>simp only [go_sem,hF,j,h,o,V]
   all_goals first
    |exact an.mk ⟨rfl,ay⟩
    |exact an.stop rfl (I _ 15 al _ _ _ _ _)
 clear hF;rintro a _ ⟨rfl,hF⟩;refine ak.kp [0,2] (λg a e=>H=e/\(∃b f aD,M a 6= .str b f/\M a 8= .bool aD/\g a)) ?_ ?_
 . obtain ⟨bC,⟨b,f,bq,ok,rfl⟩,S⟩:=aH 1 107;simp only [go_sem,hF,S];exact an.mk ⟨rfl,_,_,_,by simp only [go_sem,hF];trivial⟩
 clear hF;rintro a _ ⟨rfl,cd,cg,aD,hF⟩;refine ak.kp [0,2] (λg a e=>H=e/\g a) ?_ ?_
 . simp only [go_sem,hF,h,o,af,t.O,t.len];generalize aZ:a1 _ _ _ _ _ _ _ _ _ _=P;revert P;refine dA [0,2,6,8,89] (λ_=>True) rop.length trivial ?_ ?_
   . intro F s a ah y hF;obtain ⟨K,w⟩:=bA ah;have bR:=(ao K (aV w)).len;obtain ⟨l,m,args,ls,ms,st,⟨⟨b,av,s,ar,aN,rfl,ae,v,⟨bs,aq,-⟩⟩,-⟩⟩:=ao K (aV w);simp only [go_sem,hF,t.O,t.a_ (k:=7) w rfl,ae.J,v.J,aq.J,v.O,v.len]
     iterate 3 all_goals try (refine au.aE ?_ ?_<;>intro j<;>simp only [go_sem,hF,j,B])
     all_goals first
      |exact au.next () rfl trivial ay
      |exact au.stop rfl (by simp only [go_sem];exact an.stop rfl (I _ 13 al _ _ _ _ _))
   . intro s a y hF;simp only [go_sem];exact an.mk ⟨rfl,ay⟩
 clear hF;rintro a _ ⟨rfl,hF⟩;simp only [go_sem,hF,h,o,af,t.O,t.len];generalize aZ:a1 _ _ _ _ _ _ _ _ _ _=P;revert P;refine dA [0,2,117] (λF=> ∀r∈rop.take F,∀l m args ls ms st,fB r l m args ls ms st->st≠ []->pt kN jv x ls ms=false) rop.length ai ?_ ?_
 . intro F s a ah y hF;obtain ⟨K,w⟩:=bA ah;have D:=aV w;obtain ⟨l,m,args,ls,ms,st,aj⟩:=ao K D;have aX:=λa=>aY ad n ab ab K D l m args ls ms st aj H a i;have aI:(st≠ []->pt kN jv x ls ms=false)-> ∀r∈rop.take (F+1),∀l m args ls ms st,fB r l m args ls ms st->st≠ []->pt kN jv x ls ms=false:=λbc r z aO aQ aA aP aR aS N E=>by
    rcases tT w z with z|rfl
    . exact y r z aO aQ aA aP aR aS N E
    . obtain ⟨b,av,s,ar,aN,L,b9,bt,-⟩:=aj.eq;obtain ⟨aW,br,bB,bd,bf,u,ca,bu,-⟩:=N.eq;rw [L] at u;simp only [jn,aa.str.injEq] at u;obtain ⟨-,-,⟨rfl,rfl⟩,-,-,-,rfl,-⟩:=u;rw [qe bu bt] at E;exact bc E
   obtain ⟨b,av,s,ar,aN,rfl,ae,v,⟨bs,aq,-⟩⟩:=aj.eq;simp only [go_sem,hF,t.O,t.a_ (k:=7) w rfl,ae.J,v.J,aq.J,v.O,v.len];refine au.aE ?_ ?_<;>intro aF<;>simp only [go_sem,hF,aF,h,o,aU,aX]
   all_goals try (refine au.aE ?_ ?_<;>intro aG<;>simp only [go_sem,hF,aG,Z])
   all_goals first
    |exact au.stop rfl (by simp only [go_sem];exact I _ 16 al _ _ _ _ _)
    |exact au.next () rfl (aI λ_=>aG) ay
    |exact au.next () rfl (aI λE=>absurd aF (by cases st<;>simp at E|-)) ay
 . intro s a y hF;rw [bX] at y;simp only [go_sem];exact ak.mk ⟨rfl,y⟩ rfl i (U.refl _)
def dQ (r:List aa):List aa:=(r.drop 2).take 6
def sQ (r:List aa):List aa:= [M r 0]
def iz.row {r} (d:iz r):r.length=10/\ ∀v∈r,J v=true/\D 20 v=true:=by
 obtain ⟨k,l,f,b,c,rfl,⟨g,i,rfl,-⟩,⟨h,j,rfl,-⟩,e,⟨b,rfl⟩,⟨c,rfl⟩⟩:=d;have:=e.row;refine ⟨by simp [this.1],λv a=> ?_⟩;simp only [bl,a6,b2,cr,dG,or_false] at a;rcases a with rfl|rfl|a|rfl|rfl
 . exact ⟨rfl,rfl⟩
 . exact ⟨rfl,rfl⟩
 . exact this.2 v a
 . exact ⟨rfl,rfl⟩
 . exact ⟨rfl,rfl⟩
theorem qK {rows:Y} (a:b8 rows): ∀r∈rows,r.length=1:=λr b=>by obtain ⟨c,d,rfl,-⟩:=a r b;rfl
def A3 {y z:aa} {ky i:Y} (a:F y ky) (b:F z i) (H:af):cT G 230 2 [(0,y),(1,z)] H=some (.A [[y],[z]] true,H):=by
 have:=uX (E:=G) (t:=230) (el:=28) (k:=1) (H:=H) (z:= .V) aq aq aq al rfl al y z a.rk b.rk;rw [a.cells,b.cells] at this;exact this
def Vb {ax:aa} {s:List aa} {kN jv rop j3 bA:Y} (ao:dO ax s kN jv rop j3 bA) {d:List aa} {cE p o cF:Y} (aw:fz d s kN jv rop j3 bA cE p o cF)
    {N:Nat} (hT:bL ((p++o).map dQ) N) (hN:N<100000):
    bo λad n=> ∀c H,Tidy H->dP H c d ax->fK 66 [c] ad n H:=by
 have cY:=aw.n1;have aY: ∀e∈p++o,iz e:=λe r=>(cr.1 r).elim (aw.b9 e) (aw.hm e);have cV:(p++o).length<1048560:=uF;have aD: ∀e∈p++o,bL [dQ e] N:=λe r=>hT.one (cd.2 ⟨e,r,rfl⟩);obtain ⟨ct,aP⟩:=sm ao;obtain ⟨cx,aR⟩:=gu 13 al;obtain ⟨cy,aS⟩:=gu 14 al;obtain ⟨cz,aU⟩:=gu 17 al;obtain ⟨cA,bV⟩:=dE (l:=p++o) (Q:=λe ad n=> ∀v c d (h i:Int) (f g:Nat) H,Tidy H->dP H c d ax->cG H 6 v [dQ e]->fK 123 [c,.agg [.int .i64 h,.int .i64 i],.str f g,v] ad n H) λe r=>wb ao [dQ e] (aD e r).wt ai;obtain ⟨cB,bW⟩:=dE (l:=p++o) (Q:=λe ad n=> ∀c d (h i:Int) (f g bf bg:Nat) H,Tidy H->dP H c d ax->fK 128 [c,.agg [.int .i64 h,.int .i64 i],.str f g,.agg (dQ e),.str bf bg] ad n H) λe r=>tM ao ((aD e r).wt _ (bs.2 rfl));obtain ⟨cC,bX⟩:=dE (l:=p++o) (Q:=λe ad n=> ∀v H,Tidy H->cG H 6 v [dQ e]-> ∃y,uO N y/\ ∀a,az G (X G R ad n) 130 [v] H a= .ok y a H) λe r=>JA [dQ e] N ab (aD e r);obtain ⟨cD,bZ⟩:=oZ 1048560 al;have cR:=aw;obtain ⟨c5,cO,bx,c1,bw,dd,df,dq,cc,-,cS,a8,-,a7,r,-,-⟩:=aw.eq;have aF: [p,o].flatten=p++o:=ai;obtain ⟨cu,bn⟩:=(Ds (.A [[bx],[bw]] true) [[bx],[bw]] [p,o] (.inr ⟨_,rfl⟩) (wG a8 a7) rfl ai (by rw [aF];exact λe r=>(aY e r).row) (by rw [aF];unfold b7;omega) (by rw [aF];omega)).val;rw [aF] at bn;obtain ⟨cJ,dg,dh,dj,dk,dm⟩:=ao.val;have cZ:=ao.same;refine ⟨ct+cx+cy+cz+cA+cB+cC+cD+cu+(p++o).length+N+2,λad n cU cX c H u av=> ?_⟩;obtain ⟨n,rfl⟩:=bY n;have aP:=λf g H u a=>aP ad n ab ab (f,g) trivial H a u;have aR:=λf g h i H u a=>aR ad n ab ab f g h i H a u;have aS:=λf g h i H u a=>aS ad n ab ab f g h i H a u;have aU:=λf g h i H u a=>aU ad n ab ab f g h i H a u;have b5:=av;obtain ⟨id,I,cM,db,rfl,aG,ca,b6⟩:=av;have b3:=dP.te (ax:=ax) b6;obtain ⟨bB,aH,bI⟩:=bn ad n ab ab H u;have b4:=A3 a8 a7 H;have cT:=aG;obtain ⟨de,cL,c7,cP,dn,rfl,-⟩:=ao.bT.eq;rw [cc] at aG;simp only [bl,a6] at aG;have bh: ∀(c:Int) (av:c≠0) f g h i aB j,U H j->ak lL fA H (fin G [] (.aK (.iface 78 (.agg [.int .i64 c,.str f g,.int .i64 h,.int .i64 i])) aB j [])):=λc av f g h i aB j bb=>by simp only [go_sem];exact ak.aK (lO c av _ _ _ _) rfl u bb
 have bz: ∀y,fA y-> ∀aB j,U H j->ak lL fA H (fin G [] (.aK y aB j [])):=λy C aB j bb=>by simp only [go_sem];exact ak.aK C (C.aI 17) u bb
 refine o6 (aL.at (m:=89) rfl rfl rfl rfl rfl rfl rfl rfl ?_);simp only [go_sem,aG,ca,a8.O,a7.O,b4,bH,bI,aH.O,aH.len];have hF:=trivial;generalize b1:a1 _ _ _ _ _ _ _ _ _ _=aO;revert aO;refine cv [0,19] (λs=> [(2,s.1)]) (λs=>s.2) (λK s=>bd H.n 9 1 K s.2 (((p++o).take K).map sQ) s.1/\Tidy s.2/\U H s.2) (p++o).length (.V,H) ⟨bd.nil,u,U.refl _⟩ ?_ ?_
 . rintro K ⟨y,q⟩ a cg ⟨C,D,w⟩ hF;simp only at C D w hF|-;obtain ⟨v,aJ⟩: ∃e,(p++o)[K]? =some e:=⟨(p++o)[K],by simp only [lj cg]⟩;have aA:=aV aJ;have ba:b8 (((p++o).take K).map sQ):=λe r=>by obtain ⟨cK,cq,rfl⟩:=cd.1 r;obtain ⟨bD,bE,bC,E,F,rfl,⟨z,B,rfl,bt⟩,-⟩:=aY cK (hQ cq);exact ⟨z,B,rfl,bt⟩
   have ck:=C.cw (qK ba);have aX:=b5.up u.1 w;have L:=λv h i f g=>bV ad n ab ab _ aA v (.ptr id I 0 14) d h i f g q D aX;have M:=λh i f g bf bg=>bW ad n ab ab _ aA (.ptr id I 0 14) d h i f g bf bg q D aX;have aC:=λv=>bX ad n ab ab _ aA v q D;have bO:=λf g=>bZ ad n ab ab y _ f g q ba da D ck;have bG:=λf g a=>aP f g q D a;have bJ:=λf g h i a=>aR f g h i q D a;have bK:=λf g h i a=>aS f g h i q D a;have bN:=λf g h i a=>aU f g h i q D a;have cm:=(aD v aA).wt _ (bs.2 rfl);have aW:=jc cm q;obtain ⟨c0,cQ,cN,dc,bS,cf,cb,-⟩:=aX;cases bS;have bm:((p++o).take (K+1)).map sQ=((p++o).take K).map sQ++ [sQ v]:=by rw [fg,aJ];simp
   obtain ⟨bD,bE,bC,E,F,rfl,⟨z,B,rfl,bt⟩,⟨aq,ar,rfl,-⟩,b0,⟨E,rfl⟩,⟨F,rfl⟩⟩:=aY v aA;obtain ⟨ag,ah,T,Z,ae,af,aj,P,c3,c2,rfl,cp,cn⟩:=b0.t;simp only [bl,a6] at aJ;have bP:dQ ([.str z B,.str aq ar]++ [.int .i64 ag,.int .i64 ah,.str T Z,.str ae af,aj,P]++ [.int .i64 E,.int .i64 F])= [.int .i64 ag,.int .i64 ah,.str T Z,.str ae af,aj,P]:=rfl;rw [bP] at L M aC aW;have bQ:sQ ([.str z B,.str aq ar]++ [.int .i64 ag,.int .i64 ah,.str T Z,.str ae af,aj,P]++ [.int .i64 E,.int .i64 F])= [.str z B]:=rfl;rw [bQ] at bm;refine au.bM (λa j=>q=j/\ ∃bj,aM 90 [(21,.int .i64 (K:Nat)),(20,.int .i64 ((p++o).length:Nat)),(0,.ptr id I 0 14),(2,y),(19,bB),(4,.W bj [.str z B,.str aq ar,.int .i64 ag,.int .i64 ah,.str T Z,.str ae af,aj,P,.int .i64 E,.int .i64 F])] a) ?_ ?_
   . simp only [go_sem,hF,aH.O,aH.a_ (k:=10) aJ rfl,cp.J,cn.J];exact an.mk ⟨rfl,_,by simp only [go_sem,hF];trivial⟩
   clear hF;rintro a _ ⟨rfl,bj,hF⟩;refine au.bF hF (λS a j=>q=j/\ ∃bk,aM 90 [(5,.W bk [.int .i64 E,.int .i64 F])] a/\S a) ?_ ?_
   . simp only [go_sem,hF];exact an.mk ⟨rfl,_,by simp only [go_sem,hF];trivial⟩
   clear hF;rintro a _ ⟨rfl,bk,hF⟩;refine au.bM (λa j=>q=j/\aM 90 [(21,.int .i64 (K:Nat)),(20,.int .i64 ((p++o).length:Nat)),(0,.ptr id I 0 14),(2,y),(19,bB),(4,.W bj [.str z B,.str aq ar,.int .i64 ag,.int .i64 ah,.str T Z,.str ae af,aj,P,.int .i64 E,.int .i64 F]),(5,.W bk [.int .i64 E,.int .i64 F])] a) ?_ ?_
   . simp only [go_sem,hF,C.O,bO];refine an.aE ?_ ?_<;>intro I<;>simp only [go_sem,hF,I,bK]
     . exact an.stop rfl (bh 14 al _ _ _ _ _ _ w)
     simp only [go_sem,hF,cf,cb,b3,cJ,bG];refine an.aE ?_ ?_<;>intro I<;>simp only [go_sem,hF,I,bJ]
     . exact an.mk ⟨rfl,ay⟩
     . exact an.stop rfl (bh 13 al _ _ _ _ _ _ w)
   clear hF;rintro a _ ⟨rfl,hF⟩;refine au.bF hF (λS a j=>q=j/\S a) ?_ ?_
   . have L:=L (.A [[.int .i64 ag,.int .i64 ah,.str T Z,.str ae af,aj,P]] true) E F z B (.inl (.inr ⟨_,rfl⟩));simp only [go_sem,hF,aW,bH];rcases L with L|⟨bU,aZ,L⟩
     . simp only [go_sem,L];exact an.mk ⟨rfl,ay⟩
     . simp only [go_sem,L];exact an.stop rfl (bz _ aZ _ _ w)
   clear hF;rintro a _ ⟨rfl,hF⟩;refine au.bF hF (λS a j=>q=j/\S a) ?_ ?_
   . have M:=M E F z B aq ar;simp only [go_sem,hF];rcases M with M|⟨bU,aZ,M⟩
     . simp only [go_sem,M];exact an.mk ⟨rfl,ay⟩
     . simp only [go_sem,M];exact an.stop rfl (bz _ aZ _ _ w)
   clear hF;rintro a _ ⟨rfl,hF⟩;refine au.bF hF (λS a j=>q=j/\S a) ?_ ?_
   . obtain ⟨dp,⟨bc,aN,c6,c4⟩,aC⟩:=aC (.A [[.int .i64 ag,.int .i64 ah,.str T Z,.str ae af,aj,P]] true) (.inl (.inr ⟨_,rfl⟩));simp only [go_sem,hF,aW,bH,aC,aN.O,aN.len];generalize b1:a1 _ _ _ _ _ _ _ _ _ _=aO;revert aO;refine dA [21,20,0,2,19,4,5,72] (λ_=>True) (bc.map iu).length trivial (hlf:=da) (hN:=da) ?_ ?_
     . intro bu cH a ch b2 hF;obtain ⟨e,bq⟩: ∃e,(bc.map iu)[bu]? =some e:=⟨(bc.map iu)[bu],by simp only [lj ch]⟩;obtain ⟨⟨c8,c9⟩,cW,rfl⟩:=cd.1 (aV bq);simp only [go_sem,hF,aN.O,aN.a_ (k:=1) bq rfl,iu];refine au.aE ?_ ?_<;>intro I<;>simp only [go_sem,hF,I,bN]
       all_goals first
        |exact au.next () rfl trivial ay
        |exact au.stop rfl (by simp only [go_sem];exact an.stop rfl (bh 17 al _ _ _ _ _ _ w))
     . intro cH a b2 hF;simp only [go_sem];exact an.mk ⟨rfl,ay⟩
   clear hF;rintro a _ ⟨rfl,hF⟩;obtain ⟨cI,j,bR,br,bp⟩:=C.app (x:= .A [[.str z B]] true) (b:=16) (k:=1) oe nI rfl rfl al al D w.n ba.rows (aQ:= [[.str z B]]) rfl (λP cj=>by rw [bs.1 cj];exact ⟨rfl,λy C=>by rw [bs.1 C];exact ⟨rfl,rfl⟩⟩)
    (by simp only [di,h6,cl,h5];unfold b7;omega) og
   simp only [go_sem,hF,C.O,br.O,bR];exact au.next (cI,j) rfl ⟨by rw [bm];exact br,bp.tidy,bp.up H (aT _) w⟩ ay
 . rintro ⟨y,q⟩ a ⟨C,D,w⟩ hF;simp only at w|-;simp only [go_sem];exact ak.un u w
end Go.aj
