/- A part of the proof. -/
import Derived.Test.YtiodgpibgiodcaaGreatDoorP00
import Derived.Test.YtiodgpibgiodcaaGreatDoorP07
import Derived.Test.YtiodgpibgiodcaaGreatDoorP10
import Derived.Test.YtiodgpibgiodcaaGreatDoorP11
import Derived.Test.YtiodgpibgiodcaaGreatDoorP12
import Derived.Test.YtiodgpibgiodcaaGreatDoorP13
import Derived.Test.YtiodgpibgiodcaaGreatDoorP14
set_option linter.all false
set_option maxHeartbeats 4000000
namespace Go.aj
open Go Go.Proofs.Tryz
set_option maxRecDepth 100000
def aoZ {l m x i:Nat} (c:i<l):en (m+x*2^(8*l)) i=en m i:=by
 unfold en;rw [yZ,yZ];obtain ⟨a,rfl⟩: ∃a,l=i+1+a:=⟨l-(i+1),ab⟩;have b:x*2^(8*(i+1+a))=2^(8*i)*(256*(x*2^(8*a))):=by grind
 rw [b,Nat.add_mul_div_left _ _ ah,aot]
def amg {l m:Nat} (a:T l m):m<2^(8*l):=by unfold T at a;rwa [show (256:Nat)=2^8 from rfl,<-vW] at a
def aob {l m x i:Nat} (a:m<2^(8*l)):en (m+x*2^(8*l)) (l+i)=en x i:=by
 unfold en;rw [yZ,yZ,show 8*(l+i)=8*l+8*i by omega,amy,<-aou];rw [rK x,Nat.add_mul_div_left _ _ ab,aiJ a,gH]
def amS (l m j:Nat):gD l m j=m+(39+(48+(j+1))*256)*2^(8*l):=by
 unfold gD;rw [yY,yY,show 8*(l+1)=8+8*l by omega,amy,show (2:Nat)^8=256 from rfl]
 grind
def apd {l m j:Nat} (a:T l m):en (gD l m j) l=39:=by
 have:=aob (x:=39+(48+(j+1))*256) (i:=0) (amg a);rw [amS,show en (m+(39+(48+(j+1))*256)*2^(8*l)) l=_ from this];unfold en;simp
def aqC {l m j:Nat} (a:T l m) (b:j<8):en (gD l m j) (l+1)=49+j:=by
 rw [amS,aob (amg a)];unfold en;omega
def BR {l m j:Nat} (a:T l m) (c:j<8):T (fe l) (gD l m j):=by
 have d:=amg a;unfold T fe;rw [amS,show (256:Nat)=2^8 from rfl,<-vW,show 8*(l+1+1)=16+8*l by omega,amy];have b:m+(39+(48+(j+1))*256)*2^(8*l)<(39+(48+(j+1))*256+1)*2^(8*l):=ah;refine yX b (fU _ ?_);omega
def aqD {l m j:Nat} (a:T l m) (d:j<8) (e:l≠0):jk (fe l) (gD l m j)=true:=by
 unfold jk fe;have b:l+1+1-2=l:=ab;have c:l+1+1-1=l+1:=ab;rw [b,c,apd a,aqC a d]
 grind
def ape {l m j:Nat} (a:T l m) (b:j<8) (c:l≠0):e_ (fe l) (gD l m j)=l/\fL (fe l) (gD l m j)=m:=by
 unfold e_ fL;rw [aqD a b c,if_pos rfl,if_pos rfl];refine ⟨by unfold fe;omega,?_⟩;rw [show fe l-2=l by unfold fe;omega,amS,rK,aot,tE (amg a)]
def anQ {l m j:Nat} (a:T l m):isName (fe l) (gD l m j)=false:=by
 have:((List.range (fe l)).all λb=>qd (en (gD l m j) b))=false:=by rw [aiG];exact ⟨l,h9.2 (by unfold fe;omega),by rw [apd a];decide⟩
 unfold isName
 grind
def anR {l m:Nat} (a:isName l m=true):l≠0/\l<=40/\isLet (en m 0)=true/\ ∀i<l,qd (en m i)=true:=by
 unfold isName at a
 grind
def arJ {l m:Nat} (a:l≠0) (b:l<=40) (c:isLet (en m 0)=true) (d: ∀i<l,qd (en m i)=true):isName l m=true:=by
 unfold isName
 grind
def arI {l m x:Nat} (d:isName l m=true) (e:T l m) (j:l+7<=40) (k: ∀i<7,qd (en x i)=true):isName (l+6+1) (m+x*2^(8*l))=true:=by
 obtain ⟨f,-,c,g⟩:=anR d;refine arJ ab ab (by rw [aoZ ab];exact c) λi h=> ?_;rcases qk i l with a|a
 . rw [aoZ a];grind
 . obtain ⟨b,rfl⟩: ∃b,i=l+b:=⟨i-l,ab⟩;rw [aob (amg e)];grind
def apl (b:Nat): ∀(n num i:Nat),mK b n num i=none-> ∀k<n,en num k≠b
 |0,_,_,_,k,d=>ab
 | n + 1,num,i,a,k,d=>by
   unfold mK at a;split at a
   . cases a
   . rename_i e
     cases k with
     | zero=>
       unfold en;intro c
       simp_all
     | succ k=>
       have:=apl b n (num/256) (i+1) a k ab;have c:en (num/256) k=en num (k+1):=by unfold en;rw [yZ,yZ,aou,show 8*(k+1)=8+8*k by omega,amy]
       omega
def arO {l m:Nat} (a:vq l m=false): ∀k<l,en m k≠39:=apl 39 l m 0 (by unfold vq at a;simp_all)
def arQ {l m:Nat} (a:vq l m=false):jk l m=false:=by
 unfold jk;by_cases b:2<l
 . have:=arO a (l-2) ab
   grind
 grind
def arP {l m:Nat} (a:vq l m=false):e_ l m=l/\fL l m=m:=by
 unfold e_ fL;rw [arQ a];simp
def aoa {l m:Nat} (e:uT l m=true):isName l m=true:=by
 have g:(q7.all λa=>match a with| [.str b c]=>isName b c|_=>false)=true:=by decide+kernel
 obtain ⟨a,f,d⟩:=kB.1 e;have:=ba.1 g a f
 match a with
 | [.str b c]=>
   rw [ajc] at d
   grind
def aoj (l m:Nat): ∀(L:Y) (o:Option (List aa)),L.foldl (λo r=>if eV l m r then some r else o) o=(L.foldl (λo r=>if eV l m r then some r else o) none).or o
 | [],o=>by simp
 | a::L,o=>by
   simp only [amL];rw [aoj l m L (if eV l m a=true then some a else o),aoj l m L (if eV l m a=true then some a else none),Option.or_assoc]
   grind
def anh (a b:Y) (l m:Nat):lV (a++b) l m=(lV b l m).or (lV a l m):=by
 unfold lV;rw [anc,aoj]
def arA {L:Y} {l m:Nat} (b: ∀r∈L,eV l m r=false):lV L l m=none:=by
 unfold lV
 induction L with
 |nil=>rfl
 | cons a L c=>
   grind
def aoC {f:List aa->List aa} {l m:Nat}: ∀ {L:Y},(∀r∈L,eV l m (f r)=eV l m r)->lV (L.map f) l m=(lV L l m).map f
 | [],_=>rfl
 | a::L,b=>by
   have d:=aoC (L:=L) λr c=>b r (h8 _ c);rw [show a::L= [a]++L from rfl,vR,anh,anh,d];have:lV ([a].map f) l m=(lV [a] l m).map f:=by
    show (if eV l m (f a)=true then some (f a) else none)=(if eV l m a=true then some a else none).map f
    grind
   grind
def amZ {L:Y} {l m:Nat} {r:List aa} (a:lV L l m=some r):r∈L/\eV l m r=true:=
 DP (rop:=L) L none ai ai a
def amA {r:List aa} (k:c6 r):f (M (il r) 1)=f (M r 1)/\f (M (il r) 3)=f (M r 3)/\ak7 (il r)= []/\M (il r) 0=M r 0/\M (il r) 2=M r 2/\M (il r) 4=M r 4/\M (il r) 5=M r 5:=by
 obtain ⟨d,g,n,e,h,s,l⟩:=k;obtain ⟨b,a,m,i,ac,rfl,o,p,q,c,-⟩:=l.eq;have j:il [.str d g,b,.str e h,a,.int .i64 i,.int .i64 ac,m]= [.str d g,dk (f b),.str e h,gB a (f a),.int .i64 i,.int .i64 ac,.V]:=rfl;rw [j];refine ⟨bm (fW _),?_,rfl,rfl,rfl,rfl,rfl⟩;show f (gB a (f a))=f a;rw [bm c,bm (xH c)]
def ann {r:List aa} (m:c6 r):f (M (ct r) 1)=f (M r 1)/\f (M (ct r) 3)=f (M r 3)/\ak7 (ct r)=ak7 r/\M (ct r) 0=M r 0/\M (ct r) 2=M r 2/\M (ct r) 4=M r 4/\M (ct r) 5=M r 5:=by
 obtain ⟨g,i,o,h,j,s,n⟩:=m;obtain ⟨c,a,b,k,ac,rfl,p,e,q,d,-⟩:=n.eq;have l:ct [.str g i,c,.str h j,a,.int .i64 k,.int .i64 ac,b]= [.str g i,dk (f c),.str h j,gB a (f a),.int .i64 k,.int .i64 ac,gB b (f b)]:=rfl;rw [l];refine ⟨bm (fW _),?_,?_,rfl,rfl,rfl,rfl⟩
 . show f (gB a (f a))=f a;rw [bm d,bm (xH d)]
 . show f (gB b (f b))=f b;rw [bm e,bm (xH e)]
theorem anP {l m:Nat} {r q:List aa} (e:c6 r) (d:M q 0=M r 0) (h:q≠ []):eV l m q=eV l m r:=by
 obtain ⟨a,b,g,i,j,p,c⟩:=e;obtain ⟨t,k,o,n,ac,rfl,-⟩:=c.eq
 cases q with
 |nil=>grind
 | cons f s=>
   have:f= .str a b:=d;subst this;rfl
def aoJ {r:List aa} (a:c6 r):il r≠ []:=by
 obtain ⟨e,g,d,f,h,l,b⟩:=a;obtain ⟨c,i,k,j,ac,rfl,-⟩:=b.eq;intro a;cases a
def arU {r:List aa} (a:c6 r):ct r≠ []:=by
 obtain ⟨e,g,d,f,h,l,b⟩:=a;obtain ⟨c,i,k,j,ac,rfl,-⟩:=b.eq;intro a;cases a
section
variable {rop ao:Y} (aie: ∀r∈rop,c6 r) (ak2: ∀r∈ao,c6 r)
def alX (rop:Y) (l m:Nat):Prop:= ∀a∈oN rop,eV l m a=false
include aie in
theorem aoD {l m:Nat} (bO:alX rop l m):lV (eZ rop) l m=(lV rop l m).map il:=by rw [eZ,anh,arA bO,anJ];exact aoC λr bh=>anP (aie r bh) (amA (aie r bh)).2.2.2.1 (aoJ (aie r bh))
include ak2 in
theorem aoB (l m:Nat):lV (ao.map ct) l m=(lV ao l m).map ct:=
 aoC λr bh=>anP (ak2 r bh) (ann (ak2 r bh)).2.2.2.1 (arU (ak2 r bh))
include aie in
theorem anX {l m:Nat} (bO:alX rop l m):j0 (eZ rop) l m=j0 rop l m:=by unfold j0;rw [aoD aie bO,Option.isSome_map]
include ak2 in
theorem anm (l m:Nat):j0 (ao.map ct) l m=j0 ao l m:=by unfold j0;rw [aoB ak2,Option.isSome_map]
include aie ak2 in
theorem aql {l m:Nat} (bO:alX rop l m):GA (eZ rop) (ao.map ct) l m=GA rop ao l m:=by unfold GA;rw [anX aie bO,anm ak2]
include ak2 in
theorem apS (l m:Nat):f (M (iQ (ao.map ct) l m) 1)=f (M (iQ ao l m) 1)/\M (iQ (ao.map ct) l m) 2=M (iQ ao l m) 2:=by
 unfold iQ;rw [aoB ak2]
 cases h:lV ao l m with
 |none=>simp
 | some r=>
   have:=ann (ak2 r (amZ h).1)
   grind
include aie in
theorem arY {l m:Nat} (bO:alX rop l m):f (M (iQ (eZ rop) l m) 1)=f (M (iQ rop l m) 1)/\M (iQ (eZ rop) l m) 2=M (iQ rop l m) 2:=by
 unfold iQ;rw [aoD aie bO]
 cases h:lV rop l m with
 |none=>simp
 | some r=>
   have:=amA (aie r (amZ h).1)
   grind
include aie ak2 in
theorem aqm {l m:Nat} (bO:alX rop l m):f (M (mr (eZ rop) (ao.map ct) l m) 1)=f (M (mr rop ao l m) 1)/\M (mr (eZ rop) (ao.map ct) l m) 2=M (mr rop ao l m) 2:=by
 unfold mr;rw [anX aie bO,anm ak2];split
 . exact arY aie bO
 . split
   . exact apS ak2 l m
   simp
end
set_option maxHeartbeats 1000000
def aqz {t:Nat} (f:t=88\/t=166) (a b c d:Nat):eF G 20 t (.agg [.str a b,.str c d]) (.agg [.str a b,.str c d])=some true:=by
 have e: ∀a b:Nat,(a==a&&b==b)=true:=ai;rcases f with rfl|rfl
 . show (match some (a==a&&b==b) with|some true=>(match some (c==c&&d==d) with|some true=>some true|some false=>some false|none=>none)|some false=>some false|none=>none)=_;rw [e,e]
 . show (match some (a==a&&b==b) with|some true=>(match some (c==c&&d==d) with|some true=>some true|some false=>some false|none=>none)|some false=>some false|none=>none)=_;rw [e,e]
theorem aoX {t:Nat} (e:t=88\/t=166) (a b c d:Nat):b4 G .neq t (.agg [.str a b,.str c d]) (.agg [.str a b,.str c d])=some (.bool false):=by show (match eF G 20 t _ _ with|some b=>gC (!b) λb=>some (aa.bool b)|none=>none)=_;rw [aqz e];rfl
def alD {α:Type} {N:List aa->α} {A B:Y} (d:A.map N=B.map N) {j:Nat} {a:List aa} (e:A[j]? =some a): ∃b,B[j]? =some b/\N a=N b:=by
 have:=congrArg (·[j]?) d;simp only [hO,e,jV] at this
 cases c:B[j]? with
 |none=>rw [c] at this;cases this
 |some b=>rw [c] at this;exact ⟨b,rfl,aow this⟩
def alr {α:Type} {N:List aa->α} {A B:Y} (a:A.map N=B.map N):A.length=B.length:=by simpa using congrArg List.length a
def aoy {ad n:Nat} {x y:aa} {rows:Y} {H:af} (a:F x rows) (b:F y rows) (f:b8 rows) (hlf:rows.length<ad) (p:rows.length<4611686018427387904) (g:Z H):
    ∀tm,az G (X G R ad (n+1)) 38 [x,y] H tm= .ok (.bool true) tm H:=by
 refine jQ (aL.at (m:=24) (rs:= [.tmp 4]) rfl rfl rfl rfl rfl (by simp only [aO,a.aD,b.aD];rfl) rfl rfl ?_);simp only [go_sem,a.O,a.len,b.O,b.len,bne_self_eq_false];have hF:=trivial;generalize o:a1 _ _ _ _ _ _ _ _ _ _=d;revert d;refine dA [0,1] (λ_=>True) rows.length trivial ?_ ?_
 . clear hF;rintro q i tm e-hF;obtain ⟨h,c⟩:=bA e;obtain ⟨j,l,rfl,-⟩:=f h (aV c);simp only [go_sem,hF,a.O,b.O,a.a_ (k:=1) c rfl,b.a_ (k:=1) c rfl,beq_self_eq_true,tu,alI];exact au.next () rfl trivial ay
 . rintro i tm-hF;simp only [go_sem,hF];exact ak.mk rfl rfl g (U.refl _)
def amE (r q:List aa):Prop:= ∃i k j l a h b c d f m o g n p,(r= [.str i k,f,.str j l,m,.int .i64 a,.int .i64 h,o]/\q= [.str i k,g,.str j l,n,.int .i64 a,.int .i64 h,p])/\(F f b/\F g b/\b8 b/\b.length<1048560)/\
 (F m c/\F n c/\(∀e∈c,gd e)/\c.length<1048560)/\(F o d/\F p d/\(∀e∈d,∃a,e= [.int .i64 a])/\d.length<1048560)
def apq {r q:List aa} (B:amE r q) {ad n:Nat} (hlf:1048570<=ad) {H:af} (p:Z H): ∀tm,az G (X G R ad (n+2)) 19 [.agg r,.agg q] H tm= .ok (.bool true) tm H:=by
 obtain ⟨u,w,v,x,s,t,Y,M,N,y,K,o,z,L,P,⟨rfl,rfl⟩,⟨i,j,D,S⟩,⟨a,e,E,V⟩,⟨c,f,F,T⟩⟩:=B;have A:=aoy (ad:=ad) (n:=n) i j D ab ab p;refine jQ (aL.at (m:=93) (rs:= [.tmp 4]) rfl rfl rfl rfl rfl rfl rfl rfl ?_);have hF:=trivial;refine ak.np [] (λg tm d=>H=d/\aM 95 [(2,.W 0 [.str u w,y,.str v x,K,.int .i64 s,.int .i64 t,o]),(3,.W 0 [.str u w,z,.str v x,L,.int .i64 s,.int .i64 t,P])] tm) ?_ ?_
 . simp only [go_sem,i.J,j.J,a.J,e.J,c.J,f.J];exact an.mk ⟨rfl,dC⟩
 clear hF;rintro tm _ ⟨rfl,hF⟩;refine ak.bF hF (λg tm d=>H=d/\g tm) ?_ ?_
 . simp only [go_sem,hF,i.O,j.O,a.O,e.O,c.O,f.O,a.len,e.len,c.len,f.len,A,beq_self_eq_true,tu,alI,bne_self_eq_false];exact an.mk ⟨rfl,ay⟩
 clear hF;rintro tm _ ⟨rfl,hF⟩;refine ak.bF hF (λg tm d=>H=d/\g tm) ?_ ?_
 . simp only [go_sem,hF,a.O,a.len];generalize C:a1 _ _ _ _ _ _ _ _ _ _=h;revert h;refine dA [2,3] (λ_=>True) M.length trivial ?_ ?_
   . clear hF;rintro I o tm l-hF;obtain ⟨r,b⟩:=bA l;obtain ⟨Q,ae,ag,ah,rfl,-⟩:=E r (aV b);simp only [go_sem,hF,a.O,e.O,a.a_ (k:=2) b rfl,e.a_ (k:=2) b rfl,aoX (.inl rfl)];exact au.next () rfl trivial ay
   . rintro o tm-hF;simp only [go_sem];exact an.mk ⟨rfl,ay⟩
 clear hF;rintro tm _ ⟨rfl,hF⟩;simp only [go_sem,hF,c.O,c.len];generalize C:a1 _ _ _ _ _ _ _ _ _ _=h;revert h;refine dA [2,3] (λ_=>True) N.length trivial ?_ ?_
 . clear hF;rintro I _ tm l-hF;obtain ⟨r,b⟩:=bA l;obtain ⟨Q,rfl⟩:=F r (aV b);simp only [go_sem,hF,c.O,f.O,c.a_ (k:=1) b rfl,f.a_ (k:=1) b rfl,bne_self_eq_false];exact au.next () rfl trivial ay
 . rintro _ tm-hF;simp only [go_sem,hF];exact ak.mk rfl rfl p (U.refl _)
def apr {A B:Y} (r:A.length=B.length) (p: ∀(i:Nat) a b,A[i]? =some a->B[i]? =some b->amE a b) (K:A.length<1048560) {x y:aa} (c:F x A) (d:F y B) {ad n:Nat} (hlf:1048570<=ad) {H:af} (j:Z H):
    ∀tm,az G (X G R ad (n+3)) 136 [x,y] H tm= .ok (.bool true) tm H:=by
 refine jQ (aL.at (m:=25) (rs:= [.tmp 4]) rfl rfl rfl rfl rfl (by simp only [aO,c.aD,d.aD];rfl) rfl rfl ?_);have s:(((A.length:Nat):Int) !=((B.length:Nat):Int))=false:=by rw [r];simp
 simp only [go_sem,c.O,c.len,d.O,d.len,s];have hF:=trivial;generalize J:a1 _ _ _ _ _ _ _ _ _ _=l;revert l;refine dA [0,1] (λ_=>True) A.length trivial ?_ ?_
 . clear hF;rintro e t tm q-hF;obtain ⟨a,f⟩:=bA q;obtain ⟨b,g⟩: ∃b,B[e]? =some b:=⟨B[e]'ab,ai⟩;have h:=p e a b f g;have o:=apq h (n:=n) hlf j;obtain ⟨M,P,N,Q,i,L,V,W,ae,u,S,ag,v,T,ah,⟨rfl,rfl⟩,⟨w,z,-⟩,⟨C,D,-⟩,⟨E,I,-⟩⟩:=h;simp only [go_sem,hF,c.O,d.O,c.a_ (k:=7) f rfl,d.a_ (k:=7) g rfl,o];exact au.next () rfl trivial ay
 . rintro t tm-hF;simp only [go_sem,hF];exact ak.mk rfl rfl j (U.refl _)
def aoT (s q:List aa) (kN d rop h e g f:Y):Prop:= ∃o i m k r p j n l t,(s= [o,i,m,k,r]/\q= [p,j,n,l,t])/\(F o kN/\F p kN/\b8 kN/\kN.length<1048560)/\(F i d/\F j d/\(∀u∈d,gd u)/\d.length<1048560)/\
 (F m rop/\F n h/\rop.length=h.length/\rop.length<1048560/\ ∀(c:Nat) a b,rop[c]? =some a->h[c]? =some b->amE a b)/\(F k e/\F l g/\e.length=g.length/\e.length<1048560/\ ∀(c:Nat) a b,e[c]? =some a->g[c]? =some b->amE a b)/\(F r f/\F t f/\b8 f/\f.length<1048560)
def aqZ {s q:List aa} {kN t rop ai ag ah aj:Y} (D:aoT s q kN t rop ai ag ah aj) {ad n:Nat} (hlf:1048570<=ad) {H:af} (c:Z H): ∀tm,az G (X G R ad (n+4)) 69 [.agg s,.agg q] H tm= .ok (.bool true) tm H:=by
 obtain ⟨al,v,K,B,aq,ao,w,L,C,ar,⟨rfl,rfl⟩,⟨e,f,Q,ax⟩,⟨a,b,S,aA⟩,⟨g,h,M,F,T⟩,⟨i,j,N,I,V⟩,⟨l,o,ae,aB⟩⟩:=D;have x:=aoy (ad:=ad) (n:=n+2) e f Q ab ab c;have A:=aoy (ad:=ad) (n:=n+2) l o ae ab ab c;have y:=apr M T F g h (n:=n) hlf c;have z:=apr N V I i j (n:=n) hlf c;refine jQ (aL.at (m:=61) (rs:= [.tmp 4]) rfl rfl rfl rfl rfl rfl rfl rfl ?_);have hF:=trivial;refine ak.np [] (λr tm d=>H=d/\aM 63 [(2,.W 0 [al,v,K,B,aq]),(3,.W 0 [ao,w,L,C,ar])] tm) ?_ ?_
 . simp only [go_sem,e.J,a.J,g.J,i.J,l.J,f.J,b.J,h.J,j.J,o.J];exact an.mk ⟨rfl,dC⟩
 clear hF;rintro tm _ ⟨rfl,hF⟩;refine ak.bF hF (λr tm d=>H=d/\r tm) ?_ ?_
 . simp only [go_sem,hF,e.O,a.O,g.O,i.O,l.O,f.O,b.O,h.O,j.O,o.O,a.len,b.len,x,A,y,z,beq_self_eq_true,alI,bne_self_eq_false];exact an.mk ⟨rfl,ay⟩
 clear hF;rintro tm _ ⟨rfl,hF⟩;simp only [go_sem,hF,a.O,a.len];generalize av:a1 _ _ _ _ _ _ _ _ _ _=u;revert u;refine dA [2,3] (λ_=>True) t.length trivial ?_ ?_
 . clear hF;rintro aw s tm E-hF;obtain ⟨P,p⟩:=bA E;obtain ⟨aC,aD,aE,aF,rfl,-⟩:=S P (aV p);simp only [go_sem,hF,a.O,b.O,a.a_ (k:=2) p rfl,b.a_ (k:=2) p rfl,aoX (.inr rfl)];exact au.next () rfl trivial ay
 . rintro s tm-hF;simp only [go_sem,hF];exact ak.mk rfl rfl c (U.refl _)
def amB (o:List aa):Nat×Nat:=match o with
 |_::_:: .str a b::_=>(a,b)
 |_=>(0,0)
theorem ash {r:List aa} (a:c6 r):amB (il r)=amB r:=by obtain ⟨e,g,d,f,h,l,b⟩:=a;obtain ⟨c,i,k,j,ac,rfl,-⟩:=b.eq;rfl
theorem asg {r:List aa} (a:c6 r):amB (ct r)=amB r:=by obtain ⟨e,g,d,f,h,l,b⟩:=a;obtain ⟨c,i,k,j,ac,rfl,-⟩:=b.eq;rfl
section
variable {kN aw rop ao:Y} (aie: ∀r∈rop,c6 r) (ak2: ∀r∈ao,c6 r)
include aie ak2
theorem asi {l m:Nat} (c:alX rop l m):amB (mr (eZ rop) (ao.map ct) l m)=amB (mr rop ao l m):=by
 unfold mr;rw [anX aie c,anm ak2];unfold iQ;rw [aoD aie c,aoB ak2];split
 . cases a:lV rop l m with
   |none=>rfl
   |some b=>exact ash (aie b (amZ a).1)
 . split
   . cases a:lV ao l m with
     |none=>rfl
     |some b=>exact asg (ak2 b (amZ a).1)
   . rfl
theorem asj: ∀(t:ak1),(match t with| .n k _ l1 m1 _ _ _ _=>k=5->alX rop l1 m1)->ak3 kN (eZ rop) (ao.map ct) t=ak3 kN rop ao t
 | .n k i l1 m1 g h e f,c=>by
   have a:k=5->amB (mr (eZ rop) (ao.map ct) l1 m1)=amB (mr rop ao l1 m1):=λd=>asi aie ak2 (c d);unfold ak3 zU;by_cases b:k=5
   . have a:=a b;subst b;exact a rfl
   grind
variable (hN: ∀l m,GA rop ao l m=true->alX rop l m)
include hN
mutual
theorem amx: ∀(t:ak1),tk kN aw rop ao t=true->tk kN aw (eZ rop) (ao.map ct) t=true/\ak3 kN (eZ rop) (ao.map ct) t=ak3 kN rop ao t
 | .n d u m o r s l q,c=>by
   unfold tk at c;rw [br] at c;obtain ⟨f,a⟩:=c;obtain ⟨j,k⟩:=apb l f;have b:d=5->alX rop m o:=λh=>by
    subst h;rw [if_neg al,if_pos rfl,amI,br] at a
    grind
   refine ⟨?_,asj aie ak2 _ b⟩;unfold tk;rw [br];refine ⟨j,?_⟩;by_cases g:d=6
   . grind
   rw [if_neg g] at a|-;by_cases e:d=5
   . rw [if_pos e] at a|-;have b:=b e;rw [amI,br,br] at a|-;rw [aql aie ak2 b,(aqm aie ak2 b).1];refine ⟨a.1,a.2.1,?_⟩;rw [ba];intro p i;rw [k p.1 (List.of_mem_zip i).1]
     grind
   grind
theorem apb: ∀(l:List ak1),alZ kN aw rop ao l=true->alZ kN aw (eZ rop) (ao.map ct) l=true/\ ∀t∈l,ak3 kN (eZ rop) (ao.map ct) t=ak3 kN rop ao t
 | [],_=>⟨rfl,ai⟩
 | t::l,a=>by
   unfold alZ at a;rw [br] at a;obtain ⟨b,c⟩:=amx t a.1;obtain ⟨d,e⟩:=apb l a.2;refine ⟨by unfold alZ;grind,λg f=> ?_⟩
   grind
end
omit aie ak2 hN in
theorem apX {k v:Int} {l1 m1 l2 m2:Nat} {ky i:List ak1} (h:alw (.n k v l1 m1 l2 m2 ky i)=true) (ops:Y): ∀x∈py i,alH ops x=false:=by
 have one: ∀ {l m:Nat} {i:List ak1},alK l m i=true-> ∀x∈py i,alH ops x=false:=λ{l m i} h x bj=>by
  cases i with
  |nil=>simp [py] at bj
  | cons t i=>
    obtain ⟨k,v,kY,Oy,a2,Oz,ky,ary⟩:=t;simp only [alK,amm,br,List.isEmpty_iff,beq_iff_eq] at h;obtain ⟨rfl,rfl,⟨⟨⟨dh,cq⟩,-⟩,-⟩,-⟩:=h;have dh:ky= []:=de;have cq:ary= []:=de;subst dh cq;simp only [py,tl,fw,bs] at bj;subst bj;rfl
 have nil:(i.length:Int)=0-> ∀x∈py i,alH ops x=false:=λh x bj=>by have:i= []:=de;subst this;simp [py] at bj
 simp only [alw] at h;split at h
 . simp only [amm,br,beq_iff_eq] at h
   grind
 grind
omit aie ak2 hN in
theorem arE {k v:Int} {l1 m1 l2 m2:Nat} {ky i:List ak1} {d a:Int} (h:(alg (.n k v l1 m1 l2 m2 ky i) d a).isSome=true):alw (.n k v l1 m1 l2 m2 ky i)=true/\(ala ky (d+1) (a+1)).isSome=true:=by
 unfold alg at h;split at h
 . rename_i bp;refine ⟨bp.2.2,?_⟩
   cases e:ala ky (d+1) (a+1) with
   |none=>grind
   |some b=>rfl
 grind
mutual
theorem apj: ∀(t:ak1) (d a:Int),(alg t d a).isSome=true->tk kN aw rop ao t=true-> ∀x∈tl t,alH (eZ rop) x=alH rop x
 | .n c v e f s u p r,d,a,o,g,x,b=>by
   unfold tk at g;rw [br] at g;obtain ⟨i,j⟩:=g;obtain ⟨h,q⟩:=arE o;have m:c=5->alX rop e f:=λl=>by
    subst l;rw [if_neg al,if_pos rfl,amI,br] at j
    grind
   unfold tl at b;rcases b2.1 b with rfl|b
   . by_cases k:c=5
     . show (c==5&& !j0 (eZ rop) e f)=(c==5&& !j0 rop e f);rw [anX aie (m k)]
     . show (c==5&& !j0 (eZ rop) e f)=(c==5&& !j0 rop e f)
       grind
   . rcases cr.1 b with b|b
     . exact apk p _ _ q i x b
     . rw [apX h _ x b,apX h _ x b]
theorem apk: ∀(l:List ak1) (d a:Int),(ala l d a).isSome=true->alZ kN aw rop ao l=true-> ∀x∈py l,alH (eZ rop) x=alH rop x
 | [],_,_,_,_,x,b=>by simp [py] at b
 | f ::l,d,a,e,c,x,b=>by
   unfold alZ at c;rw [br] at c;unfold ala at e;unfold py at b
   cases h:alg f d a with
   |none=>grind
   | some g=>
     rw [h] at e;rcases cr.1 b with b|b
     . exact apj f d a ah c.1 x b
     . exact apk l d g e c.2 x b
end
theorem api {t:ak1} (b:aln t=true) (a:tk kN aw rop ao t=true):alQ (eZ rop) t=alQ rop t:=by
 have:=apj aie ak2 hN t 1 0 b a;unfold alQ
 grind
theorem apV {t:ak1} (f:alU kN aw rop ao t):alU kN aw (eZ rop) (ao.map ct) t:=by obtain ⟨⟨⟨a,b⟩,c,d⟩,e⟩:=f;exact ⟨⟨⟨a,(amx aie ak2 hN t b).1⟩,by rw [api aie ak2 hN a b];exact c,d⟩,e⟩
theorem ank {t:ak1} (a:tk kN aw rop ao t=true) {q:List aa} (g:ak4 kN aw (ak3 kN rop ao t) q=true):ak4 kN aw (ak3 kN (eZ rop) (ao.map ct) t) q=true:=by rw [(amx aie ak2 hN t a).2];exact g
theorem aqy {t d:ak1} {l:List ak1} (e:alP kN aw rop ao t d l):alP kN aw (eZ rop) (ao.map ct) t d l:=by
 obtain ⟨r,x,k,m,v,w,s,u⟩:=t;obtain ⟨⟨f,g⟩,h,n,c,i,j,o,p⟩:=e;have q:=λa b=>amx aie ak2 hN a (h a b);refine ⟨⟨f,by rw [anm ak2];exact g⟩,ah,λa b=> ?_,λa b=>apV aie ak2 hN (c a b),i,j,ah,?_⟩
 . rw [api aie ak2 hN (c a b).1.1.1 (c a b).1.1.2];grind
 . rw [(apS ak2 k m).2]
   grind
end
def aoi {α:Type} {N:List aa->α} {p:List aa->Bool}: ∀ {A B:Y},A.map N=B.map N->(∀a∈A,∀b∈B,N a=N b->p a=p b)->(A.find? p).map N=(B.find? p).map N
 | [],[],_,_=>rfl
 | [],_::_,c,_=>by cases c
 |_::_,[],c,_=>by cases c
 | a::A,b::B,c,d=>by
   simp only [fS,jn] at c;have e:=d a (dF ..) b (dF ..) c.1;have f:=aoi (p:=p) c.2 ah
   grind
def iz.nm {r:List aa} (c:iz r) (l m:Nat): ∃a b t,r= .str a b::t:=by
 obtain ⟨i,j,d,g,h,rfl,⟨e,f,rfl,-⟩,-⟩:=c;simp
theorem aoc {a b:List aa} (c:iz a) (d:iz b) (e:ak8 a=ak8 b) (l m:Nat):eV l m a=eV l m b:=by obtain ⟨f,h,j,rfl⟩:=c.nm l m;obtain ⟨g,i,k,rfl⟩:=d.nm l m;have:aa.str f h= .str g i:=congrArg (·.1) e;cases this;rfl
def ao1 {a b:List aa} (e:ak8 a=ak8 b):kt a 1=kt b 1:=by
 have:M a 1=M b 1:=congrArg (·.2.1) e;unfold kt
 grind
def aqn {p c ro rm:Y} (o:ro.map ak8=p.map ak8) (q:rm.map ak8=c.map ak8) (i: ∀r∈ro,iz r) (k: ∀r∈p,iz r) (j: ∀r∈rm,iz r) (n: ∀r∈c,iz r) (l m:Nat):ak5 ro rm l m=ak5 p c l m:=by
 have a:=aoi (p:=eV l m) o λd g e h f=>aoc (i d g) (k e h) f l m;have b:=aoi (p:=eV l m) q λd g e h f=>aoc (j d g) (n e h) f l m;unfold ak5;cases s:ro.find? (eV l m)<;>cases t:p.find? (eV l m)<;>rw [s,t] at a
 . cases u:rm.find? (eV l m)<;>cases v:c.find? (eV l m)<;>rw [u,v] at b
   . cases b
   . cases b
   . simp only [jV,N] at b;simp only [ao1 b]
 . cases a
 . cases a
 . simp only [jV,N] at a;simp only [ao1 a]
def amu {a b:List aa} {i:Nat} (c:M a i=M b i):kt a i=kt b i:=by unfold kt;rw [c]
def amk {α:Type} {N:List aa->α} {A B:Y} (c:A.map N=B.map N) {a:List aa} (d:a∈A): ∃b∈B,N a=N b:=by
 obtain ⟨h,e⟩:=jo d;obtain ⟨b,g,f⟩:=alD c e
 grind
def am9 {α:Type} {N:List aa->α} {A B:Y} (c:A.map N=B.map N) {P:α->Prop} (f: ∀b∈B,P (N b)): ∀a∈A,P (N a):=λa d=>by
 obtain ⟨b,g,e⟩:=amk c d
 grind
def lG.aH {x:List aa} (e:lG x): ∃a b c d t,x= .str a b:: .str c d::t:=by
 obtain ⟨l,m,f,k,a,b,rfl,⟨g,i,rfl,-⟩,⟨h,j,rfl,-⟩,-⟩:=e;simp
theorem ar3 {x a y b:List aa} (A:lG x) (B:lG a) (C:lG y) (D:lG b) (c:alc a=alc x) (d:alc b=alc y):Es b a=Es y x:=by obtain ⟨e,i,m,q,E,rfl⟩:=A.aH;obtain ⟨f,j,n,r,F,rfl⟩:=B.aH;obtain ⟨g,k,o,s,G,rfl⟩:=C.aH;obtain ⟨h,l,p,t,H,rfl⟩:=D.aH;have u:aa.str f j= .str e i:=congrArg (·.1) c;have v:aa.str n r= .str m q:=congrArg (·.2.1) c;have w:aa.str h l= .str g k:=congrArg (·.1) d;have z:aa.str p t= .str o s:=congrArg (·.2.1) d;cases u;cases v;cases w;cases z;rfl
theorem ar2 {y a:List aa} (h:lG y) (i:lG a) (g:alc a=alc y) (l m:Nat):KL l m a=KL l m y:=by obtain ⟨j,n,b,d,p,rfl⟩:=h.aH;obtain ⟨k,o,c,e,q,rfl⟩:=i.aH;have f:aa.str c e= .str b d:=congrArg (·.2.1) g;cases f;rfl
def lI.pa {r:List aa} (d:lI r): ∀x∈f (M r 1),lG x:=by
 obtain ⟨h,i,g,k,c,a,b,rfl,-,⟨j,e,l,-⟩,-⟩:=d;rw [show f (M [h,i,g,k,c,a,b] 1)=j from bm e];omega
def apZ {r b:List aa} (e:ald b=ald r):(Ly b).map ah2=(Ly r).map ah2/\(Lz b++f (M b 2)++Lx b).map ah2=(Lz r++f (M r 2)++Lx r).map ah2:=by
 have g:(f (M b 1)).map alc=(f (M r 1)).map alc:=congrArg (·.2.1) e;have d:(f (M b 2)).map ah2=(f (M r 2)).map ah2:=congrArg (·.2.2.1) e;have h:(f (M b 3)).map (λc=>(cC c).map ah2)=(f (M r 3)).map (λc=>(cC c).map ah2):=congrArg (·.2.2.2.1) e;have i: ∀a:List aa,(Ly a).map ah2=((f (M a 1)).map alc).map (·.2.2.1):=λa=>by unfold Ly;rw [tB,tB];rfl
 have j: ∀a:List aa,(Lz a).map ah2=(((f (M a 1)).map alc).map (·.2.2.2.1)).flatten:=λa=>by unfold Lz;rw [anG,tB,tB];rfl
 have hF: ∀a:List aa,(Lx a).map ah2=((f (M a 3)).map (λc=>(cC c).map ah2)).flatten:=λa=>by unfold Lx;rw [anG,tB];rfl
 grind
section
variable {kN aw rop ao:Y} (aie: ∀r∈rop,c6 r) (ak2: ∀r∈ao,c6 r) (hN: ∀l m,GA rop ao l m=true->alX rop l m)
include aie ak2 hN
theorem ar4 {p e ro rm:Y} (D: ∀l m,ak5 ro rm l m=ak5 p e l m) {x b:List aa} (E:lG x) (F:lG b) (d:alc b=alc x) {f g:Y} (B: ∀y∈f,lG y) (C: ∀y∈g,lG y) (t:g.map alc=f.map alc)
  (u:alJ kN aw rop ao p e x f):alJ kN aw (eZ rop) (ao.map ct) ro rm b g:=by
 have q:kt b 0=kt x 0:=amu (congrArg (·.1) d);have r:kt b 1=kt x 1:=amu (congrArg (·.2.1) d);have o:ah2 (dd b)=ah2 (dd x):=congrArg (·.2.2.1) d;have i:(cu b).map ah2=(cu x).map ah2:=congrArg (·.2.2.2.1) d;obtain ⟨v,w,I,⟨j,z⟩,A,J⟩:=u;unfold alJ;rw [q,r,D,o];have k: ∀c∈cu b,tk kN aw rop ao (ah2 c)=true:=am9 i (P:=λh=>tk kN aw rop ao h=true) A;refine ⟨v,w,λy n=> ?_,⟨apV aie ak2 hN j,by rw [alr i];exact z⟩,λc a=>(amx aie ak2 hN _ (k c a)).1,λc a=> ?_⟩
 . obtain ⟨H,G,s⟩:=amk t n;rw [ar3 E F (B H G) (C y n) d s]
   grind
 . rcases cr.1 a with a|a
   . rw [bs.1 a,o];exact ank aie ak2 hN j.1.1.2 ah
   . have:=am9 i (P:=λh=>ak4 kN aw (ak3 kN rop ao h) [.str (ak5 p e (kt x 0).1 (kt x 0).2).1.1 (ak5 p e (kt x 0).1 (kt x 0).2).1.2]=true) ah c a;exact ank aie ak2 hN (k c a) this
theorem asb {p w ro rm:Y} (ad: ∀l m,ak5 ro rm l m=ak5 p w l m) (D:rm.map ak8=w.map ak8) {v:Nat×Nat} {r b:List aa} (s:lI r) (t:lI b) (e:ald b=ald r) {A:Y}
  (S:alL kN aw rop ao p w v r A):alL kN aw (eZ rop) (ao.map ct) ro rm v b A:=by
 have H:M b 0=M r 0:=congrArg (·.1) e;have B:(f (M b 1)).map alc=(f (M r 1)).map alc:=congrArg (·.2.1) e;have O:(f (M b 2)).map ah2=(f (M r 2)).map ah2:=congrArg (·.2.2.1) e;have C:(f (M b 3)).map (λa=>(cC a).map ah2)=(f (M r 3)).map (λa=>(cC a).map ah2):=congrArg (·.2.2.2.1) e;have L:f (M b 4)=f (M r 4):=congrArg (·.2.2.2.2.1) e;obtain ⟨I,J⟩:=apZ e;obtain ⟨⟨T,aA⟩,U,V,W,X,⟨aB,Z,ab,az⟩⟩:=S;unfold alL;have ay: ∀y z:Y,(y++z).map ah2=y.map ah2++z.map ah2:=ai;have K:(pf b).map ah2=(pf r).map ah2:=by unfold pf;grind
 rw [H,K,I,J];refine ⟨⟨T,λaE=>de⟩,λaq j h=> ?_,V,W,?_,?_,?_,?_,?_⟩
 . obtain ⟨i,g,o⟩:=alD B h;exact ar4 aie ak2 hN ad (s.pa i ah) (t.pa j ah) o (λx al=>s.pa x ah) (λx al=>t.pa x ah) de (U aq i g)
 . intro c u;have:=am9 O (P:=λc=>tk kN aw rop ao c=true/\ak4 kN aw (ak3 kN rop ao c) [.str 4 1819242306]=true) X c u;exact ⟨(amx aie ak2 hN _ this.1).1,ank aie ak2 hN this.1 this.2⟩
 . have aD:=alr D;refine am9 (N:=λa=>(cC a).map ah2) C (P:=λau=>v≠(0,0)/\au.length=rm.length) (λa d=> ?_)|>λF a d=>by have:=F a d;rw [di] at this;exact this
   grind
 . intro R ae;obtain ⟨a,d,k⟩:=amk (N:=λa=>(cC a).map ah2) C ae;have k:(cC R).map ah2=(cC a).map ah2:=k;intro an aC c ar u af;obtain ⟨ax,ak,Q⟩:=alD k u;obtain ⟨E,ag,n⟩:=alD D af;have q:=Z a d an ah ax E ak ag;have n:M ar 1=M E 1:=congrArg (·.2.1) n;rw [Q,n];exact ⟨(amx aie ak2 hN _ q.1).1,ank aie ak2 hN q.1 q.2⟩
 . rw [L];intro av aj;obtain ⟨i,g,o⟩:=kB.1 (ab av aj);obtain ⟨j,h,G⟩:=amk B.symm g;refine kB.2 ⟨j,h,?_⟩;rw [ar2 (s.pa i g) (t.pa j h) G.symm];exact o
 grind
theorem aqp {r a:List aa} (e:ak8 a=ak8 r) (f:amt kN aw rop ao r):amt kN aw (eZ rop) (ao.map ct) a:=by have b:M a 1=M r 1:=congrArg (·.2.1) e;have i:ah2 (dQ a)=ah2 (dQ r):=congrArg (·.2.2.1) e;obtain ⟨g,c,h,d⟩:=f;unfold amt;rw [amu b,b];simp only [fS,rG] at d|-;rw [i];exact ⟨g,(amx aie ak2 hN _ c).1,ank aie ak2 hN c h,d⟩
end
def apf {eq:aa->Bool} (k v:aa): ∀ {ks vs:List aa} (i:Nat),ks.length=vs.length->c2 eq (ks++ [k]) (vs++ [v]) i=(c2 eq ks vs i).or (if eq k then some (i+ks.length,v) else none)
 | [],[],i,_=>by simp only [a6,c2,h5,Nat.add_zero,anJ]
 | a ::ks,c::vs,i,b=>by
   simp only [bl,c2]
   cases eq a with
   |true=>simp
   | false=>
     have:=apf (eq:=eq) k v (ks:=ks) (vs:=vs) (i+1) ah
     grind
def anq (g:Nat->Nat->Nat×Nat) (s:mf):Prop:=s.1.length=s.2.1.length/\(∀a b d c,c2 (cU a b) s.1 s.2.1 0=some (d,c)->c= .str (g a b).1 (g a b).2)/\s.2.2=(0,0)
def alS (g:Nat->Nat->Nat×Nat) (t:ak1):Prop:=match t with
 | .n a _ b d c e _ _=>a=6->g b d=(c,e)
def asq {g :Nat->Nat->Nat×Nat} {s:mf} (q:anq g s): ∀ {t:ak1},alS g t->anq g (alx t s)
 | .n x I a b z C G H,w=>by
   obtain ⟨ks,h,D,E⟩:=s;obtain ⟨c,d,e⟩:=q;simp only at c d e;simp only [alx];split
   . rename_i k;have k:x=6:=ah;have u:g a b=(z,C):=w k
     cases f:c2 (cU a b) ks h 0 with
     | none=>
       have i:DS ks h a b=none:=by unfold DS;rw [f]
       simp only [i];unfold h3 h4;simp only [f];refine ⟨ah,λy B l o j=> ?_,e⟩;rw [apf _ _ 0 c] at j
       cases v:c2 (cU y B) ks h 0 with
       | some m=>
         grind
       | none=>
         rw [v,anJ] at j;split at j
         . rename_i r;simp only [cU,br,beq_iff_eq] at r
           grind
         grind
     | some m=>
       obtain ⟨l,o⟩:=m;have p:=d a b l o f;subst p;have i:DS ks h a b=some (g a b):=by unfold DS;rw [f]
       simp only [i,u];simp only [beq_self_eq_true,tu,alI,yH];exact ⟨c,d,e⟩
   . exact ⟨c,d,e⟩
def ap8 (g:Nat->Nat->Nat×Nat) {l:List ak1} (c: ∀t∈py l,alS g t):alY l:=by
 have h: ∀(a:List ak1) (b:mf),anq g b->(∀t∈a,alS g t)->anq g (ak6 alx a b):=λa=>by
  induction a with
  |nil=>simp
  |cons t a f=>intro b d c;exact f _ (asq d ah) ah
 exact (h _ _ ⟨rfl,λl j i k e=>(by cases e),rfl⟩ c).2.2
def aqq {be:Y} {x:List aa}: ∀(L:Y) (a:Y),x∈a-> ∀y,x∈L.foldl (nz y) a:=λL=>by
 induction L with
 |nil=>simp
 | cons d L b=>
   intro a c y;rw [amL];refine b _ ?_ y;unfold nz
   grind
def ao2 (be:Y) (a b:Nat): ∀j,[aa.str a b]∈fp be a b j
 |0=>by simp [fp]
 | j+1=>by
   have c:=ao2 be a b j;simp only [fp];split
   . exact aqq (be:=be) be _ c _
   omega
def aoW {kN:Y} (aw:Y) {a b:Nat} (c:my kN a b=true):ja kN aw a b a b=true:=by
 unfold ja mj;rw [if_pos c,mL];exact .inr (kB.2 ⟨_,ao2 aw a b _,by rw [ajc];simp⟩)
def aoV (kN:Y) {a b:Nat} (c:eD.any (isStr a b)=true):my kN a b=true:=by
 unfold my
 grind
def alq (l m a b:Nat):ak1:= .n 6 0 l m a b [] []
def aiA (l m:Nat) (ks:List ak1):ak1:= .n 5 0 l m 0 0 ks []
def aiK (ks:List ak1):ak1:= .n 7 0 0 0 0 0 ks [alq 1 75 4 1953720652]
def amP:T 0 0:=by unfold T;decide
def aoO {l m a b:Nat} (f:T l m) (g:T a b) (d:l<4611686018427387904) (e:a<4611686018427387904):aN (cn l m a b)/\ah2 (cn l m a b)=alq l m a b:=by
 have c:kX (cn l m a b) 6 0 l m a b .V .V [] []:=⟨rfl,f,g,d,e,.inl ⟨rfl,rfl⟩,.inl ⟨rfl,rfl⟩,al,al⟩;exact ⟨.mk c ai ai,ah9 c ai ai⟩
def asp {l m:Nat} {y:aa} {rows:Y} (f:T l m) (e:l<4611686018427387904) (d:F y rows) (b: ∀r∈rows,aN r) (c:rows.length<4611686018427387904):aN (cm l m y)/\ah2 (cm l m y)=aiA l m (rows.map ah2):=by
 have a:kX (cm l m y) 5 0 l m 0 0 y .V rows []:=⟨rfl,f,amP,e,al,d,.inl ⟨rfl,rfl⟩,c,al⟩;exact ⟨.mk a b ai,ah9 a b ai⟩
def am4:T 1 75/\T 1 86/\T 4 1953720652:=by unfold T;decide
theorem ap7 {y:aa} {rows:Y} (f:F y rows) (b: ∀r∈rows,aN r) (e:rows.length<4611686018427387904):aN (eX y cM)/\ah2 (eX y cM)=aiK (rows.map ah2):=by have d:=aoO am4.1 am4.2.2 al al;have c: ∀r∈ [cn 1 75 4 1953720652],aN r:=ah;have a:kX (eX y cM) 7 0 0 0 0 0 y cM rows [cn 1 75 4 1953720652]:=⟨rfl,amP,amP,al,al,f,.inr ⟨_,rfl⟩,e,al⟩;refine ⟨.mk a b c,?_⟩;rw [ah9 a b c,al2,d.2];rfl
def alB (kN:Y) (x:ak1) (q:List aa):Prop:= ∃c d a b,x=alq c d a b/\q= [.str a b]/\isName c d=true/\isName a b=true/\my kN a b=true
def alO (kN:Y) (ks:List ak1) (A:Y):Prop:=ks.length=A.length/\ ∀(a:Nat) c b,ks[a]? =some c->A[a]? =some b->alB kN c b
section
variable {kN:Y} {ks:List ak1} {A:Y}
theorem alO.mem (a:alO kN ks A) {x:ak1} (e:x∈ks): ∃q,alB kN x q:=by obtain ⟨c,b⟩:=jo e;have d:=(e6.1 b).1;exact ⟨A[c]'(by rw [<-a.1];exact d),a.2 c x _ b ai⟩
theorem alO.erase (c:alO kN ks A) (j:Nat):alO kN (ks.eraseIdx j) (A.eraseIdx j):=by
 refine ⟨by rw [List.length_eraseIdx,List.length_eraseIdx,c.1],λe g f b a=> ?_⟩;rw [List.getElem?_eraseIdx] at b a;split at b
 . rename_i d;rw [if_pos d] at a;exact c.2 e g f b a
 . rename_i d;rw [if_neg d] at a;exact c.2 (e+1) g f b a
theorem alO.set (b:alO kN ks A) {j:Nat} {y:ak1} (f: ∀q,A[j]? =some q->alB kN y q):alO kN (ks.set j y) A:=by
 refine ⟨by rw [aiY];exact b.1,λd e q a c=> ?_⟩;rw [List.getElem?_set] at a;split at a
 . grind
 . exact b.2 d e q a c
theorem alB.tl {x:ak1} {q:List aa} (a:alB kN x q):tl x= [x]:=by obtain ⟨d,e,b,c,rfl,-⟩:=a;simp [alq,Go.aj.tl,py]
theorem apR: ∀ {ks:List ak1},(∀x∈ks,∃q,alB kN x q)->py ks=ks
 | [],_=>rfl
 |x::ks,a=>by obtain ⟨q,b⟩:=a x (dF ..);unfold py;rw [b.tl,apR ah];rfl
theorem alO.py (a:alO kN ks A):py ks=ks:=apR λc b=>a.mem b
theorem aoH (a:alO kN ks A) (l m:Nat):tl (aiA l m ks)=aiA l m ks::ks:=by unfold aiA Go.aj.tl;rw [a.py];simp [Go.aj.py]
theorem apn {l m:Nat} (a:isName l m=true): ¬(l=1/\m=95)/\ ¬(l=1/\m=36):=by constructor<;>rintro ⟨rfl,rfl⟩<;>exact absurd a al
theorem aoE {x:ak1} {q:List aa} (g:alB kN x q) {d a:Int} (i:d<=60) (h:a+1<=2000):alg x d a=some (a+1):=by
 obtain ⟨e,f,b,c,rfl,-,k,l,-⟩:=g;have j:alw (alq e f b c)=true:=by
  show amm 0 e f b c 0 0=true;unfold amm
  grind
 unfold alq alg;rw [if_pos ⟨i,h,j⟩];simp [ala]
theorem apK: ∀ {ks:List ak1},(∀x∈ks,∃q,alB kN x q)-> ∀ {d a:Int},d<=60->a+ks.length<=2000->ala ks d a=some (a+ks.length)
 | [],_,d,a,_,_=>by simp [ala]
 | x::ks,c,d,a,b,e=>by
   obtain ⟨q,f⟩:=c x (dF ..);simp only [cl] at e;unfold ala;rw [aoE f b ab,nT,apK ah b ab]
   grind
theorem arC (b: ∀x∈ks,∃q,alB kN x q) (f:ks.length<=8) {l m:Nat} (c:ajb l m=true) {d a:Int} (h:d<=59) (g:a+10<=2000):alg (aiA l m ks) d a=some (a+1+ks.length):=by
 have e:alw (aiA l m ks)=true:=by show ((0:Int)==0&&ah3 5 0 l m 0 0 ks.length)=true;have:ah3 5 0 l m 0 0 ks.length=(ajb l m&&decide ((ks.length:Int)<=8)&&(0:Int)==0&&ra 0 0):=rfl;rw [this,c];simp [ra];omega
 unfold aiA alg;rw [if_pos ⟨ab,ab,e⟩,apK b ab ab];simp
theorem asw {l:List ak1} {n:Int} (b:ala l 2 1=some n) (c:n<=1999):aln (aiK l)=true:=by
 have a:alw (aiK l)=true:=by show (alK 4 1953720652 [alq 1 75 4 1953720652]&&((0:Int)==0&&ra 0 0&&ra 0 0))=true;decide+kernel
 unfold aln aiK alg;rw [if_pos ⟨al,al,a⟩]
 grind
variable (aw:Y) (R F:Y)
theorem aoh {x:ak1} {q:List aa} (a:alB kN x q):tk kN aw R F x=true:=by obtain ⟨e,f,c,d,rfl,-,-,-,b⟩:=a;unfold alq tk;rw [if_pos rfl,b];rfl
theorem asl {x:ak1} {q:List aa} (d:alB kN x q):ak4 kN aw (ak3 kN R F x) q=true:=by
 obtain ⟨f,g,a,b,rfl,rfl,-,-,e⟩:=d;have c:ak3 kN R F (alq f g a b)=(a,b):=by
  show (if my kN a b then (a,b) else (0,0))=(a,b)
  grind
 rw [c];show (ja kN aw a b a b||ja kN aw a b a b)=true;rw [aoW aw e];rfl
theorem aqB (a:alO kN ks A) {l m:Nat} (h:GA R F l m=true) (g:f (M (mr R F l m) 1)=A):tk kN aw R F (aiA l m ks)=true:=by
 have j: ∀c∈ks,tk kN aw R F c=true:=λc o=>by obtain ⟨q,n⟩:=a.mem o;exact aoh aw R F n
 unfold aiA tk;rw [anw,ba.2 j,aiF,if_neg al,if_pos rfl,amI,h,g,a.1];simp only [beq_self_eq_true,aiF];rw [ba];intro b k;obtain ⟨p,i⟩:=jo k;obtain ⟨d,e⟩:=ahO.1 i;exact asl aw R F (a.2 p b.1 b.2 d e)
theorem apa {l:List ak1} (a: ∀x∈l,tk kN aw R F x=true):tk kN aw R F (aiK l)=true:=by unfold aiK tk;rw [anw,ba.2 a,aiF,if_neg al,if_neg al]
end
def alv (x:ak1):ak1:=aiA 7 28558080999846761 [x]
def amM (x:ak1):ak1:=aiA 3 7630702 [x]
def amW:ak1:=alq 1 75 4 1953720652
structure amF (R F:Y) (l m:Nat) (A:Y):Prop where
  c:GA R F l m=true
  a:f (M (mr R F l m) 1)=A
  o:j0 R l m=true
  n:ajb l m=true
structure amD (R F:Y):Prop where
  i:j0 R 7 28558080999846761=false
  j:j0 F 7 28558080999846761=false
  n:j0 R 3 7630702=false
  o:j0 F 3 7630702=false
def ao0 {R F:Y} {l m:Nat} (c:uT l m=true) (a:j0 R l m=false) (b:j0 F l m=false):GA R F l m=true/\mr R F l m= [.str l m,.A (q5 l m) true,.str (pd l m).1 (pd l m).2,.V,.int .i64 0,.int .i64 0,.V]:=by
 unfold GA mr sF
 grind
def ap3 {kN R F:Y} {l m a b:Nat} {ks:List ak1} {x y:aa} {z:List aa} (c:mr R F l m=x::y:: .str a b::z):ak3 kN R F (aiA l m ks)=(a,b):=by
 show zU kN R F 5 l m 0 0=(a,b);unfold zU
 grind
theorem aqg {R F:Y} (a:amD R F):GA R F 7 28558080999846761=true/\f (M (mr R F 7 28558080999846761) 1)= [[.str 3 7958081]]/\ ∀(kN:Y) (ks:List ak1),ak3 kN R F (aiA 7 28558080999846761 ks)=(4,1819242306):=by obtain ⟨c,b⟩:=ao0 (by decide+kernel) a.i a.j;refine ⟨c,?_,λkN ks=>ap3 (kN:=kN) (ks:=ks) b⟩;rw [b];rfl
theorem aqh {R F:Y} (a:amD R F):GA R F 3 7630702=true/\f (M (mr R F 3 7630702) 1)= [[.str 4 1819242306]]/\ ∀(kN:Y) (ks:List ak1),ak3 kN R F (aiA 3 7630702 ks)=(4,1819242306):=by obtain ⟨c,b⟩:=ao0 (by decide+kernel) a.n a.o;refine ⟨c,?_,λkN ks=>ap3 (kN:=kN) (ks:=ks) b⟩;rw [b];rfl
def apI {ks:List ak1} (h:ks.length<=8) {l m:Nat} (f:ajb l m=true) {d a n:Int} (c:d<=60) (b:a+1<=2000) (e:ala ks (d+1) (a+1)=some n):alg (aiA l m ks) d a=some n:=by
 have g:alw (aiA l m ks)=true:=by show ((0:Int)==0&&ah3 5 0 l m 0 0 ks.length)=true;have:ah3 5 0 l m 0 0 ks.length=(ajb l m&&decide ((ks.length:Int)<=8)&&(0:Int)==0&&ra 0 0):=rfl;rw [this,f];simp [ra];omega
 unfold aiA alg;rw [if_pos ⟨c,b,g⟩,e];simp
def ao7 {kN a R F:Y} {x:ak1} (e:tk kN a R F x=true) {l m:Nat} {q:List aa} (c:GA R F l m=true) (b:f (M (mr R F l m) 1)= [q]) (d:ak4 kN a (ak3 kN R F x) q=true):tk kN a R F (aiA l m [x])=true:=by
 unfold aiA tk;rw [anw,if_neg al,if_pos rfl,amI,c,b]
 simp_all
def arF (kN a:Y) (s:Nat×Nat):ak4 kN a s [.str 3 7958081]=true:=by
 simp [ak4,ja]
theorem apL (kN c:Y) {a b:Nat} (d:my kN a b=true):ak4 kN c (a,b) [.str a b]=true:=by show (ja kN c a b a b||ja kN c a b a b)=true;rw [aoW c d];rfl
def aoF (kN a:Y):ak4 kN a (4,1819242306) [.str 4 1819242306]=true:=apL kN a (aoV kN al)
section
variable {kN R F:Y} {ale:List ak1}
def amo (kN R F:Y) (ale:List ak1) (e:ak1):Prop:=e∈ale\/ ∃c d a b,e=aiA c d a/\amF R F c d b/\alO kN a b/\(∀f∈a,f∈ale)/\a.length<=8
def am7 (ale:List ak1) (c:ak1):Prop:= ∃a∈ale,c=alv a\/c=amM (alv a)
variable (alf: ∀x∈ale,∃q,alB kN x q)
include alf
theorem arD {e:ak1} (b:amo kN R F ale e) {a:Int} (k:a<=1000): ∃n,alg e 2 a=some n/\n<=a+9:=by
 rcases b with b|⟨m,o,l,j,rfl,g,-,f,d⟩
 . obtain ⟨p,h⟩:=alf e b;exact ⟨_,aoE h al ab,ab⟩
 . exact ⟨_,arC (λc i=>alf c (f c i)) d g.n al ab,ab⟩
theorem apJ: ∀ {l:List ak1},(∀e∈l,amo kN R F ale e)-> ∀ {a:Int},a+9*l.length<=1000-> ∃n,ala l 2 a=some n/\n<=a+9*l.length
 | [],_,a,_=>⟨a,by simp [ala],ai⟩
 | e::l,b,a,c=>by
   simp only [cl] at c;obtain ⟨n,h,i⟩:=arD alf (b e (dF ..)) (a:=a) ab;obtain ⟨f,j,k⟩:=apJ (λg d=>b g (h8 _ d)) (a:=n) ab;refine ⟨f,?_,ah⟩;unfold ala
   grind
theorem ap9 {l:List ak1} (b: ∀e∈l,amo kN R F ale e) (d:l.length<=2):aln (aiK l)=true:=by obtain ⟨g,c,f⟩:=apJ alf b (a:=1) ab;exact asw c ab
theorem asv {c:ak1} (d:am7 ale c):aln c=true:=by
 obtain ⟨e,h,d⟩:=d;obtain ⟨k,g⟩:=alf e h;have f: ∀(b a:Int),b<=10->a<=10->alg (alv e) b a=some (a+1+1):=λb a j i=>by refine apI ai (by decide+kernel) ab ab ?_;unfold ala;rw [aoE g ab ab,nT];simp [ala]
 unfold aln;rcases d with rfl|rfl
 . grind
 . have:alg (amM (alv e)) 1 0=some (1+1+1):=by refine apI ai (by decide+kernel) al al ?_;unfold ala;rw [f (1+1) (0+1) al al,nT];simp [ala]
   grind
theorem ao9 (d:Y) {e:ak1} (b:amo kN R F ale e):tk kN d R F e=true:=by
 rcases b with b|⟨k,l,j,i,rfl,f,g,-⟩
 . obtain ⟨m,h⟩:=alf e b;exact aoh d R F h
 . exact aqB d R F g f.c f.a
theorem ao8 (a:Y) (e:amD R F) {c:ak1} (b:am7 ale c):tk kN a R F c=true/\ak4 kN a (ak3 kN R F c) [.str 4 1819242306]=true:=by
 obtain ⟨g,i,b⟩:=b;obtain ⟨o,h⟩:=alf g i;obtain ⟨j,k,f⟩:=aqg e;obtain ⟨l,m,n⟩:=aqh e;have d:tk kN a R F (alv g)=true:=ao7 (aoh a R F h) j k (arF ..);rcases b with rfl|rfl
 . exact ⟨d,by unfold alv;rw [f];exact aoF ..⟩
 . refine ⟨ao7 d l m (by unfold alv;rw [f];exact aoF ..),by unfold amM;rw [n];exact aoF ..⟩
theorem arM {e x:ak1} (b:amo kN R F ale e) (a:x∈tl e):x∈ale\/ ∃l m ks,x=aiA l m ks/\j0 R l m=true:=by
 rcases b with b|⟨l,m,ks,g,rfl,d,c,h,-⟩
 . obtain ⟨i,f⟩:=alf e b;rw [f.tl,bs] at a
   grind
 . rw [aoH c] at a;rcases b2.1 a with rfl|a
   . exact .inr ⟨l,m,ks,rfl,d.o⟩
   grind
omit alf in
theorem apQ (l:List ak1):tl (aiK l)=aiK l::(py l++ [amW]):=by unfold aiK Go.aj.tl;simp [py,amW,alq,Go.aj.tl]
theorem anl {l:List ak1} {x:ak1} (b: ∀e∈l,amo kN R F ale e) (a:x∈tl (aiK l)):x=aiK l\/x=amW\/x∈ale\/ ∃l m ks,x=aiA l m ks/\j0 R l m=true:=by
 rw [apQ] at a;rcases b2.1 a with rfl|a
 . simp
 . rcases cr.1 a with a|a
   . obtain ⟨e,c,a⟩:=aoG.1 a;exact .inr (.inr (arM alf (b e c) a))
   grind
theorem apP {c x:ak1} (e:am7 ale c) (f:x∈tl c):x∈ale\/ ∃l m ks,x=aiA l m ks:=by
 obtain ⟨a,i,e⟩:=e;obtain ⟨k,h⟩:=alf a i;have j: ∀b∈tl (alv a),b∈ale\/ ∃l m ks,b=aiA l m ks:=λb g=>by
  have d:tl (alv a)=alv a::a:: []:=by unfold alv aiA Go.aj.tl;simp [py,h.tl]
  rw [d] at g;rcases b2.1 g with rfl|g
  . exact .inr ⟨_,_,_,rfl⟩
  grind
 rcases e with rfl|rfl
 . grind
 . have d:tl (amM (alv a))=amM (alv a)::tl (alv a):=by unfold amM;generalize alv a=b;unfold aiA;rw [Go.aj.tl];simp [py]
   rw [d] at f;rcases b2.1 f with rfl|f
   . exact .inr ⟨_,_,_,rfl⟩
   grind
end
structure aoS (kN jv R F:Y) (g:Nat->Nat->Nat×Nat) (L Q:ak1) (C:List ak1):Prop where
  Ny: ∀t∈L::Q::C,aln t=true
  ao6: ∀t∈L::Q::C,tk kN jv R F t=true
  ar5:alU kN jv R F L
  so: ∀x∈py (L::Q::C),alS g x
  bW:al6 [L] (Q::C)
  aqj: ∀c∈C,ak4 kN jv (ak3 kN R F c) [.str 4 1819242306]=true
  ls: ∀t∈ [L,Q],ak3 kN R F t=(4,1953720652)
theorem apO {kN R F:Y} {ale i p C:List ak1} {g:Nat->Nat->Nat×Nat} (o:Y) (alf: ∀x∈ale,∃q,alB kN x q) (H: ∀x∈ale,alS g x) (E:g 1 75=(4,1953720652)) (y:amD R F)
  (s: ∀e∈i,amo kN R F ale e) (J:i.length<=2) (t: ∀e∈p,amo kN R F ale e) (K:p.length<=2) (r: ∀c∈C,am7 ale c) (O: ∀x∈ale,x∈py i):aoS kN o R F g (aiK i) (aiK p) C:=by
 have B:=ap9 alf s J;have w:tk kN o R F (aiK i)=true:=apa o R F λx f=>ao9 alf o (s x f);have A: ∀x∈py (aiK i::aiK p::C),alS g x:=λx f=>by
  have S: ∀x∈ale,alS g x:=H;have P:alS g amW:=λ_=>E;have M: ∀a d k,alS g (aiA a d k):=λa d k h=>absurd h al;have Q: ∀a,alS g (aiK a):=λa h=>absurd h al;obtain ⟨j,b,f⟩:=aoG.1 f;rcases b2.1 b with rfl|b
  . rcases anl alf s f with rfl|rfl|h|⟨a,d,k,rfl,-⟩
    . grind
    all_goals grind
  . rcases b2.1 b with rfl|b
    . rcases anl alf t f with rfl|rfl|h|⟨a,d,k,rfl,-⟩
      . grind
      all_goals grind
    . rcases apP alf (r j b) f with h|⟨a,d,k,rfl⟩
      all_goals grind
 refine ⟨λj b=> ?_,λj b=> ?_,⟨⟨⟨B,w⟩,?_,?_⟩,λx f=> ?_⟩,A,λv n=> ?_,λc G=>(ao8 alf o y (r c G)).2,λj b=> ?_⟩
 . rcases b2.1 b with rfl|b
   . exact B
   . rcases b2.1 b with rfl|b
     . exact ap9 alf t K
     . exact asv alf (r j b)
 . rcases b2.1 b with rfl|b
   . exact w
   . rcases b2.1 b with rfl|b
     . exact apa o R F λx f=>ao9 alf o (t x f)
     . exact (ao8 alf o y (r j b)).1
 . unfold alQ;rw [CP];intro x f;rcases anl alf s f with rfl|rfl|h|⟨a,d,k,rfl,z⟩
   . simp [aiK,alH]
   . simp [amW,alq,alH]
   . obtain ⟨q,a,d,l,m,rfl,-⟩:=alf x h;simp [alq,alH]
   . simp [aiA,alH,z]
 . exact ap8 g λj b=>A j (by
    rw [show aiK i::aiK p::C= [aiK i]++(aiK p::C) from rfl,am0]
    grind)
 . rcases anl alf s f with rfl|rfl|h|⟨a,d,k,rfl,z⟩
   . simp [aiK,al9]
   . decide
   . obtain ⟨q,a,d,l,m,rfl,-,u,-⟩:=alf x h;have N:(a==1&&d==36)=false:=by rw [aon];intro h;exact (apn u).2 ah
     have e:al9 (alq a d l m)=(!((6:Int)==6&&(a==1&&d==36))&&(!((6:Int)==8)||(List.range 0).all (alR []))):=rfl
     grind
   . simp [aiA,al9]
 . obtain ⟨x,f,n⟩:=fC.1 n;have T: ∀x,x=amW\/x∈ale->v∈ak9 x->(v≠(1,95)/\v≠(1,36))/\v∈(py [aiK i]).flatMap alm:=λx f n=>by
    have I:x∈py [aiK i]:=by
     show x∈tl (aiK i)++ [];rw [fw,apQ]
     grind
    obtain ⟨a,d,l,m,rfl,u⟩: ∃a d l m,x=alq a d l m/\isName a d=true:=by
     rcases f with rfl|f
     . exact ⟨1,75,_,_,rfl,al⟩
     . obtain ⟨q,a,d,l,m,rfl,-,u,-⟩:=alf x f
       grind
    obtain ⟨U,V⟩:=apn u;have D:ak9 (alq a d l m)= [(a,d)]:=rfl;rw [D,bs] at n;subst n;refine ⟨ah,fC.2 ⟨_,I,?_⟩⟩;have L:alm (alq a d l m)=if ((6:Int)==6&& !(a==1&&d==95))=true then [(a,d)] else []:=rfl
    grind
   obtain ⟨j,b,f⟩:=aoG.1 f;rcases b2.1 b with rfl|b
   . rcases anl alf t f with rfl|rfl|h|⟨a,d,k,rfl,-⟩
     . exact absurd n (by simp [aiK,ak9])
     . grind
     . grind
     . exact absurd n (by simp [aiA,ak9])
   . rcases apP alf (r j b) f with h|⟨a,d,k,rfl⟩
     . grind
     . exact absurd n (by simp [aiA,ak9])
 . simp only [b2,dG,or_false] at b;rcases b with rfl|rfl<;>rfl
def amn (i:Nat):Nat:=88+(48+(i+1))<<<8
def asD {i:Nat} (ag:i<8):isName 2 (amn i)=true:=by
 obtain rfl|rfl|rfl|rfl|rfl|rfl|rfl|rfl:i=0\/i=1\/i=2\/i=3\/i=4\/i=5\/i=6\/i=7:=ab
 all_goals decide
def aqb (i:Nat):amn i=88+(49+i)*256:=by
 unfold amn;omega
def aqc {i:Nat} (ag:i<8):T 2 (amn i):=by
 unfold T;rw [aqb,show (256:Nat)^2=65536 from rfl];omega
def amC (i:Nat) (q:List aa):ak1:=match q with
 | [.str a b]=>alq 2 (amn i) a b
 |_=>alq 2 (amn i) 0 0
def amf (q:List aa):ak1:=match q with
 | [.str a b]=>alq 1 86 a b
 |_=>alq 1 86 0 0
def alk (A:Y):List ak1:=A.mapIdx amC
structure alA (kN A:Y):Prop where
  n:A.length<=8
  s: ∀q∈A,∃a b,q= [.str a b]/\T a b/\a<4611686018427387904/\isName a b=true/\my kN a b=true
def ap1:Option (List aa)->Nat×Nat
 |some [.str a b]=>(a,b)
 |_=>(0,0)
def c (A:Y) (j:Nat) (l m:Nat):Nat×Nat:=if l=2 then ap1 (A[(m-88)/256-49]?) else if m=75 then (4,1953720652) else ap1 (A[j]?)
section
variable {kN A:Y} (ag:alA kN A)
include ag
theorem alA.lt {i:Nat} {q:List aa} (a:A[i]? =some q):i<8:=by have:=(e6.1 a).1;have:=ag.n;omega
theorem alA.am6 {i:Nat} {q:List aa} (e:A[i]? =some q):aN (abM i q)/\ah2 (abM i q)=amC i q/\alB kN (amC i q) q/\ ∀j,alS (c A j) (amC i q):=by
 have d:=ag.lt e;obtain ⟨a,b,rfl,g,h,k,l⟩:=ag.s q ah;obtain ⟨n,m⟩:=aoO (aqc d) g al h;refine ⟨n,m,⟨2,amn i,a,b,rfl,rfl,asD d,k,l⟩,λj _=> ?_⟩;have f:(amn i-88)/256-49=i:=by rw [aqb];omega
 show c A j 2 (amn i)=(a,b);unfold c;rw [if_pos rfl,f,e];rfl
theorem alA.sr {j:Nat} {q:List aa} (d:A[j]? =some q):(∃a b,q= [.str a b]/\ps A j=cn 1 86 a b)/\aN (ps A j)/\ah2 (ps A j)=amf q/\alB kN (amf q) q/\alS (c A j) (amf q):=by
 obtain ⟨a,b,rfl,f,g,h,i⟩:=ag.s q ah;have e:ps A j=cn 1 86 a b:=by unfold ps;rw [d]
 obtain ⟨l,k⟩:=aoO am4.2.1 f al g;rw [e];refine ⟨ah,l,k,⟨1,86,a,b,rfl,rfl,al,h,i⟩,λ_=> ?_⟩;show c A j 1 86=(a,b);unfold c;rw [if_neg al,if_neg al,d];rfl
omit ag in
theorem aoA:(alk A).length=A.length:=List.length_mapIdx
omit ag in
theorem anL {i:Nat} {q:List aa} (kx:A[i]? =some q):(alk A)[i]? =some (amC i q):=by
 unfold alk
 grind
omit ag in
theorem apu {x:ak1} (bj:x∈alk A): ∃i q,A[i]? =some q/\x=amC i q:=by
 obtain ⟨i,a8⟩:=jo bj;unfold alk at a8
 grind
theorem alA.mt:alO kN (alk A) A:=⟨aoA,λc e d b a=>by rw [anL a] at b;cases b;exact (ag.am6 a).2.2.1⟩
theorem alA.vars:(∀r∈cp A,aN r)/\(cp A).map ah2=alk A:=by
 constructor
 . intro r a;unfold cp at a;obtain ⟨b,e,c⟩:=anH.1 a;rw [<-c];exact (ag.am6 ai).1
 . refine CT λb=> ?_;unfold cp alk;rw [hO,yO,yO]
   cases d:A[b]? with
   |none=>rfl
   |some f=>simp only [jV];rw [(ag.am6 d).2.1]
end
def bL.all {rows:Y} {c:Nat}:(∀r∈rows,bL [r] c)->bL rows (rows.length*c):=by
 induction rows with
 |nil=>intro _;exact bL.nil _
 | cons a g f=>
   intro ag;have b:=ag a (dF ..);have d:=f λr e=>ag r (h8 _ e);have:=b.app d
   grind
def aoN {l m a b:Nat} (e:T l m) (f:T a b) (c:l<4611686018427387904) (d:a<4611686018427387904):bL [cn l m a b] 1:=by
 have ag:kX (cn l m a b) 6 0 l m a b .V .V [] []:=⟨rfl,e,f,c,d,.inl ⟨rfl,rfl⟩,.inl ⟨rfl,rfl⟩,al,al⟩;exact bL.node ag (bL.nil 0) (bL.nil 0)
def aso {l m:Nat} {y:aa} {rows:Y} (f:T l m) (e:l<4611686018427387904) (d:F y rows) (b:rows.length<4611686018427387904) {a:Nat} (c:bL rows a):bL [cm l m y] (1+a):=by
 have ag:kX (cm l m y) 5 0 l m 0 0 y .V rows []:=⟨rfl,f,amP,e,al,d,.inl ⟨rfl,rfl⟩,b,al⟩;exact bL.node ag c (bL.nil 0)
def ap6 {y:aa} {rows:Y} (d:F y rows) (b:rows.length<4611686018427387904) {a:Nat} (c:bL rows a):bL [eX y cM] (1+a+1):=by
 have ag:kX (eX y cM) 7 0 0 0 0 0 y cM rows [cn 1 75 4 1953720652]:=⟨rfl,amP,amP,al,al,d,.inr ⟨_,rfl⟩,b,al⟩;exact bL.node ag c (aoN am4.1 am4.2.2 al al)
def amq (c:Nat) (r:List aa) (t:ak1):Prop:=aN r/\ah2 r=t/\bL [r] c
def am2 {l m:Nat} {y:aa} {rows:Y} (d:T l m) (b:l<4611686018427387904) (a:F y rows) {c:Nat} (i: ∀r∈rows,aN r/\bL [r] c) (h:rows.length<=1000) {ks:List ak1} (g:rows.map ah2=ks):amq (1+rows.length*c) (cm l m y) (aiA l m ks):=by
 obtain ⟨e,f⟩:=asp d b a ah ab;exact ⟨e,ah,aso d b a ab (bL.all ah)⟩
def aoe {r:List aa} {t:ak1} (ag:amq 1 r t):amq 2 (fb r) (alv t):=by
 have:=am2 (l:=7) (m:=28558080999846761) (y:= .A [r] true) (rows:= [r]) (c:=1) (by unfold T;decide) al (.inr ⟨_,rfl⟩) (λb a=>by rw [bs.1 a];exact ⟨ag.1,ag.2.2⟩) ai (ks:= [t]) (by rw [al2,ag.2.1]);exact this
def arK {r:List aa} {t:ak1} (ag:amq 1 r t):amq 3 (n2 r) (amM (alv t)):=by
 have a:=aoe ag;have:=am2 (l:=3) (m:=7630702) (y:= .A [fb r] true) (rows:= [fb r]) (c:=2) (by unfold T;decide) al (.inr ⟨_,rfl⟩) (λd b=>by rw [bs.1 b];exact ⟨a.1,a.2.2⟩) ai (ks:= [alv t]) (by rw [al2,a.2.1]);exact this
structure anr (kN jv R F ro rm:Y) (r:List aa):Prop where
  ag6:lI r
  p: ∀fD O1,[M r 0]∉O1->alL kN jv R F ro rm fD r O1
  s:amb r
  v: ∀t∈pf r,aln (ah2 t)=true
  n:kJ r<=64/\ju r<=2
  t:bL (pf r) 70
  nm: ∀q∈alz r,isName (kt q 0).1 (kt q 0).2=true
def aqo {p a:Y} {l m:Nat} (ag:(ak5 p a l m).2.2=true):(ak5 p a l m).2.1=true↔p.any (eV l m)=false:=by
 unfold ak5 at ag|-
 grind
def apN {kN v R zz0 p ro rm:Y} {g:Nat->Nat->Nat×Nat} {e nm:Nat} {c d w:aa} {k l rc:Y} (i1:F c k) (i2:F d l) (i3:F w rc) (ao: ∀r∈k,aN r/\bL [r] 9) (aq: ∀r∈l,aN r/\bL [r] 9) (H: ∀r∈rc,aN r/\bL [r] 3)
    (ax:k.length<=2) (ay:l.length<=2) (az:rc.length<=8) (B:isName e nm=true) (af:T e nm) (i:aoS kN v R zz0 g (aiK (k.map ah2)) (aiK (l.map ah2)) (rc.map ah2)) (u:(ak5 ro rm 1 107).2.2=true/\(ak5 ro rm 1 107).1=(4,1953720652)) (Z:rp p=rp ro):
    anr kN v R zz0 ro rm (j5 p e nm c d w):=by
 have ae:e<4611686018427387904:=by have:=(anR B).2.1;omega
 obtain ⟨J,x⟩:=ap7 i1 ah ab;obtain ⟨ar,y⟩:=ap7 i2 ah ab;have aj:=ap6 i1 ab (bL.all λr h=>(ao r h).2);have ak:=ap6 i2 ab (bL.all λr h=>(aq r h).2);have an:=bL.all λr h=>(H r h).2;have S:wH p c d= [.str 1 107,if rp p then .str 0 0 else .str 1 105]++eX c cM++ [.A [eX d cM] true,.int .i64 0,.int .i64 0]:=rfl;have av:lG (wH p c d):=⟨_,_,_,_,_,_,S,⟨1,107,rfl,by unfold T;decide,al⟩,by
  split
  . exact ⟨0,0,rfl,amP,al⟩
  . exact ⟨1,105,rfl,by unfold T;decide,al⟩,J,⟨_,.inr ⟨_,rfl⟩,ah,ai⟩,⟨_,rfl⟩,⟨_,rfl⟩⟩
 have V:pf (j5 p e nm c d w)= [eX c cM]++([eX d cM]++f w++ []):=rfl;have Q:Ly (j5 p e nm c d w)= [eX c cM]:=rfl;have U:Lz (j5 p e nm c d w)++f (M (j5 p e nm c d w) 2)++Lx (j5 p e nm c d w)= [eX d cM]++f w++ []:=rfl;have t:f w=rc:=bm i3;have z:(pf (j5 p e nm c d w)).map ah2=aiK (k.map ah2)::aiK (l.map ah2)::rc.map ah2:=by grind
 refine ⟨⟨_,_,_,_,_,_,_,rfl,⟨e,nm,rfl,af,ae⟩,⟨[wH p c d],.inr ⟨_,rfl⟩,ah,ai⟩,⟨rc,i3,λr h=>(H r h).1,ab⟩,⟨[],.inl ⟨rfl,rfl⟩,ai,al⟩,⟨[],.inl ⟨rfl,rfl⟩,λ_ ag=>(by cases ag),al⟩,⟨_,rfl⟩,⟨_,rfl⟩⟩,λaw au W=> ?_,?_,λn m=> ?_,?_,?_,λG j=> ?_⟩
 . unfold alL;rw [z,Q,U,t];refine ⟨⟨W,λag=>by cases ag⟩,λE I D=> ?_,ap8 g i.so,?_,λn m=> ?_,?_⟩
   . have D: [wH p c d][E]? =some I:=D;obtain ⟨rfl,rfl⟩:E=0/\I=wH p c d:=by grind
     have K:kt (wH p c d) 0=(1,107):=rfl;have s:kt (wH p c d) 1=if rp p then (0,0) else (1,105):=by
      show (match (if rp p then aa.str 0 0 else aa.str 1 105) with| .str o q=>(o,q)|_=>(0,0))=_
      grind
     have L:dd (wH p c d)=eX c cM:=rfl;have N:cu (wH p c d)= [eX d cM]:=rfl;unfold alJ;rw [K,s,L,N,u.2,aqo u.1];refine ⟨u.1,?_,ai,⟨by rw [x];exact i.ar5,ai⟩,λr h=> ?_,λr h=> ?_⟩
     . rw [Z];unfold rp;simp
     . rw [bs.1 h,y];exact i.ao6 _ ai
     . have h:r=eX c cM\/r=eX d cM:=ah;have C:=apL kN v (a:=4) (b:=1953720652) (aoV kN al);rcases h with rfl|rfl
       . rw [x,i.ls _ ai];exact C
       . rw [y,i.ls _ ai];exact C
   . have O:([eX c cM]:Y).map ah2= [aiK (k.map ah2)]:=ah;have P:([eX d cM]++rc++ []).map ah2=aiK (l.map ah2)::rc.map ah2:=by grind
     rw [O,P];exact i.bW
   . have m:n∈f w:=m;rw [t] at m;have ad:ah2 n∈rc.map ah2:=ah;exact ⟨i.ao6 _ ah,i.aqj _ ad⟩
   . exact ⟨λ_ ag=>(by cases ag),λ_ ag=>(by cases ag),λ_ ag=>(by cases ag),List.nodup_nil⟩
 . refine ⟨by show (1:Nat)<=20;decide,?_,by show (0:Nat)<=20;decide,by show (0:Nat)<=20;decide⟩;show (f w).length<=20
   grind
 . have:ah2 n∈(pf (j5 p e nm c d w)).map ah2:=ah;rw [z] at this;exact i.Ny _ this
 . refine ⟨?_,by show (2:Nat)<=2;decide⟩;show (2+0)+(f w).length+0<=64
   grind
 . rw [V,t,fw];refine (aj.app (ak.app an)).mono ?_;omega
 . have j:G∈ [[aa.str e nm]]++ []++(alE (wH p c d)++ []):=j;rw [fw,fw] at j;rcases cr.1 j with j|j
   . rw [bs.1 j];exact B
   . have s:alE (wH p c d)=if (match (if rp p then aa.str 0 0 else aa.str 1 105) with| .str o q=>(o,q)|_=>(0,0))=(0,0) then [] else [[if rp p then aa.str 0 0 else aa.str 1 105]]:=rfl
     rw [s] at j
     cases X:rp p with
     |true=>grind
     | false=>
       rw [X] at j;have:G= [.str 1 105]:=ah;rw [this];decide
def apW {α β:Type} {f:α->β}: ∀ {L:List α},(L.map f).Pairwise (· ≠ ·)-> ∀ {a b:α},a∈L->b∈L->f a=f b->a=b
 | [],_,a,b,c,_,_=>by cases c
 | j ::L,d,a,b,c,i,h=>by
   rw [fS,hq] at d;rcases b2.1 c with e|e
   . grind
   . rcases b2.1 i with g|g
     . grind
     . exact apW d.2 e g h
def apG {L:Y} {l m:Nat} {r:List aa} (d:r∈L) (g:eV l m r=true) (h: ∀q∈L,eV l m q=true->q=r):lV L l m=some r:=by
 obtain ⟨b,a,rfl⟩:=List.append_of_mem d;rw [show b++r::a=b++([r]++a) from rfl,anh,anh]
 cases c:lV a l m with
 | some q=>
   obtain ⟨e,f⟩:=amZ c
   grind
 | none=>
   have:lV [r] l m=some r:=by
    show (if eV l m r=true then some r else none)=some r
    grind
   grind
def anW {L:Y} {l m:Nat} (a:j0 L l m=true): ∃r∈L,eV l m r=true:=by
 unfold j0 at a
 cases b:lV L l m with
 |some c=>exact ⟨c,amZ b⟩
 |none=>grind
def fB.nm {r:List aa} {l m:Nat} {args:Y} {ls ms:Nat} {st:Y} (c:fB r l m args ls ms st):M r 0= .str l m/\kt r 0=(l,m)/\kt r 2=(ls,ms)/\f (M r 1)=args/\ak7 r=st/\f (M r 6)=st/\jZ r=(l,m)/\ ∀a b,eV a b r=(a==l&&b==m):=by
 obtain ⟨a,e,h,g,ac,rfl,d,p8,-⟩:=c.eq;exact ⟨rfl,rfl,rfl,bm d,bm p8,bm p8,rfl,λ_ _=>rfl⟩
def amz {l m a b:Nat}:(l==a&&m==b)=true↔l=a/\m=b:=ai
def aqA {kN:Y} (p8:b8 kN) (f:kN.all amU=true) {a b:Nat} (d:my kN a b=true):isName a b=true:=by
 have e:b8 (eD++kN):=λc g=>(cr.1 g).elim (AT c) (p8 c);have p2:=(ans e).1 d;rcases cr.1 p2 with p2|p2
 . have i:eD.all (λc=>match c with| [.str a b]=>isName a b|_=>false)=true:=al
   grind
 . have:=ba.1 f _ p2;have h:amU [.str a b]=(isName a b&& !eD.any (isStr a b)):=rfl
   grind
structure amr (rop:Y) (r:List aa) (l m:Nat) (args:Y) (ls ms:Nat) (st:Y) (rN j:Nat):Prop where
  i:r∈rop
  o:fB r l m args ls ms st
  k:st[rN]? =some [.int .i64 ((j+1:Nat):Int)]
  j:j<args.length
  FX:args.length<=8
  s: ∀q∈st,∃i:Int,q= [.int .i64 i]/\1<=i/\i<=args.length
  ag7:st.length<=8
  lo:l+7<=40
  nm:isName l m=true
def ap0 {K m x a c:Nat} (p2:m<K) (b:a<K) (e:m+x*K=a+c*K):m=a/\x=c:=by
 have g:0<K:=ab;have d:=congrArg (· %K) e;have f:=congrArg (· /K) e;simp only [Nat.add_mul_mod_self_right,tE p2,tE b,Nat.add_mul_div_right _ _ g,aiJ p2,aiJ b,gH] at d f;omega
def aiU {l m j a b d:Nat} (f:T l m) (g:T a b) (e:fe l=fe a) (c:gD l m j=gD a b d):l=a/\m=b/\j=d:=by
 unfold fe at e;obtain rfl:l=a:=ab;rw [amS,amS] at c;obtain ⟨h,i⟩:=ap0 (amg f) (amg g) c;omega
def al3 (c l m j:Nat):Nat:=m+c<<<(8*l)+(48+(j+1))<<<(8*(l+6))
def aoL (c l m j:Nat):al3 c l m j=m+(c+(48+(j+1))*281474976710656)*2^(8*l):=by
 unfold al3;rw [yY,yY,show 8*(l+6)=48+8*l by omega,amy,show (2:Nat)^48=281474976710656 by decide]
 grind
def apY {c l m j:Nat} (h:c=104953454880863\/c=104919330677599) (b:T l m) (g:isName l m=true) (f:l+7<=40) (k:j<8):T (l+6+1) (al3 c l m j)/\isName (l+6+1) (al3 c l m j)=true:=by
 have n:c+(48+(j+1))*281474976710656<72057594037927935:=ab;rw [aoL];constructor
 . have p2:=amg b;unfold T;rw [show (256:Nat)=2^8 from rfl,<-vW,show 8*(l+6+1)=56+8*l by omega,amy];generalize c+(48+(j+1))*281474976710656=d at*;have e:m+d*2^(8*l)<(d+1)*2^(8*l):=ah;refine yX e (fU _ ?_);omega
 . refine arI g b f λa i=> ?_;have o: ∀j<8,∀a<7,qd (en (104953454880863+(48+(j+1))*281474976710656) a)=true/\qd (en (104919330677599+(48+(j+1))*281474976710656) a)=true:=by decide+kernel
   grind
def aoM {c l m j b a d f:Nat} (k:c=104953454880863\/c=104919330677599) (n:b=104953454880863\/b=104919330677599) (g:T l m) (h:T a d) (i:l+6+1=a+6+1) (e:al3 c l m j=al3 b a d f):l=a/\m=d/\c=b/\j=f:=by
 obtain rfl:l=a:=ab;rw [aoL,aoL] at e;obtain ⟨o,q⟩:=ap0 (amg g) (amg h) e;omega
section
variable {kN aw rop ao aJ p ahI:Y} (aie: ∀r∈rop,c6 r) (ak2: ∀r∈ao,c6 r) (al1:b8 kN) (p8:amd kN aw rop ao aJ) (p2:lD p rop ahI ao)
include aie p8 in
theorem ano:nm kN rop ao:=by
 refine ⟨p8.2.1.2.2,λn l s u c t v w g=> ?_,p8.1.2.2.1⟩;obtain ⟨q,r,i,j,k,-⟩:=g.nm;obtain ⟨⟨-,d,-,e⟩,-,-,a,f,-⟩:=p8.2.2.2.2.1 n l;rw [j] at d a;rw [k] at a f;rw [i] at e;refine ⟨d,λm h=> ?_,f,e⟩;obtain ⟨b,rfl⟩:=g.rs m h;have:=ba.1 a _ h;have o:anb c.length [.int .i64 b]=(decide (b>=1)&&decide (b<=c.length)):=rfl
 grind
include aie al1 p8 in
theorem arZ {r:List aa} (h:r∈rop) {l m:Nat} {args:Y} {ls ms:Nat} {st:Y} (e:fB r l m args ls ms st):alA kN args:=by obtain ⟨n,o,q,g,s,-⟩:=e.nm;obtain ⟨⟨-,c,d,-⟩,-⟩:=p8.2.2.2.2.1 r h;rw [g] at c d;refine ⟨c,λi f=> ?_⟩;obtain ⟨a,b,rfl,k,j⟩:=e.hS i f;have:my kN a b=true:=ba.1 d _ f;exact ⟨a,b,rfl,k,j,aqA al1 p8.2.1.2.1 this,this⟩
include aie p8 p2 in
theorem an1 {r:List aa} (c:r∈rop) {l m:Nat} {args:Y} {ls ms:Nat} {st:Y} (b:fB r l m args ls ms st) {a:Nat} (w:a<st.length): ∃j,amr rop r l m args ls ms st a j/\iR r a=j:=by
 obtain ⟨u,k,v⟩:=(ano aie p8).st c b;obtain ⟨E,F,G,H,I,h,K,J⟩:=b.nm;obtain ⟨B,z⟩:=bA w;obtain ⟨d,rfl,N,O⟩:=k B ah;have i:iR r a=d.toNat-1:=by unfold iR;rw [h,z];rfl
 have x:l+7<=40:=by have:=p2.nm (gX p l m args st a (d.toNat-1)) (fC.2 ⟨_,c,fC.2 ⟨a,ah,by obtain ⟨e,q,g,s,ac,rfl,n,o,-⟩:=b.eq;show _∈(if true then [gX p l m (f e) (f (M _ 6)) a (iR _ a)] else [])++_;rw [h,i,bm n];simp⟩⟩);exact this
 have A:vq l m=false:=by
  have:=CP.1 p2.aR r c;obtain ⟨e,q,g,s,ac,rfl,n,o,-⟩:=b.eq;have t:vH [.str l m,e,.str ls ms,q,.int .i64 s,.int .i64 ac,g]=(decide ((f g).length>0)&&vq l m):=rfl;rw [t,bm o,decide_eq_true (show st.length>0 by omega)] at this
  grind
 obtain ⟨C,D⟩:=arP A;have y:isName l m=true:=by
  have:=(p8.2.2.2.2.1 r c).1.1.1
  grind
 have L:d=((d.toNat-1+1:Nat):Int):=ab;exact ⟨d.toNat-1,⟨c,b,ah,ab,u,k,v,x,y⟩,i⟩
include aie p8 p2 in
theorem al8 {x:List aa} (c:x∈oN rop): ∃r l m args ls ms st a j,amr rop r l m args ls ms st a j/\x=ko l m args ls ms j:=by obtain ⟨r,e,c⟩:=fC.1 c;obtain ⟨a,d,rfl⟩:=cd.1 c;obtain ⟨l,m,args,ls,ms,st,b⟩:=aie r e;obtain ⟨o,q,s,t,u,h,w,v⟩:=b.nm;rw [h,h9] at d;obtain ⟨j,k,i⟩:=an1 aie p8 p2 e b d;refine ⟨r,l,m,args,ls,ms,st,a,j,k,?_⟩;obtain ⟨g,z,B,A,ac,rfl,n,y,-⟩:=b.eq;show ko l m (f g) ls ms (iR _ a)=_;rw [i,bm n]
include aie p8 p2 in
theorem LD {x:List aa} (a:x∈kO p true true rop): ∃r l m args ls ms st b j,amr rop r l m args ls ms st b j/\(x=gX p l m args st b j\/x=kl p l m args j):=by
 obtain ⟨r,n,a⟩:=fC.1 a;obtain ⟨b,k,a⟩:=fC.1 a;obtain ⟨l,m,args,ls,ms,st,d⟩:=aie r n;obtain ⟨t,u,v,w,y,i,A,z⟩:=d.nm;rw [i,h9] at k;obtain ⟨j,q,o⟩:=an1 aie p8 p2 n d k;refine ⟨r,l,m,args,ls,ms,st,b,j,q,?_⟩;obtain ⟨c,e,h,g,ac,rfl,s,B,-⟩:=d.eq;have a:x∈ [gX p l m (f c) (f (M [.str l m,c,.str ls ms,e,.int .i64 g,.int .i64 ac,h] 6)) b (iR [.str l m,c,.str ls ms,e,.int .i64 g,.int .i64 ac,h] b)]++ [kl p l m (f c) (iR [.str l m,c,.str ls ms,e,.int .i64 g,.int .i64 ac,h] b)]:=a;rw [i,o,bm s] at a
 grind
include p2 in
theorem anx {x q:List aa} (b:x∈oN rop) (a:q∈rop) {l m:Nat} (c:jZ x=(l,m)):eV l m q=false:=by
 have:=CP.1 (p2.op x b) q a
 grind
theorem al0 (l m:Nat) (args:Y) (ls ms j:Nat):jZ (ko l m args ls ms j)=(fe l,gD l m j)/\M (ko l m args ls ms j) 0= .str (fe l) (gD l m j)/\ ∀a b,eV a b (ko l m args ls ms j)=(a==fe l&&b==gD l m j):=⟨rfl,rfl,λ_ _=>rfl⟩
include p8 in
theorem aoK:(rop.map λr=> [M r 0]).Pairwise (· ≠ ·):=(rH.1 p8.2.1.2.2).1
include p8 in
theorem apT {r q:List aa} (b:r∈rop) (a:q∈rop) (e:M r 0=M q 0):r=q:=apW (aoK p8) b a ah
include aie p8 p2 in
theorem arN {l m:Nat} (a:GA rop ao l m=true) (hF: ∀r∈ao,c6 r):alX rop l m:=λF f=>by
 obtain ⟨r,d,h,t,y,B,D,w,g,j,rfl⟩:=al8 aie p8 p2 f;rw [(al0 ..).2.2]
 cases k:(l==fe d&&m==gD d h g) with
 |false=>rfl
 | true=>
   exfalso;obtain ⟨rfl,rfl⟩:=amz.1 k;have n:isName (fe d) (gD d h g)=false:=anQ j.o.c5;unfold GA at a;rw [mL,mL] at a;rcases a with (a|a)|a
   . obtain ⟨e,c,b⟩:=anW a;rw [anx p2 f c (al0 ..).1] at b;cases b
   . obtain ⟨e,c,b⟩:=anW a;obtain ⟨x,A,s,z,C,E,q⟩:=hF e c;obtain ⟨u,v,-,-,-,-,-,i⟩:=q.nm;rw [i] at b;obtain ⟨rfl,rfl⟩:=amz.1 b;have:=(p8.2.2.2.2.2 e c).1.1.1
     grind
   . rw [aoa a] at n;grind
include aie p8 p2 in
theorem aj2 {q:List aa} (a:q∈eZ rop) {l m:Nat} (c:eV l m q=true):(∃r∈rop,q=il r/\eV l m r=true)\/q∈oN rop/\ ∀r∈rop,eV l m r=false:=by
 rcases cr.1 a with a|a
 . obtain ⟨r,b,rfl⟩:=cd.1 a;exact .inl ⟨r,b,rfl,by rw [<-anP (aie r b) (amA (aie r b)).2.2.2.1 (aoJ (aie r b))];exact c⟩
 . refine .inr ⟨a,λr b=>anx p2 a b ?_⟩;obtain ⟨r,h,j,d,i,k,n,g,f,e,rfl⟩:=al8 aie p8 p2 a;rw [(al0 ..).2.2] at c;obtain ⟨rfl,rfl⟩:=amz.1 c;exact (al0 ..).1
include aie p8 p2 in
theorem ar1 {r:List aa} {l m:Nat} {args:Y} {ls ms:Nat} {st:Y} {w j:Nat} (a:amr rop r l m args ls ms st w j):amF (eZ rop) (ao.map ct) l m args:=by
 have b:=aie r a.i;obtain ⟨z,A,B,h,C,D,E,k⟩:=a.o.nm;have s:lV (eZ rop) l m=some (il r):=by
  refine apG (hP _ (cd.2 ⟨r,a.i,rfl⟩)) ?_ λK e t=> ?_
  . rw [anP b (amA b).2.2.2.1 (aoJ b),k];simp
  . rcases aj2 aie p8 p2 e t with ⟨x,g,rfl,d⟩|⟨-,u⟩
    . obtain ⟨G,I,y,H,J,L,v⟩:=aie x g;obtain ⟨F,-,-,-,-,-,-,n⟩:=v.nm;rw [n] at d;obtain ⟨rfl,rfl⟩:=amz.1 d;rw [apT p8 g a.i ah]
    . have:=u r a.i
      grind
 have c:j0 (eZ rop) l m=true:=by unfold j0;grind
 have e:vq l m=false\/True:= .inr trivial;have q:isName (e_ l m) (fL l m)=true:=by
  have:=(p8.2.2.2.2.1 r a.i).1.1.1
  grind
 refine ⟨by unfold GA;grind,?_,c,q⟩;unfold mr iQ;rw [c,if_pos rfl,s];show f (M (il r) 1)=args;rw [(amA b).1,h]
include aie p8 p2 in
theorem ar0 {r:List aa} {l m:Nat} {args:Y} {ls ms:Nat} {st:Y} {u j:Nat} (a:amr rop r l m args ls ms st u j) (f:ko l m args ls ms j∈oN rop):amF (eZ rop) (ao.map ct) (fe l) (gD l m j) (args.eraseIdx j):=by
 obtain ⟨z,A,B,C,D,F,G,E⟩:=a.o.nm;have n:lV (eZ rop) (fe l) (gD l m j)=some (ko l m args ls ms j):=by
  refine apG (h7 _ f) (by rw [(al0 ..).2.2];simp) λO d c=> ?_;rcases aj2 aie p8 p2 d c with ⟨x,t,rfl,s⟩|⟨d,-⟩
  . rw [anx p2 f t (al0 ..).1] at s;grind
  . obtain ⟨x,K,M,y,L,N,P,J,I,b,rfl⟩:=al8 aie p8 p2 d;rw [(al0 ..).2.2] at c;obtain ⟨v,w⟩:=amz.1 c;obtain ⟨rfl,rfl,rfl⟩:=aiU a.o.c5 b.o.c5 v w;obtain ⟨H,-⟩:=b.o.nm;obtain rfl:=apT p8 b.i a.i ah;obtain ⟨-,-,rfl,rfl,rfl,rfl⟩:=b.o.uniq a.o;rfl
 have e:j0 (eZ rop) (fe l) (gD l m j)=true:=by unfold j0;grind
 have q:=(anR a.nm).1;have k:j<8:=by have:=a.j;have:=a.FX;omega
 obtain ⟨g,h⟩:=ape (j:=j) a.o.c5 k q;refine ⟨by unfold GA;grind,?_,e,by unfold ajb;rw [g,h];exact a.nm⟩;unfold mr iQ;rw [e,if_pos rfl,n];rfl
include aie ak2 p8 p2 in
theorem aqi:amD (eZ rop) (ao.map ct):=by
 have e : ∀c d,uT c d=true->j0 (eZ rop) c d=false/\j0 (ao.map ct) c d=false:=λc d w=>by
  constructor
  . cases g:j0 (eZ rop) c d with
    |false=>rfl
    | true=>
      exfalso;obtain ⟨i,b,a⟩:=anW g;rcases aj2 aie p8 p2 b a with ⟨j,m,rfl,l⟩|⟨b,-⟩
      . obtain ⟨n,r,k,q,s,t,h⟩:=aie j m;obtain ⟨-,u,-,-,-,-,-,f⟩:=h.nm;rw [f] at l;obtain ⟨rfl,rfl⟩:=amz.1 l;have:=(p8.2.2.2.2.1 j m).1.1.2
        grind
      . obtain ⟨j,n,r,k,q,s,t,y,x,v,rfl⟩:=al8 aie p8 p2 b;rw [(al0 ..).2.2] at a;obtain ⟨rfl,rfl⟩:=amz.1 a;have:=aoa w;rw [anQ v.o.c5] at this;grind
  . rw [anm ak2]
    cases g:j0 ao c d with
    |false=>rfl
    | true=>
      exfalso;obtain ⟨i,b,a⟩:=anW g;obtain ⟨n,r,k,q,s,t,h⟩:=ak2 i b;obtain ⟨-,u,-,-,-,-,-,f⟩:=h.nm;rw [f] at a;obtain ⟨rfl,rfl⟩:=amz.1 a;have:=(p8.2.2.2.2.2 i b).1.1.2
      grind
 exact ⟨(e _ _ (by decide+kernel)).1,(e _ _ (by decide+kernel)).2,(e _ _ (by decide+kernel)).1,(e _ _ (by decide+kernel)).2⟩
end
def aog {α β:Type} (f:α->β): ∀(l:List α) (j:Nat),(l.eraseIdx j).map f=(l.map f).eraseIdx j
 | [],_=>rfl
 |_::_,0=>rfl
 |a::l,j+1=>by show f a::(l.eraseIdx j).map f=f a::(l.map f).eraseIdx j;rw [aog f l j]
section
variable {kN A:Y} (ag:alA kN A)
include ag
theorem alA.aoQ {i:Nat} {q:List aa} (a:A[i]? =some q):amq 1 (abM i q) (amC i q):=by have d:=ag.lt a;obtain ⟨f,e,-⟩:=ag.am6 a;obtain ⟨g,h,rfl,b,c,k,n⟩:=ag.s q ah;exact ⟨f,e,aoN (aqc d) b al c⟩
theorem alA.Nx {j:Nat} {q:List aa} (a:A[j]? =some q):amq 1 (ps A j) (amf q):=by obtain ⟨⟨h,k,rfl,b⟩,g,f,-⟩:=ag.sr a;obtain ⟨i,n,c,d,e,o,t⟩:=ag.s _ (aV a);cases c;refine ⟨g,f,?_⟩;rw [b];exact aoN am4.2.1 d al e
theorem alA.an4: ∀r∈cp A,aN r/\bL [r] 1:=λr a=>by unfold cp at a;obtain ⟨d,c,b⟩:=anH.1 a;rw [<-b];have:=ag.aoQ (lj c);exact ⟨this.1,this.2.2⟩
theorem alA.at {i:Nat} {q:List aa} (a:A[i]? =some q):jA A ((i+1:Nat):Int)=abM i q:=by
 unfold jA cp
 grind
theorem alA.ks {x:ak1} (b:x∈alk A): ∃q,alB kN x q:=by obtain ⟨c,q,a,rfl⟩:=apu b;exact ⟨q,(ag.am6 a).2.2.1⟩
theorem alA.apt (j:Nat) {x:ak1} (b:x∈alk A):alS (c A j) x:=by obtain ⟨d,e,a,rfl⟩:=apu b;exact (ag.am6 a).2.2.2 j
end
section
variable {kN aw R F p ro rm rop:Y} {r:List aa} {l m:Nat} {args:Y} {ls ms:Nat} {st:Y} {alb j:Nat}
theorem arH (ag:amr rop r l m args ls ms st alb j) (a:alA kN args) (N:amF R F l m args) (K:amF R F (fe l) (gD l m j) (args.eraseIdx j)) (I:amD R F) (b:(ak5 ro rm 1 107).2.2=true/\(ak5 ro rm 1 107).1=(4,1953720652)) (L:rp p=rp ro):
  anr kN aw R F ro rm (gX p l m args st alb j):=by
 obtain ⟨T,h⟩:=bA ag.j;have E:j<8:=a.lt h;obtain ⟨Q,S⟩:=apY (j:=j) (.inl rfl) ag.o.c5 ag.nm ag.lo E;obtain ⟨ad,G⟩:=a.vars;have v:=am2 (c:=1) ag.o.c5 ag.o.s1 (fW (cp args)) a.an4 (by rw [qP];have:=ag.FX;omega) G;have C:=am2 (l:=fe l) (m:=gD l m j) (y:= .A ((cp args).eraseIdx j) false) (c:=1) (BR ag.o.c5 E) (by have:=ag.lo;unfold fe;omega) (.inr ⟨_,rfl⟩) (λr d=>a.an4 r (tC d)) (by have:=C0 (cp args) j;rw [qP] at this;have:=ag.FX;omega) (ks:=(alk args).eraseIdx j) (by rw [aog,G]);have w:=a.aoQ h;rw [qP] at v;have z:=a.at h;have D: ∀f∈lQ args st alb j,∃t,amq 3 f t/\am7 (alk args) t:=λf b=>by
  rcases cr.1 b with b|b
  . obtain ⟨V,p8,rfl⟩:=cd.1 b;obtain ⟨i,rfl,Z,aa⟩:=ag.s V ah;obtain ⟨U,B⟩:=bA (j:=i.toNat-1) (show i.toNat-1<args.length by omega);have x:jA args (j7 [.int .i64 i])=abM (i.toNat-1) U:=by
     rw [<-a.at B];show jA args i=_
     grind
    rw [x];have:=aoe (a.aoQ B);exact ⟨_,⟨this.1,this.2.1,this.2.2.mono al⟩,_,aV (anL B),.inl rfl⟩
  . rw [bs.1 b,z];exact ⟨_,arK w,_,aV (anL h),.inr rfl⟩
 have O:([cm l m (dk (cp args))]:Y).map ah2= [aiA l m (alk args)]:=by rw [al2,v.2.1]
 have P:([jA args ((j+1:Nat):Int),cm (fe l) (gD l m j) (.A ((cp args).eraseIdx j) false)]:Y).map ah2= [amC j T,aiA (fe l) (gD l m j) ((alk args).eraseIdx j)]:=by simp only [fS,rG,C.2.1];rw [z,w.2.1]
 have X:(List.eraseIdx (cp args) j).length<=8:=by have:=C0 (cp args) j;rw [qP] at this;have:=ag.FX;omega
 have M:(List.eraseIdx (alk args) j).length<=8:=ah;refine apN (g:=c args j) (nm:=al3 104953454880863 l m j) (i1:= .inr ⟨_,rfl⟩) (i2:= .inr ⟨_,rfl⟩) (i3:=fW (lQ args st alb j)) (λr d=> ?_) (λr d=> ?_) (λf b=> ?_) ai ai ?_ S Q ?_ b L
 . rw [bs.1 d];exact ⟨v.1,v.2.2.mono (by have:=ag.FX;omega)⟩
 . simp only [b2,dG,or_false] at d;rcases d with rfl|rfl
   . rw [z];exact ⟨w.1,w.2.2.mono al⟩
   . exact ⟨C.1,C.2.2.mono ab⟩
 . obtain ⟨t,q,-⟩:=D f b;exact ⟨q.1,q.2.2⟩
 . unfold lQ;rw [bD,di,h6,yQ];have:=(e6.1 ag.k).1;have:=ag.ag7;omega
 . rw [O,P];refine apO (ale:=alk args) aw (λu e=>a.ks e) (λu e=>a.apt j e) (by unfold c;simp) I (λx n=> ?_) ai (λx n=> ?_) ai (λf b=> ?_) λu e=> ?_
   . rw [bs.1 n];exact .inr ⟨_,_,_,_,rfl,N,a.mt,ai,by rw [aoA];exact ag.FX⟩
   . simp only [b2,dG,or_false] at n;rcases n with rfl|rfl
     . exact .inl (aV (anL h))
     . exact .inr ⟨_,_,_,_,rfl,K,a.mt.erase j,λu e=>tC e,M⟩
   . obtain ⟨H,J,rfl⟩:=cd.1 b;obtain ⟨t,q,W⟩:=D H J;rw [q.2.1];omega
   . show u∈tl (aiA l m (alk args))++ [];rw [fw,aoH a.mt]
     grind
theorem arG (ag:amr rop r l m args ls ms st alb j) (a:alA kN args) (G:amF R F l m args) (C:amF R F (fe l) (gD l m j) (args.eraseIdx j)) (B:amD R F) (h:(ak5 ro rm 1 107).2.2=true/\(ak5 ro rm 1 107).1=(4,1953720652)) (D:rp p=rp ro):
  anr kN aw R F ro rm (kl p l m args j):=by
 obtain ⟨f,q⟩:=bA ag.j;have v:j<8:=a.lt q;obtain ⟨M,N⟩:=apY (j:=j) (.inr rfl) ag.o.c5 ag.nm ag.lo v;obtain ⟨T,w⟩:=a.vars;have e:=a.Nx q;obtain ⟨-,-,-,I,Q⟩:=a.sr q;have H: ∀r∈(cp args).set j (ps args j),aN r/\bL [r] 1:=λr b=>by
  rcases C4 b with b|rfl
  . exact a.an4 r b
  . exact ⟨e.1,e.2.2⟩
 have n:=am2 (c:=1) ag.o.c5 ag.o.s1 (fW ((cp args).set j (ps args j))) H (by rw [aiY,qP];have:=ag.FX;omega) (ks:=(alk args).set j (amf f)) (by rw [List.map_set,w,e.2.1]);have s:=am2 (l:=fe l) (m:=gD l m j) (y:= .A ((cp args).eraseIdx j) false) (c:=1) (BR ag.o.c5 v) (by have:=ag.lo;unfold fe;omega) (.inr ⟨_,rfl⟩) (λr b=>a.an4 r (tC b)) (by have:=C0 (cp args) j;rw [qP] at this;have:=ag.FX;omega) (ks:=(alk args).eraseIdx j) (by rw [aog,w]);rw [aiY,qP] at n;have O:(List.eraseIdx (cp args) j).length<=8:=by have:=C0 (cp args) j;rw [qP] at this;have:=ag.FX;omega
 have E:(List.eraseIdx (alk args) j).length<=8:=ah;have J:([ps args j,cm (fe l) (gD l m j) (.A ((cp args).eraseIdx j) false)]:Y).map ah2= [amf f,aiA (fe l) (gD l m j) ((alk args).eraseIdx j)]:=by simp only [fS,rG,s.2.1,e.2.1]
 have K:([cm l m (dk ((cp args).set j (ps args j)))]:Y).map ah2= [aiA l m ((alk args).set j (amf f))]:=by rw [al2,n.2.1]
 have t:=aoe e;have L:([fb (ps args j)]:Y).map ah2= [alv (amf f)]:=by rw [al2,t.2.1]
 refine apN (g:=c args j) (nm:=al3 104919330677599 l m j) (i1:= .inr ⟨_,rfl⟩) (i2:= .inr ⟨_,rfl⟩) (rc:= [fb (ps args j)]) (i3:= .inr ⟨_,rfl⟩) (λr b=> ?_) (λr b=> ?_) (λx h=> ?_) ai ai ai N M ?_ h D
 . simp only [b2,dG,or_false] at b;rcases b with rfl|rfl
   . exact ⟨e.1,e.2.2.mono al⟩
   . exact ⟨s.1,s.2.2.mono ab⟩
 . rw [bs.1 b];exact ⟨n.1,n.2.2.mono (by have:=ag.FX;omega)⟩
 . rw [bs.1 h];exact ⟨t.1,t.2.2.mono al⟩
 . rw [J,K,L];refine apO (ale:=amf f::(alk args).eraseIdx j) aw (λk d=> ?_) (λk d=> ?_) (by unfold c;simp) B (λz i=> ?_) ai (λz i=> ?_) ai (λx h=> ?_) λk d=> ?_
   . rcases b2.1 d with rfl|d
     . grind
     . exact a.ks (tC d)
   . rcases b2.1 d with rfl|d
     . omega
     . exact a.apt j (tC d)
   . simp only [b2,dG,or_false] at i;rcases i with rfl|rfl
     . exact .inl (dF ..)
     . exact .inr ⟨_,_,_,_,rfl,C,a.mt.erase j,ah,E⟩
   . rw [bs.1 i];refine .inr ⟨_,_,_,_,rfl,G,a.mt.set ah,λk d=> ?_,by rw [aiY,aoA];exact ag.FX⟩;obtain ⟨S,u⟩:=jo d;rw [List.getElem?_set] at u;split at u
     . grind
     . rename_i P;exact h8 _ (List.mem_eraseIdx_iff_getElem?.2 ah)
   . rw [bs.1 h];exact ⟨_,dF ..,.inl rfl⟩
   . show k∈tl (amf f)++(tl (aiA (fe l) (gD l m j) ((alk args).eraseIdx j))++ []);rw [fw,I.tl,aoH (a.mt.erase j)]
     grind
end
section
variable {kN aw rop ao aJ p ahI:Y} (aie: ∀r∈rop,c6 r) (ak2: ∀r∈ao,c6 r) (al1:b8 kN) (p8:amd kN aw rop ao aJ) (p2:lD p rop ahI ao)
include aie
theorem aqG {r:List aa} {l m:Nat} {args:Y} {ls ms:Nat} {st:Y} {alb j:Nat} (ag:amr rop r l m args ls ms st alb j):ko l m args ls ms j∈oN rop:=by
 have v:=(e6.1 ag.k).1;have a:=ag.o;obtain ⟨g,h,n,q,s,c,u,t⟩:=a.nm;have d:iR r alb=j:=by unfold iR;rw [c,ag.k];show (((j+1:Nat):Int)).toNat-1=j;omega
 refine fC.2 ⟨r,ag.i,cd.2 ⟨alb,ah,?_⟩⟩;obtain ⟨b,x,z,y,ac,rfl,e,w,-⟩:=a.eq;show ko l m (f b) ls ms (iR _ alb)=_;rw [d,bm e]
include ak2 al1 p8 p2
theorem ar7 {ro rm:Y} (b: ∀r∈rop,ak7 r≠ []->(ak5 ro rm 1 107).2.2=true/\(ak5 ro rm 1 107).1=(4,1953720652)) (g:rp p=rp ro) {x:List aa} (c:x∈kO p true true rop):anr kN aw (eZ rop) (ao.map ct) ro rm x:=by
 obtain ⟨r,l,m,args,ls,ms,st,alb,j,a,c⟩:=LD aie p8 p2 c;have d:=arZ aie al1 p8 a.i a.o;have h:=ar1 aie p8 p2 a;have f:=ar0 aie p8 p2 a (aqG aie a);have e:=aqi aie ak2 p8 p2;have b:=b r a.i (by
  rw [a.o.nm.2.2.2.2.1];intro n;have:=a.k
  grind)
 rcases c with rfl|rfl
 . exact arH a d h f e b g
 . exact arG a d h f e b g
omit al1 ak2 in
theorem ap4 {r:List aa} (bh:r∈rop) {l m:Nat} {args:Y} {ls ms:Nat} {st:Y} (b9:fB r l m args ls ms st) {gZ CJ:Nat} (aS:gZ<st.length) (bG:CJ<st.length) (iH:gZ<CJ):iR r gZ≠iR r CJ:=λe=>by obtain ⟨aqT,kY,Oy⟩:=an1 aie p8 p2 bh b9 aS;obtain ⟨aqU,a2,Oz⟩:=an1 aie p8 p2 bh b9 bG;have amv:aqT=aqU:=ab;subst amv;have yt:st.Nodup:=((ano aie p8).ops r bh l m args ls ms st b9).2.2.1;have:=(List.getElem?_inj aS yt).1 (kY.k.trans a2.k.symm);omega
omit al1 ak2 in
theorem aqH:((oN rop).map λr=> [M r 0]).Pairwise (· ≠ ·):=by
 have anT: ∀ {r l m args ls ms st} (alb:Nat),fB r l m args ls ms st->M (oM r alb) 0= .str (fe l) (gD l m (iR r alb)):=λ{r l m args ls ms st} alb b9=>by obtain ⟨a,p,s',alV,ac,rfl,eO,yv,-⟩:=b9.eq;rfl
 rw [ane];unfold oN;rw [aoq];constructor
 . intro r bh;obtain ⟨l,m,args,ls,ms,st,b9⟩:=aie r bh;obtain ⟨ra,fc,kn,pN,mu,Ha,amR,adB⟩:=b9.nm;unfold rj;rw [ane,Ha];refine anC (λ{a b} eO dg iH e=> ?_) List.pairwise_lt_range;rw [h9] at eO dg;injection e with e;rw [anT a b9,anT b b9] at e;injection e with r4 r5;exact ap4 aie p8 p2 bh b9 eO dg iH (aiU b9.c5 b9.c5 r4 r5).2.2
 . have:=aoK p8;rw [ane] at this;refine anC (λ{a b} eO dg p3 x bj y dh e=> ?_) this;obtain ⟨gZ,-,rfl⟩:=cd.1 bj;obtain ⟨CJ,-,rfl⟩:=cd.1 dh;obtain ⟨l,m,args,ls,ms,st,b9⟩:=aie a eO;obtain ⟨wc,J6,F_,J4,Kb,eL,Cp⟩:=aie b dg;injection e with e;rw [anT gZ b9,anT CJ Cp] at e;injection e with r4 r5;obtain ⟨rfl,rfl,-⟩:=aiU b9.c5 Cp.c5 r4 r5;exact p3 (by rw [b9.nm.1,Cp.nm.1])
omit al1 ak2 in
theorem ar8:((kO p true true rop).map alj).Pairwise (· ≠ ·):=by
 have ao5: ∀ {r l m args ls ms st} (alb:Nat),fB r l m args ls ms st->j4 p true true r alb= [gX p l m args st alb (iR r alb),kl p l m args (iR r alb)]:=λ{r l m args ls ms st} alb b9=>by have Ha:=b9.nm.2.2.2.2.2.1;obtain ⟨a,zp,s',alV,ac,rfl,eO,yv,-⟩:=b9.eq;have:j4 p true true [.str l m,a,.str ls ms,zp,.int .i64 alV,.int .i64 ac,s'] alb= [gX p l m (f a) (f (M [.str l m,a,.str ls ms,zp,.int .i64 alV,.int .i64 ac,s'] 6)) alb (iR [.str l m,a,.str ls ms,zp,.int .i64 alV,.int .i64 ac,s'] alb),kl p l m (f a) (iR [.str l m,a,.str ls ms,zp,.int .i64 alV,.int .i64 ac,s'] alb)]:=rfl;rw [this,Ha,bm eO]
 have yq: ∀ {r l m args ls ms st} (alb:Nat),fB r l m args ls ms st-> ∀x∈j4 p true true r alb,∃c,(c=104953454880863\/c=104919330677599)/\alj x= [.str (l+6+1) (al3 c l m (iR r alb))]:=λ{r l m args ls ms st} alb b9 x bj=>by
  rw [ao5 alb b9] at bj;simp only [b2,dG,or_false] at bj;rcases bj with rfl|rfl
  . exact ⟨_,.inl rfl,rfl⟩
  . exact ⟨_,.inr rfl,rfl⟩
 rw [ane];unfold kO;rw [aoq];constructor
 . intro r bh;obtain ⟨l,m,args,ls,ms,st,b9⟩:=aie r bh;have Ha:=b9.nm.2.2.2.2.2.1;unfold qF;rw [aoq,Ha];constructor
   . intro alb _;rw [ao5 alb b9,hq];refine ⟨λy dh e=> ?_,ai⟩;rw [bs.1 dh] at e;have e: [aa.str (l+6+1) (al3 104953454880863 l m (iR r alb))]= [.str (l+6+1) (al3 104919330677599 l m (iR r alb))]:=e;injection e with e;injection e with r4 r5;have:=(aoM (.inl rfl) (.inr rfl) b9.c5 b9.c5 rfl r5).2.2.1;omega
   . refine anC (λ{a b} eO dg iH x bj y dh e=> ?_) List.pairwise_lt_range;rw [h9] at eO dg;obtain ⟨c,bp,fc⟩:=yq a b9 x bj;obtain ⟨Gr,aok,kn⟩:=yq b b9 y dh;rw [fc,kn] at e;injection e with e;injection e with r4 r5;exact ap4 aie p8 p2 bh b9 eO dg iH (aoM bp aok b9.c5 b9.c5 r4 r5).2.2.2
 . have:=aoK p8;rw [ane] at this;refine anC (λ{a b} eO dg p3 x bj y dh e=> ?_) this;obtain ⟨gZ,-,bj⟩:=fC.1 bj;obtain ⟨CJ,-,dh⟩:=fC.1 dh;obtain ⟨l,m,args,ls,ms,st,b9⟩:=aie a eO;obtain ⟨wc,J6,F_,J4,Kb,eL,Cp⟩:=aie b dg;obtain ⟨c,bp,fc⟩:=yq gZ b9 x bj;obtain ⟨Gr,aok,kn⟩:=yq CJ Cp y dh;rw [fc,kn] at e;injection e with e;injection e with r4 r5;obtain ⟨rfl,rfl,-⟩:=aoM bp aok b9.c5 Cp.c5 r4 r5;exact p3 (by rw [b9.nm.1,Cp.nm.1])
omit al1 ak2 in
theorem asA {q:List aa} (kx:q∈eZ rop):aml kN q:=by
 rcases cr.1 kx with kx|kx
 . obtain ⟨r,bh,rfl⟩:=cd.1 kx;obtain ⟨f1,f3,f6,f0,f2,f4,f5⟩:=amA (aie r bh);have ag:=p8.2.2.2.2.1 r bh;obtain ⟨aS,bG,dS,-,-,pY⟩:=ag;have i4:aly (il r) 4=aly r 4:=by unfold aly;rw [f4]
   have i5:aly (il r) 5=aly r 5:=by unfold aly;rw [f5]
   unfold aml;rw [amu f0,amu f2,f1,f3,f6,i4,i5]
   simp_all
 . obtain ⟨r,l,m,args,ls,ms,st,alb,j,SC,rfl⟩:=al8 aie p8 p2 kx;have aol:j<8:=by have:=SC.j;have:=SC.FX;omega
   obtain ⟨Oy,Oz⟩:=ape (j:=j) SC.o.c5 aol (anR SC.nm).1;obtain ⟨ra,fc,kn,pN,mu,Ha,amR,adB⟩:=SC.o.nm;obtain ⟨⟨-,aS,bG,dS⟩,-⟩:=p8.2.2.2.2.1 r SC.i;rw [pN] at aS bG;rw [kn] at dS;refine ⟨⟨⟨?_,?_⟩,?_,?_,dS⟩,⟨by show (0:Int)<=0/\(0:Int)<=20;decide,.inr rfl⟩,⟨by show (0:Int)<=0/\(0:Int)<=2;decide,.inr rfl⟩,rfl,List.Pairwise.nil,.inl rfl⟩
   . show isName (e_ (fe l) (gD l m j)) (fL (fe l) (gD l m j))=true;rw [Oy,Oz];exact SC.nm
   . show uT (fe l) (gD l m j)=false
     cases dg:uT (fe l) (gD l m j) with
     |false=>rfl
     | true=>
       have:=aoa dg;rw [anQ SC.o.c5] at this;grind
   . show (args.eraseIdx j).length<=8
     grind
   . show (args.eraseIdx j).all (alT kN)=true;exact ba.2 λx bj=>ba.1 bG x (tC bj)
omit al1 aie p2 in
theorem asz {q:List aa} (kx:q∈ao.map ct):amj kN q:=by
 obtain ⟨r,bh,rfl⟩:=cd.1 kx;obtain ⟨f1,f3,f6,f0,f2,f4,f5⟩:=ann (ak2 r bh);have ag:=p8.2.2.2.2.2 r bh;have i4:aly (ct r) 4=aly r 4:=by unfold aly;rw [f4]
 have i5:aly (ct r) 5=aly r 5:=by unfold aly;rw [f5]
 unfold amj at ag|-;rw [amu f0,amu f2,f1,f3,f6,i4,i5];exact ag
omit al1 in
theorem asB:amd kN aw (eZ rop) (ao.map ct) aJ:=by
 obtain ⟨⟨kY,a2,a3,a4,a5⟩,⟨Oy,Oz,aqf⟩,nu,sH,xy,aqk⟩:=id p8;obtain ⟨rX,rY,agr⟩:=rH.1 aqf;have aqt:(eZ rop).map (λr=> [M r 0])=(rop.map λr=> [M r 0])++(oN rop).map λr=> [M r 0]:=by unfold eZ;rw [vR,tB];congr 1;exact vS λr bh=>by show [M (il r) 0]= [M r 0];rw [(amA (aie r bh)).2.2.2.1]
 have aqs:(ao.map ct).map (λr=> [M r 0])=ao.map λr=> [M r 0]:=by rw [tB];exact vS λr bh=>by show [M (ct r) 0]= [M r 0];rw [(ann (ak2 r bh)).2.2.2.1]
 refine ⟨⟨kY,a2,?_,a4,a5⟩,⟨Oy,Oz,?_⟩,nu,sH,λr bh=>asA aie p8 p2 bh,λr bh=>asz ak2 p8 bh⟩
 . have:=p2.l2;unfold eZ
   grind
 . unfold anU;rw [aqt,aqs];refine rH.2 ⟨rH.2 ⟨rX,aqH aie p8 p2,λa eO b dg e=> ?_⟩,rY,λa eO b dg e=> ?_⟩
   . obtain ⟨r,bh,rfl⟩:=cd.1 eO;obtain ⟨x,bj,rfl⟩:=cd.1 dg;obtain ⟨fX,l,m,args,ls,ms,st,alb,j,SC,rfl⟩:=al8 aie p8 p2 bj;have:=anx p2 bj bh (al0 ..).1;obtain ⟨wc,J6,F_,J4,Kb,eL,b9⟩:=aie r bh;obtain ⟨ra,-,-,-,-,-,-,adB⟩:=b9.nm;rw [ra,(al0 ..).2.1] at e
     grind
   . rcases cr.1 eO with eO|eO
     . grind
     . obtain ⟨x,bj,rfl⟩:=cd.1 eO;obtain ⟨q,kx,rfl⟩:=cd.1 dg;obtain ⟨fX,l,m,args,ls,ms,st,alb,j,SC,rfl⟩:=al8 aie p8 p2 bj;obtain ⟨wc,J6,F_,J4,Kb,eL,b9⟩:=ak2 q kx;obtain ⟨ra,fc,-⟩:=b9.nm;rw [ra,(al0 ..).2.1] at e;injection e with e;injection e with r4 r5;have:=(aqk q kx).1.1.1;rw [fc] at this;simp only at this;rw [<-r4,<-r5,anQ SC.o.c5] at this
       grind
end
def pk {α:Type} (P:α->Prop):Prop:= ∃b:List α,∀a,P a->a∈b
def pk.mono {α:Type} {P Q:α->Prop} (b:pk Q) (g: ∀x,P x->Q x):pk P:=by
 obtain ⟨a,c⟩:=b;exact ⟨a,ah⟩
def pk.one {α:Type} (a:α):pk (λx=>x=a):=⟨[a],ai⟩
open Classical in
theorem pk.bind {α β:Type} {P:α->Prop} {Q:α->β->Prop} (h:pk P) (g: ∀a,P a->pk (Q a)):pk (λb=> ∃a,P a/\Q a b):=by
 obtain ⟨L,aqK⟩:=h;refine ⟨L.flatMap λa=>if h:P a then (g a h).choose else [],λb dg=> ?_⟩
 grind
def pk.rows {a:Type} {N:List aa->a} {R:List aa->Prop}: ∀(c:List a),(∀y∈c,pk λr=>R r/\N r=y)->pk λrows:Y=>(∀r∈rows,R r)/\rows.map N=c
 | [],_=>⟨[[]],ai⟩
 | y ::c,d=>by
   have e:=d y (dF ..);have f:=pk.rows (N:=N) (R:=R) c ah;refine (e.bind λr _=>f.bind λrows _=>pk.one (r::rows)).mono λrows g=> ?_;obtain ⟨h,b⟩:=g
   cases rows with
   |nil=>cases b
   | cons r rows=>
     grind
def pk.ams (rows:Y):pk λv=>F v rows:=⟨u5 rows,λ_ a=>GB a⟩
def pk.A {P:Y->Prop} (a:pk P):pk λv=> ∃rows,P rows/\F v rows:=a.bind λrows _=>pk.ams rows
mutual
def pk.tree: ∀t:ak1,pk λr=>aN r/\ah2 r=t
 | .n x F y B z C g h=>by have v:=(pk.rows (N:=ah2) (R:=aN) g (pk.trees g)).A;have w:=(pk.rows (N:=ah2) (R:=aN) h (pk.trees h)).A;refine (v.bind λb _=>w.bind λc _=>pk.one [.int .i64 x,.int .i64 F,.str y B,.str z C,b,c]).mono λr s=> ?_;obtain ⟨u,d⟩:=s;obtain ⟨K,L,G,I,H,J,b,c,D,E,a,e,f⟩:=u.ea;rw [ah9 a e f] at d;injection d with i j k l m o p q;refine ⟨b,⟨D,⟨e,p⟩,a.dh⟩,c,⟨E,⟨f,q⟩,a.cq⟩,?_⟩;rw [a.eq,i,j,k,l,m,o]
def pk.trees: ∀l:List ak1,∀t∈l,pk λr=>aN r/\ah2 r=t
 | [],t,a=>by cases a
 | b::l,t,a=>by
   have c:=pk.tree b;have d:=pk.trees l
   grind
end
def pk.an3 (l:List ak1):pk λv=> ∃rows,((∀r∈rows,aN r)/\rows.map ah2=l)/\F v rows:=(pk.rows (N:=ah2) (R:=aN) l (pk.trees l)).A
def pk.aqx (y:ak1×ak1×List ak1×aa×aa):pk λr=>xb r/\alp r=y:=by
 obtain ⟨n,o,m,g,h⟩:=y;refine ((pk.tree n).bind λa _=>(pk.tree o).bind λb _=>(pk.an3 m).bind λd _=>pk.one (a++b++ [d,g,h])).mono λr l=> ?_;obtain ⟨⟨a,b,d,p,q,rfl,e,f,⟨u,k,t,-⟩,-,-⟩,c⟩:=l;rw [amH e.len f.len,bm k] at c;simp only [bz] at c;obtain ⟨i,j,s,rfl,rfl⟩:=c;exact ⟨a,⟨e,i⟩,b,⟨f,j⟩,d,ah,rfl⟩
def pk.cell (y:aa×aa×ak1×aa×aa):pk λr=>iz r/\ak8 r=y:=by
 obtain ⟨g,h,i,b,c⟩:=y;refine ((pk.tree i).bind λa _=>pk.one ([g,h]++a++ [b,c])).mono λr f=> ?_;obtain ⟨⟨l,m,a,j,k,rfl,-,-,e,-,-⟩,d⟩:=f;rw [ami e.len] at d
 grind
def pk.part (y:aa×aa×ak1×List ak1×aa×aa):pk λr=>lG r/\alc r=y:=by
 obtain ⟨k,l,m,j,e,f⟩:=y;refine ((pk.tree m).bind λa _=>(pk.an3 j).bind λc _=>pk.one ([k,l]++a++ [c,e,f])).mono λr i=> ?_;obtain ⟨⟨s,u,a,c,n,o,rfl,-,-,d,⟨t,h,q,-⟩,-,-⟩,b⟩:=i;rw [amN d.len,bm h] at b;simp only [bz] at b;obtain ⟨rfl,rfl,g,p,rfl,rfl⟩:=b;exact ⟨a,⟨d,g⟩,c,ah,rfl⟩
def pk.fresh (y:List ak1):pk λr=>AE r/\(cC r).map ah2=y:=by
 refine ((pk.an3 y).bind λe _=>pk.one [e]).mono λr d=> ?_;obtain ⟨⟨a,rfl,⟨f,c,g,-⟩⟩,b⟩:=d;rw [show cC [a]=f from bm c] at b
 grind
def pk.asa (y:aa×List (aa×aa×ak1×List ak1×aa×aa)×List ak1×List (List ak1)×Y×aa×aa):pk λr=>lI r/\ald r=y:=by
 obtain ⟨o,k,j,l,i,m,n⟩:=y;refine ((pk.rows (N:=alc) (R:=lG) k λh _=>pk.part h).A.bind λe _=>(pk.an3 j).bind λd _=>(pk.rows (N:=λc=>(cC c).map ah2) (R:=AE) l λh _=>pk.fresh h).A.bind λg _=>(pk.ams i).bind λa _=>pk.one [o,e,d,g,a,m,n]).mono λr v=> ?_;obtain ⟨⟨x,e,d,g,a,p,q,rfl,-,⟨F,u,C,-⟩,⟨E,t,B,-⟩,⟨G,w,D,-⟩,⟨z,s,-,-⟩,-,-⟩,b⟩:=v;have b:(x,(f e).map alc,(f d).map ah2,(f g).map (λc=>(cC c).map ah2),f a,p,q)=(o,k,j,l,i,m,n):=b;rw [bm u,bm t,bm w,bm s] at b
 grind
def pk.made (d:List aa) (kN m rop o s n p q r:Y):pk (al5 d kN m rop o s n p q r):=by
 have y:=(pk.rows (N:=alp) (R:=xb) (n.map alp) λa _=>pk.aqx a).A;have B:=(pk.rows (N:=ak8) (R:=iz) (p.map ak8) λa _=>pk.cell a).A;have z:=(pk.rows (N:=ak8) (R:=iz) (q.map ak8) λa _=>pk.cell a).A;have C:=((pk.rows (N:=ald) (R:=lI) (r.map ald) λa _=>pk.asa a).bind λl _=>pk.ams (l++kO p true true rop));refine ((pk.ams kN).bind λh _=>(pk.ams m).bind λb _=>(pk.ams (eZ rop)).bind λg _=>(pk.ams (o.map ct)).bind λc _=>(pk.ams s).bind λi _=>y.bind λj _=>B.bind λf _=>z.bind λe _=>C.bind λk _=>pk.one [M d 0,h,b,g,c,i,j,f,M d 8,e,k,M d 11,M d 12]).mono λW D=> ?_;obtain ⟨h,b,g,c,i,j,f,e,k,T,V,U,l,rfl,⟨t,u,v,w,x⟩,⟨O,I,E⟩,⟨P,J,F⟩,⟨Q,K,G⟩,S,L,H⟩:=D;exact ⟨h,t,b,u,g,v,c,w,i,x,j,ah,f,ah,e,ah,k,ah,rfl⟩
structure oA (kN aw rop ao aJ ahJ p aU ahI:Y):Prop where
  Ii:kN.length+aw.length+rop.length+ao.length+aJ.length<700000
  cP: ∀r∈rop++ao,nk r
  t:bL (eE ahJ p aU ahI) 2500
section
variable {d:List aa} {s:List aa} {kN aw rop ao aJ ahJ p aU ahI:Y} (aX:am8 d s kN aw rop ao aJ ahJ p aU ahI)
include aX
theorem Vh (ba: ∀r∈rop++ao,pA r):bo λad n=> ∀H,Z H->
  ∃b:Bool,(b=true->fz d s kN aw rop ao aJ ahJ p aU ahI/\oA kN aw rop ao aJ ahJ p aU ahI)/\ ∀tm,az G (X G R ad n) 15 [.agg d] H tm= .ok (.bool b) tm H:=by
 obtain ⟨bs,aA⟩:=VJ aX.bT ba;obtain ⟨V,x⟩:bo λad n=>fz d s kN aw rop ao aJ ahJ p aU ahI->(∀H,Z H-> ∃aP,F aP (m1 ahJ p aU ahI)/\ ∀tm,az G (X G R ad n) 34 [.agg d] H tm= .ok aP tm H)/\
   ∀u H,F u (m1 ahJ p aU ahI)->Z H-> ∃b:Bool,(b=true->bL (m1 ahJ p aU ahI) 2500)/\ ∀tm,az G (X G R ad n) 21 [.int .i64 2500,u] H tm= .ok (.bool b) tm H:=by
  by_cases g:fz d s kN aw rop ao aJ ahJ p aU ahI
  . have cb:=K8 ahJ p aU ahI;have:=aX.n1;obtain ⟨V,x⟩:=(VG g).val;obtain ⟨bt,a8⟩:=Jz (m1 ahJ p aU ahI) (YT g) ab;exact ⟨V+bt,λad n bf b4 _=>⟨λH h=>x ad n ab ab H h,λu H br h=>a8 ad n ab ab u 2500 H al br h⟩⟩
  . exact ⟨0,λ_ _ _ _ w=>absurd w g⟩
 have b7:=aX.n1;have b6:=aX.iN;have cg:ahI.length<1048599:=by have:=nV ahI;omega
 obtain ⟨y,aB⟩: ∃y:Prop,y=(fz d s kN aw rop ao aJ ahJ p aU ahI/\oA kN aw rop ao aJ ahJ p aU ahI):=⟨_,rfl⟩;rw [<-aB];obtain ⟨cj,I,bC,cf,bx,bD,ck,cl,aC,⟨bz,bB,rfl,-⟩,K,P,⟨bu,bw,rfl,-⟩,N,q,⟨bE,bG,rfl,-⟩,⟨bK,bN,rfl,-⟩⟩:=aX.eq;obtain ⟨aO,aq,aK,av,aQ,rfl,bO,bP,bR,bS,bU⟩:=aX.bT.eq;rw [aC] at x|-;simp only [bl,a6] at aA x|-;refine ⟨bs+V+1048700,λad n bf b5 H h=>sG ?_⟩;obtain ⟨n,rfl⟩:=bY n;obtain ⟨z,bb,ar⟩:=aA ad n ab ab H h;refine aL.at (m:=58) (rs:= [.tmp 2]) rfl rfl rfl rfl rfl rfl rfl rfl ?_;have Y: ∀ {a},a=H->ak (j9 y) bQ H (.ret (.bool false) a):=λ{a} I=>by subst I;exact ak.mk ⟨false,rfl,λw=>by cases w⟩ rfl h (U.refl _)
 obtain ⟨j,ca⟩: ∃j:Nat,j=ahJ.length+p.length+aU.length+ahI.length:=⟨_,rfl⟩;have ae:IntKind.i64.wrap ((ahJ.length:Int)+(p.length:Int))=(ahJ.length:Int)+(p.length:Int):=wrap64 _ ab ab;have af:IntKind.i64.wrap ((ahJ.length:Int)+(p.length:Int)+(aU.length:Int))=(ahJ.length:Int)+(p.length:Int)+(aU.length:Int):=wrap64 _ ab ab;have ag:IntKind.i64.wrap ((ahJ.length:Int)+(p.length:Int)+(aU.length:Int)+(ahI.length:Int))=(j:Nat):=by rw [wrap64 _ ab ab];omega
 refine ak.bM (λtm a=>H=a/\aM 59 [(1,.W 0 [.str bz bB,aO,aq,aK,av,aQ,I,bC,.str bu bw,bx,bD,.str bE bG,.str bK bN]),(2,.bool false)] tm) ?_ ?_
 . simp only [go_sem,bO.J,bP.J,bR.J,bS.J,bU.J,K.J,P.J,N.J,q.J];exact an.mk ⟨rfl,dC⟩
 rintro tm _ ⟨rfl,hF⟩;refine ak.bF hF (λv tm a=>H=a/\aM 59 [(3,.int .i64 (j:Nat))] tm/\v tm) ?_ ?_
 . simp only [go_sem,hF,K.O,P.O,N.O,q.O,K.len,P.len,N.len,q.len,ae,af,ag];exact an.mk ⟨rfl,ay⟩
 clear hF;rintro tm _ ⟨rfl,hF⟩;by_cases bW:j>400
 . have A:decide ((j:Int)>400)=true:=decide_eq_true ab;simp only [go_sem,hF,A];exact Y rfl
 have A:decide ((j:Int)>400)=false:=decide_eq_false ab
 cases z with
 | false=>
   simp only [go_sem,hF,A,ar];exact Y rfl
 |true=>
 simp only [go_sem,hF,A,ar,q.O,q.len];generalize bZ:a1 _ _ _ _ _ _ _ _ _ _=aS;revert aS;refine cv [1,30] (λs=> [(3,.int .i64 s)]) (λ_=>H) (λT s=>(0<=s/\s<=900)/\(((ahI.take T).map ju).sum:Int)<=s+1*(T:Int)) ahI.length j ⟨⟨ab,ab⟩,ai⟩ ?_ ?_
 . clear hF;rintro T s tm bd ⟨⟨bn,bp⟩,aD⟩ hF;obtain ⟨u,S⟩:=bA bd;have bq:=uu ju S;have bg:=aV S;obtain ⟨ch,aa,aG,aR,E,bV,b,rfl,⟨ah,z,rfl,-⟩,⟨i,C,b9,b8⟩,⟨D,L,b3,b2⟩,⟨l,Q,cd,cc⟩,⟨o,B,b1,b0⟩,⟨aH,rfl⟩,⟨aI,rfl⟩⟩:=aX.bh u bg;have ae:IntKind.i64.wrap ((i.length:Int)+(l.length:Int))=(i.length:Int)+(l.length:Int):=wrap64 _ ab ab;have af:IntKind.i64.wrap ((i.length:Int)+(l.length:Int)+(o.length:Int))=(i.length:Int)+(l.length:Int)+(o.length:Int):=wrap64 _ ab ab;have ag:IntKind.i64.wrap ((i.length:Int)+(l.length:Int)+(o.length:Int)+(D.length:Int))=(i.length:Int)+(l.length:Int)+(o.length:Int)+(D.length:Int):=wrap64 _ ab ab;obtain ⟨t,bk⟩: ∃t:Int,t=s+((i.length:Int)+(l.length:Int)+(o.length:Int)+(D.length:Int)):=⟨_,rfl⟩;have bI:IntKind.i64.wrap (s+((i.length:Int)+(l.length:Int)+(o.length:Int)+(D.length:Int)))=t:=by rw [bk];exact wrap64 _ ab ab
   refine au.np [32,31,1,3,30] (λv tm a=>H=a/\ ∃aN,M tm 5= .W aN [.str ah z,aa,aG,aR,E,.int .i64 aH,.int .i64 aI]/\v tm) ?_ ?_
   . simp only [go_sem,hF,q.O,q.a_ (k:=7) S rfl,C.J,L.J,Q.J,B.J];exact an.mk ⟨rfl,_,by simp only [go_sem,hF];trivial⟩
   clear hF;rintro tm _ ⟨rfl,aN,hF⟩;refine au.np [32,31,1,30] (λv tm a=>H=a/\M tm 3= .int .i64 t/\v tm) ?_ ?_
   . simp only [go_sem,hF,C.len,L.len,Q.len,B.len,C.O,L.O,Q.O,B.O,ae,af,ag,bI];exact an.mk ⟨rfl,ay⟩
   clear hF;rintro tm _ ⟨rfl,hF⟩;simp only [go_sem,hF];refine au.aE ?_ ?_<;>intro ax<;>try simp only [go_sem,ax]
   . exact au.stop rfl (by simp only [go_sem,hF];exact Y rfl)
   . have aY:t<=900:=by simpa using ax
     have bj:ju [.str ah z,aa,aG,aR,E,.int .i64 aH,.int .i64 aI]=1+o.length+i.length:=by show 1+(f E).length+(f aa).length=_;rw [bm B,bm C]
     exact au.next t rfl ⟨⟨ab,aY⟩,by rw [bq,bj];omega⟩ ay
 . clear hF;rintro s tm ⟨⟨bn,bp⟩,aD⟩ hF;rw [bX] at aD;have e:=bb rfl;have g:fz d [aO,aq,aK,av,aQ] kN aw rop ao aJ ahJ p aU ahI:=aX.c (by have:=e.so;have:=e.be;have:=e.op;have:=e.bJ;omega) ab;obtain ⟨aZ,a7⟩:=x ad n ab ab (by have g:=g;rw [aC] at g;exact g);obtain ⟨bH,aF,aT⟩:=aZ H h;obtain ⟨aj,bc,aW⟩:=a7 bH H aF h;simp only [go_sem,hF,aT,aF.O,aW];refine ak.mk (show j9 y (.bool aj) from ⟨aj,rfl,λw=> ?_⟩) rfl h (U.refl _);rw [aB];exact ⟨g,⟨by have:=e.so;have:=e.be;have:=e.op;have:=e.bJ;omega,e.aac,(bc w).perm (Yn ..)⟩⟩
end
def ajh {ad n:Nat} {x y:aa} {A B:Y} (c:F x A) (d:F y B) (w:A.length=B.length) (hlf:A.length<ad) (q: ∀a∈A,aN a) (r: ∀b∈B,aN b) (ae:A.length<4611686018427387904) {H:af} (z:Z H)
    (p: ∀(i:Nat) a b,A[i]? =some a->B[i]? =some b-> ∀tm,az G (X G R ad n) 12 [.agg a,.agg b] H tm= .ok (.bool true) tm H): ∀tm,az G (X G R ad (n+1)) 30 [x,y] H tm= .ok (.bool true) tm H:=by
 refine jQ (aL.at (m:=25) (rs:= [.tmp 4]) rfl rfl rfl rfl rfl (by simp only [aO,c.aD,d.aD];rfl) rfl rfl ?_);have C:(((A.length:Nat):Int) !=((B.length:Nat):Int))=false:=by rw [w];simp
 simp only [go_sem,c.O,c.len,d.O,d.len,C];have hF:=trivial;generalize Q:a1 _ _ _ _ _ _ _ _ _ _=l;revert l;refine dA [0,1] (λ_=>True) A.length trivial ?_ ?_
 . clear hF;rintro g D tm v-hF;obtain ⟨a,e⟩:=bA v;obtain ⟨b,f⟩: ∃b,B[g]? =some b:=⟨B[g]'ab,ai⟩;have h:=q a (aV e);have j:=r b (aV f);have o:=p g a b e f;have s:=c.a_ (k:=6) e h.len;have u:=d.a_ (k:=6) f j.len;obtain ⟨ag,aq,E,I,J,K,av,ax,aj,an,rfl,S,T⟩:=h.t;obtain ⟨ah,ar,L,M,N,P,aw,aA,al,ao,rfl,V,W⟩:=j.t;simp only [go_sem,hF,c.O,d.O,s,u,o];exact au.next () rfl trivial ay
 . rintro D tm-hF;simp only [go_sem,hF];exact ak.mk rfl rfl z (U.refl _)
def ajK {b:List aa} (K:aN b):bo λad n=> ∀a,aN a->ah2 a=ah2 b-> ∀H tm,Z H->az G (X G R ad n) 12 [.agg a,.agg b] H tm= .ok (.bool true) tm H:=by
 induction K with
 | @mk aJ ax aA aD aF aE aG aK aO A B y w x P S=>
 obtain ⟨T,E⟩:=dE (l:=A) (Q:=λe ad n=> ∀a,aN a->ah2 a=ah2 e-> ∀H tm,Z H->az G (X G R ad n) 12 [.agg a,.agg e] H tm= .ok (.bool true) tm H) P;obtain ⟨V,F⟩:=dE (l:=B) (Q:=λe ad n=> ∀a,aN a->ah2 a=ah2 e-> ∀H tm,Z H->az G (X G R ad n) 12 [.agg a,.agg e] H tm= .ok (.bool true) tm H) S;have hT:=ah9 y w x;obtain ⟨rfl,-,-,-,-,t,u,av,aw⟩:=y;refine ⟨T+V+A.length+B.length+2,λad n ar au a I s H tm f=> ?_⟩;obtain ⟨n,rfl⟩: ∃W,n=W+1+1:=⟨n-2,ab⟩;obtain ⟨ay,aH,al,an,ao,aq,aM,aP,aB,aC,k,o,p⟩:=I.ea;rw [hT,ah9 k o p] at s;simp only [ak1.n.injEq] at s;obtain ⟨rfl,rfl,rfl,rfl,rfl,rfl,ai,aj⟩:=s;have z: ∀ {i j:Y},i.map ah2=j.map ah2->(i.length=j.length)/\ ∀(d:Nat) a b,i[d]? =some a->j[d]? =some b->ah2 a=ah2 b:=λ{i j} v=>⟨by simpa using congrArg List.length v,λd e aI M L=>by have:=congrArg (·[d]?) v;simp only [hO,M,L,jV,N] at this;exact this⟩;obtain ⟨ae,af⟩:=z ai;obtain ⟨ag,ah⟩:=z aj;obtain ⟨rfl,q,r⟩:=k.c;have C:=ajh q t ae (ad:=ad) (n:=n) ab o w k.zm f λd a b g h tm=>E ad n ab ab b (aV h) a (o a (aV g)) (af d a b g h) H tm f;have D:=ajh r u ag (ad:=ad) (n:=n) ab p x k.Kn f λd a b g h tm=>F ad n ab ab b (aV h) a (p a (aV g)) (ah d a b g h) H tm f;refine jQ (aL.at (m:=43) (rs:= [.tmp 4]) rfl rfl rfl rfl rfl rfl rfl rfl ?_) tm;simp only [go_sem,t.J,u.J,q.J,r.J,t.O,u.O,q.O,r.O,beq_self_eq_true,tu,C,D];exact ak.mk rfl rfl f (U.refl _)
set_option maxHeartbeats 2000000
def an7 (B:Y) (ad n:Nat):Prop:= ∀c∈B,∀b,aN b->ah2 b=ah2 c-> ∀a d,Z a->az G (X G R ad n) 12 [.agg b,.agg c] a d= .ok (.bool true) d a
structure amp {α:Type} (N:List aa->α) (R:List aa->Prop) (x y:aa) (A B:Y):Prop where
  x:F x A
  y:F y B
  e:A.map N=B.map N
  a: ∀r∈A,R r
  b: ∀r∈B,R r
  l:A.length<1048560
def amp.anM {α:Type} {N:List aa->α} {R:List aa->Prop} {x y:aa} {A B:Y} (a:amp N R x y A B):A.length=B.length:=alr a.e
section
variable {D:Y} {ad K:Nat} (aja: ∀n,K<=n->an7 D ad n) (hlf:1048570<=ad)
include aja hlf
theorem anK {x y:aa} {A B:Y} (c:amp ah2 aN x y A B) (k: ∀b∈B,b∈D) {n:Nat} (o:K+1<=n) {H:af} (i:Z H): ∀tm,az G (X G R ad n) 30 [x,y] H tm= .ok (.bool true) tm H:=by obtain ⟨n,rfl⟩:=bY n;refine ajh c.x c.y c.anM (by have:=c.l;omega) c.a c.b (by have:=c.l;omega) i λp d b f g tm=> ?_;obtain ⟨m,h,j⟩:=alD c.e f;rw [g] at h;cases h;exact aja n ab b (k b (aV g)) d (c.a d (aV f)) j H tm i
theorem aps {x y:aa} {A B:Y} (c:amp ak8 iz x y A B) (S: ∀b∈B,dQ b∈D) {n:Nat} (ao:K+1<=n) {H:af} (u:Z H): ∀tm,az G (X G R ad n) 70 [x,y] H tm= .ok (.bool true) tm H:=by
 obtain ⟨n,rfl⟩:=bY n;have d:=c.x;have f:=c.y;have an:=c.l;refine jQ (aL.at (m:=53) (rs:= [.tmp 4]) rfl rfl rfl rfl rfl (by simp only [aO,d.aD,f.aD];rfl) rfl rfl ?_);have V:(((A.length:Nat):Int) !=((B.length:Nat):Int))=false:=by rw [c.anM];simp
 simp only [go_sem,d.O,d.len,f.O,f.len,V];have hF:=trivial;generalize al:a1 _ _ _ _ _ _ _ _ _ _=w;revert w;refine dA [0,1] (λ_=>True) A.length trivial ?_ ?_
 . clear hF;rintro aE W tm T-hF;obtain ⟨z,g⟩:=bA T;obtain ⟨b,h,j⟩:=alD c.e g;have s:=S b (aV h);obtain ⟨J,L,v,q,r,rfl,⟨C,F,rfl,-⟩,⟨E,I,rfl,-⟩,o,⟨q,rfl⟩,⟨r,rfl⟩⟩:=c.a z (aV g);obtain ⟨J,L,i,M,N,rfl,⟨ae,ah,rfl,-⟩,⟨ag,aj,rfl,-⟩,p,⟨M,rfl⟩,⟨N,rfl⟩⟩:=c.b b (aV h);rw [ami o.len,ami p.len] at j;simp only [bz,aa.str.injEq,aa.int.injEq,true_and] at j;obtain ⟨⟨rfl,rfl⟩,⟨rfl,rfl⟩,Q,rfl,rfl⟩:=j;rw [show dQ ([.str C F,.str E I]++i++ [.int .i64 q,.int .i64 r])=i by unfold dQ;rw [fu,qh ai];simp [p.len]] at s;have P:=aja n ab i s v o Q H;obtain ⟨aP,aR,ax,aA,aB,aC,aW,aT,aM,aJ,rfl,ar,aq⟩:=o.t;obtain ⟨aQ,aS,aF,aG,aH,aI,aX,aU,aN,aK,rfl,aw,av⟩:=p.t;simp only [bl,a6] at g h;simp only [go_sem,hF,d.O,f.O,d.a_ (k:=10) g rfl,f.a_ (k:=10) h rfl,P _ u,beq_self_eq_true,tu,alI];exact au.next () rfl trivial ay
 . rintro W tm-hF;simp only [go_sem,hF];exact ak.mk rfl rfl u (U.refl _)
theorem aq3 {r q:List aa} (bN:lI r) (bM:lI q) (ao:ald r=ald q) (v: ∀b∈pf q,b∈D) {n:Nat} (cx:K+2<=n) {H:af} (F:Z H): ∀tm,az G (X G R ad n) 71 [.agg r,.agg q] H tm= .ok (.bool true) tm H:=by
 obtain ⟨n,rfl⟩:=bY n;obtain ⟨cK,aY,av,bb,aI,cm,b,rfl,⟨P,Q,rfl,cA⟩,⟨aA,g,bK,cy⟩,⟨aT,V,bI,bH⟩,⟨aB,h,bO,cD⟩,⟨aK,f,bG,cr⟩,⟨ae,rfl⟩,⟨ag,rfl⟩⟩:=bN;obtain ⟨cL,aZ,aw,bc,aJ,cn,cp,rfl,⟨aE,aF,rfl,cB⟩,⟨a7,i,bL,cz⟩,⟨aU,C,bJ,cw⟩,⟨bd,j,bP,cE⟩,⟨bs,o,cv,ct⟩,⟨aW,rfl⟩,⟨aX,rfl⟩⟩:=bM;rw [LA i C j] at v;have aN:ald [.str P Q,aY,av,bb,aI,.int .i64 ae,.int .i64 ag]=(.str P Q,aA.map alc,aT.map ah2,aB.map (λal=>(cC al).map ah2),aK,.int .i64 ae,.int .i64 ag):=by rw [<-bm g,<-bm V,<-bm h,<-bm f];rfl
 have aO:ald [.str aE aF,aZ,aw,bc,aJ,.int .i64 aW,.int .i64 aX]=(.str aE aF,a7.map alc,aU.map ah2,bd.map (λal=>(cC al).map ah2),bs,.int .i64 aW,.int .i64 aX):=by rw [<-bm i,<-bm C,<-bm j,<-bm o];rfl
 rw [aN,aO] at ao;simp only [bz,aa.str.injEq,aa.int.injEq,true_and] at ao;obtain ⟨⟨rfl,rfl⟩,aP,bB,aQ,rfl,rfl,rfl⟩:=ao;clear aN aO;have cf:(((aA.length:Nat):Int) !=((a7.length:Nat):Int))=false:=by rw [alr aP];simp
 have cg:(((aB.length:Nat):Int) !=((bd.length:Nat):Int))=false:=by rw [alr aQ];simp
 have bu:=anK aja hlf (x:=av) (y:=aw) (A:=aT) (B:=aU) ⟨V,C,bB,bI,bJ,bH⟩ (λb z=>v b (by simp [z])) (n:=n) ab F;refine jQ (aL.at (m:=129) (rs:= [.tmp 4]) rfl rfl rfl rfl rfl rfl rfl rfl ?_);have hF:=trivial;refine ak.np [] (λe tm c=>H=c/\aM 131 [(2,.W 0 [.str P Q,aY,av,bb,aI,.int .i64 ae,.int .i64 ag]),(3,.W 0 [.str P Q,aZ,aw,bc,aJ,.int .i64 ae,.int .i64 ag])] tm) ?_ ?_
 . simp only [go_sem,g.J,V.J,h.J,f.J,i.J,C.J,j.J,o.J];exact an.mk ⟨rfl,dC⟩
 clear hF;rintro tm _ ⟨rfl,hF⟩;refine ak.bF hF (λe tm c=>H=c/\e tm) ?_ ?_
 . simp only [go_sem,hF,g.O,V.O,h.O,f.O,i.O,C.O,j.O,o.O,g.len,i.len,h.len,j.len,f.len,o.len,cf,cg,bu,beq_self_eq_true,tu,alI,bne_self_eq_false];exact an.mk ⟨rfl,ay⟩
 clear hF;rintro tm _ ⟨rfl,hF⟩;refine ak.bF hF (λe tm c=>H=c/\e tm) ?_ ?_
 . simp only [go_sem,hF,g.O,g.len];generalize aS:a1 _ _ _ _ _ _ _ _ _ _=u;revert u;refine dA [2,3,51] (λ_=>True) aA.length trivial ?_ ?_
   . clear hF;rintro ax L tm E-hF;obtain ⟨N,a⟩:=bA E;obtain ⟨d,p,l⟩:=alD aP a;have s:=aV p;have aR:dd d∈D:=v _ (by simp;exact .inl ⟨d,s,rfl⟩);have w: ∀b∈cu d,b∈D:=λb z=>v _ (h7 _ (hP _ (hP _ (kD.2 ⟨cu d,cd.2 ⟨d,s,rfl⟩,z⟩))));obtain ⟨bq,br,bo,bh,aC,aD,rfl,⟨bf,bj,rfl,-⟩,⟨bg,bk,rfl,-⟩,aq,⟨b2,Y,bQ,bR⟩,⟨aC,rfl⟩,⟨aD,rfl⟩⟩:=bK N (aV a);obtain ⟨bq,br,bp,bn,ck,cl,rfl,⟨cO,cQ,rfl,-⟩,⟨cP,cR,rfl,-⟩,S,⟨b3,I,bW,cF⟩,⟨ck,rfl⟩,⟨cl,rfl⟩⟩:=bL d s;rw [amN aq.len,amN S.len,bm Y,bm I] at l;simp only [bz,aa.str.injEq,aa.int.injEq,true_and] at l;obtain ⟨⟨rfl,rfl⟩,⟨rfl,rfl⟩,bw,bx,rfl,rfl⟩:=l;rw [zy S.len] at aR;rw [zz S.len,bm I] at w;have bt:=λtm=>aja n ab bp aR bo aq bw H tm F;have aj:=anK aja hlf (x:=bh) (y:=bn) (A:=b2) (B:=b3) ⟨Y,I,bx,bQ,bW,bR⟩ w (n:=n) ab F;obtain ⟨b8,ca,bX,bZ,b0,b1,ch,q,cI,cG,rfl,bT,bS⟩:=aq.t;obtain ⟨b9,cb,b4,b5,b6,b7,cj,cc,cJ,cH,rfl,bV,bU⟩:=S.t;simp only [bl,a6] at a p;refine au.np [53,52,2,3,51] (λe tm c=>H=c/\ ∃a8,M tm 5= .int .i64 (ax:Nat)/\M tm 6= .W a8 [.str bf bj,.str bg bk,.int .i64 b8,.int .i64 ca,.str bX bZ,.str b0 b1,ch,q,bh,.int .i64 aC,.int .i64 aD]/\e tm) ?_ ?_
     . simp only [go_sem,hF,g.O,g.a_ (k:=11) a rfl,bT.J,bS.J,Y.J];exact an.mk ⟨rfl,_,by simp only [go_sem,hF];trivial⟩
     clear hF;rintro tm _ ⟨rfl,a8,hF⟩;refine au.np [53,52,2,3,51,6] (λe tm c=>H=c/\ ∃ba,M tm 7= .W ba [.str bf bj,.str bg bk,.int .i64 b9,.int .i64 cb,.str b4 b5,.str b6 b7,cj,cc,bn,.int .i64 aC,.int .i64 aD]/\e tm) ?_ ?_
     . simp only [go_sem,hF,i.O,i.a_ (k:=11) p rfl,bV.J,bU.J,I.J];exact an.mk ⟨rfl,_,by simp only [go_sem,hF];trivial⟩
     clear hF;rintro tm _ ⟨rfl,ba,hF⟩;simp only [go_sem,hF,Y.O,I.O,bt,aj,beq_self_eq_true,tu,alI];exact au.next () rfl trivial ay
   . rintro L tm-hF;simp only [go_sem];exact an.mk ⟨rfl,ay⟩
 clear hF;rintro tm _ ⟨rfl,hF⟩;refine ak.bF hF (λe tm c=>H=c/\e tm) ?_ ?_
 . simp only [go_sem,hF,h.O,h.len];generalize aS:a1 _ _ _ _ _ _ _ _ _ _=u;revert u;refine dA [2,3] (λ_=>True) aB.length trivial ?_ ?_
   . clear hF;rintro ax L tm E-hF;obtain ⟨N,a⟩:=bA E;obtain ⟨d,p,l⟩:=alD aQ a;have s:=aV p;have w: ∀b∈cC d,b∈D:=λb z=>v _ (h7 _ (h7 _ (kD.2 ⟨cC d,cd.2 ⟨d,s,rfl⟩,z⟩)));obtain ⟨aH,rfl,⟨aG,ar,bD,bC⟩⟩:=bO N (aV a);obtain ⟨ai,rfl,⟨ah,T,bE,cq⟩⟩:=bP d s;rw [show cC [aH]=aG from bm ar,show cC [ai]=ah from bm T] at l;rw [show cC [ai]=ah from bm T] at w;have aj:=anK aja hlf (x:=aH) (y:=ai) (A:=aG) (B:=ah) ⟨ar,T,l,bD,bE,bC⟩ w (n:=n) ab F;simp only [go_sem,hF,h.O,j.O,h.a_ (k:=1) a rfl,j.a_ (k:=1) p rfl,ar.O,T.O,aj];exact au.next () rfl trivial ay
   . rintro L tm-hF;simp only [go_sem];exact an.mk ⟨rfl,ay⟩
 clear hF;rintro tm _ ⟨rfl,hF⟩;simp only [go_sem,hF,f.O,f.len];generalize aS:a1 _ _ _ _ _ _ _ _ _ _=u;revert u;refine dA [2,3] (λ_=>True) aK.length trivial ?_ ?_
 . clear hF;rintro ax L tm E-hF;obtain ⟨N,a⟩:=bA E;obtain ⟨cM,cN,rfl,-⟩:=bG N (aV a);simp only [go_sem,hF,f.O,o.O,f.a_ (k:=1) a rfl,o.a_ (k:=1) a rfl,beq_self_eq_true,tu,alI];exact au.next () rfl trivial ay
 . rintro L tm-hF;simp only [go_sem,hF];exact ak.mk rfl rfl F (U.refl _)
end
@[go_sem] theorem asI {α:Type} (a:α) (l r:List α):List.append (a::l) r=a::List.append l r:=rfl
@[go_sem] theorem asJ {α:Type} (r:List α):List.append [] r=r:=rfl
def anp (a b:List aa) (ahJ p aU ahI:Y):Prop:= ∃m n i j v w B C x c r g z y d s h A e o k t f q l u D E F G,(a= [.str m n,x,c,r,g,z,e,o,.str i j,k,t,.str v w,.str B C]/\b= [.str m n,y,d,s,h,A,f,q,.str i j,l,u,.str v w,.str B C])/\
 (∃N H L M I J O,aoT [x,c,r,g,z] [y,d,s,h,A] N H L M I J O)/\amp alp xb e f D ahJ/\amp ak8 iz o q E p/\amp ak8 iz k l F aU/\amp ald lI t u G ahI
section
variable {ahJ p aU ahI:Y} {ad K:Nat} (aja: ∀n,K<=n->an7 (eE ahJ p aU ahI) ad n) (hlf:1048570<=ad)
include aja hlf
theorem aq2 {a b:List aa} (a7:anp a b ahJ p aU ahI) {n:Nat} (cx:K+5<=n) {H:af} (f:Z H): ∀tm,az G (X G R ad n) 37 [.agg a,.agg b] H tm= .ok (.bool true) tm H:=by
 obtain ⟨n,rfl⟩: ∃bM,n=bM+5:=⟨n-5,ab⟩;obtain ⟨aA,aB,aw,ax,aD,aE,aF,aG,b5,aN,bR,aY,cc,b6,aO,bS,aZ,cd,aP,bP,bK,b1,aQ,bQ,bL,b2,ae,cf,cg,ag,⟨rfl,rfl⟩,⟨df,da,dd,de,db,dc,dg,al⟩,c,v,u,d⟩:=a7;have aT:=aqZ al (ad:=ad) (n:=n) hlf f;have aX:=aps aja hlf v (λb q=>Wu (hP _ q)) (n:=n+4) ab f;have aW:=aps aja hlf u (λb q=>Wu (h7 _ q)) (n:=n+4) ab f;obtain ⟨dh,cm,c8,cr,dm,di,cn,c9,ct,dn,⟨bX,bY⟩,⟨a8,ba,-⟩,⟨bb,bc,-⟩,⟨bd,bf,-⟩,⟨bg,bh,-⟩,⟨bj,bk,-⟩⟩:=al;cases bX;cases bY;have bZ:(((ae.length:Nat):Int) !=((ahJ.length:Nat):Int))=false:=by rw [c.anM];simp
 have b0:(((ag.length:Nat):Int) !=((ahI.length:Nat):Int))=false:=by rw [d.anM];simp
 have cU:=c.l;have cV:=d.l;refine jQ (aL.at (m:=136) (rs:= [.tmp 4]) rfl rfl rfl rfl rfl rfl rfl rfl ?_);have hF:=trivial;refine ak.np [] (λi tm h=>H=h/\aM 138 [(2,.W 0 [.str aA aB,b5,aN,bR,aY,cc,aP,bP,.str aw ax,bK,b1,.str aD aE,.str aF aG]),(3,.W 0 [.str aA aB,b6,aO,bS,aZ,cd,aQ,bQ,.str aw ax,bL,b2,.str aD aE,.str aF aG])] tm) ?_ ?_
 . simp only [go_sem,a8.J,bb.J,bd.J,bg.J,bj.J,ba.J,bc.J,bf.J,bh.J,bk.J,c.x.J,c.y.J,v.x.J,v.y.J,u.x.J,u.y.J,d.x.J,d.y.J];exact an.mk ⟨rfl,dC⟩
 clear hF;rintro tm _ ⟨rfl,hF⟩;refine ak.bF hF (λi tm h=>H=h/\i tm) ?_ ?_
 . simp only [go_sem,hF,c.x.O,c.y.O,v.x.O,v.y.O,u.x.O,u.y.O,d.x.O,d.y.O,c.x.len,c.y.len,d.x.len,d.y.len,bZ,b0,aT,aX,aW,beq_self_eq_true,tu,alI];exact an.mk ⟨rfl,ay⟩
 clear hF;rintro tm _ ⟨rfl,hF⟩;refine ak.bF hF (λi tm h=>H=h/\i tm) ?_ ?_
 . simp only [go_sem,hF,c.x.O,c.x.len];generalize bn:a1 _ _ _ _ _ _ _ _ _ _=D;revert D;refine dA [2,3,77] (λ_=>True) ae.length trivial ?_ ?_
   . clear hF;rintro av T tm P-hF;obtain ⟨Y,g⟩:=bA P;obtain ⟨C,j,o⟩:=alD c.e g;have w:=aV j;have z: ∀V∈eo C,V∈eE ahJ p aU ahI:=λV Q=>Wv w Q;obtain ⟨aH,aJ,S,a,b,rfl,F,L,⟨b3,r,bp,bo⟩,⟨a,rfl⟩,⟨b,rfl⟩⟩:=c.a Y (aV g);obtain ⟨aI,aK,ar,ah,aj,rfl,I,N,⟨b4,s,bq,cw⟩,⟨ah,rfl⟩,⟨aj,rfl⟩⟩:=c.b C w;rw [amH F.len L.len,amH I.len N.len,bm r,bm s] at o;simp only [bz,aa.int.injEq,true_and] at o;obtain ⟨b8,b9,b7,rfl,rfl⟩:=o;rw [xO I.len N.len,bm s] at z;have E:=λtm=>aja (n+4) ab aI (z _ ai) aH F b8 H tm f;have aR:=λtm=>aja (n+4) ab aK (z _ ai) aJ L b9 H tm f;have aS:=anK aja hlf (x:=S) (y:=ar) (A:=b3) (B:=b4) ⟨r,s,b7,bp,bq,bo⟩ (λb q=>z _ (by simp [q])) (n:=n+4) ab f;obtain ⟨bI,bN,bw,bx,bB,bC,ca,bV,cK,cI,rfl,bs,br⟩:=F.t;obtain ⟨bJ,bO,bD,bE,bG,bH,cb,bW,cL,cJ,rfl,bu,bt⟩:=L.t;obtain ⟨cP,c7,cQ,cR,cS,cT,dj,bT,cM,cG,rfl,cF,cE⟩:=I.t;obtain ⟨cO,c6,cW,cX,cY,cZ,dk,bU,cN,cH,rfl,cD,cC⟩:=N.t;simp only [bl,a6] at g j;refine au.np [79,78,2,3,77] (λi tm h=>H=h/\ ∃aC,M tm 5= .int .i64 (av:Nat)/\M tm 6= .W aC [.int .i64 bI,.int .i64 bN,.str bw bx,.str bB bC,ca,bV,.int .i64 bJ,.int .i64 bO,.str bD bE,.str bG bH,cb,bW,S,.int .i64 a,.int .i64 b]/\i tm) ?_ ?_
     . simp only [go_sem,hF,c.x.O,c.x.a_ (k:=15) g rfl,bs.J,br.J,bu.J,bt.J,r.J];exact an.mk ⟨rfl,_,by simp only [go_sem,hF];trivial⟩
     clear hF;rintro tm _ ⟨rfl,aC,hF⟩;simp only [go_sem,hF,c.y.O,c.y.a_ (k:=15) j rfl,r.O,s.O,E,aR,aS,beq_self_eq_true,alI];exact au.next () rfl trivial ay
   . rintro T tm-hF;simp only [go_sem];exact an.mk ⟨rfl,ay⟩
 clear hF;rintro tm _ ⟨rfl,hF⟩;simp only [go_sem,hF,d.x.O,d.x.len];generalize bn:a1 _ _ _ _ _ _ _ _ _ _=D;revert D;refine dA [2,3] (λ_=>True) ag.length trivial ?_ ?_
 . clear hF;rintro av T tm P-hF;obtain ⟨Y,g⟩:=bA P;obtain ⟨C,j,o⟩:=alD d.e g;have w:=aV j;have ao:=d.a Y (aV g);have aq:=d.b C w;have E:=aq3 aja hlf ao aq o (λV Q=>Ww w Q) (n:=n+4) ab f;obtain ⟨c4,bT,S,dp,cp,a,b,rfl,⟨ch,ck,rfl,-⟩,⟨_,cy,-⟩,⟨_,r,-⟩,⟨_,cA,-⟩,⟨_,cu,-⟩,⟨c0,rfl⟩,⟨c2,rfl⟩⟩:=ao;obtain ⟨c5,bU,ar,dq,cq,ah,aj,rfl,⟨cj,cl,rfl,-⟩,⟨_,cz,-⟩,⟨_,s,-⟩,⟨_,cB,-⟩,⟨_,cv,-⟩,⟨c1,rfl⟩,⟨c3,rfl⟩⟩:=aq;simp only [go_sem,hF,d.x.O,d.y.O,d.x.a_ (k:=7) g rfl,d.y.a_ (k:=7) j rfl,E];exact au.next () rfl trivial ay
 . rintro T tm-hF;simp only [go_sem,hF];exact ak.mk rfl rfl f (U.refl _)
theorem aqY {a b:List aa} (bb:anp a b ahJ p aU ahI) {n:Nat} (c0:K+6<=n) {H:af} (bj:Z H): ∀tm,az G (X G R ad n) 18 [.agg a,.agg b] H tm= .ok (.bool true) tm H:=by
 obtain ⟨n,rfl⟩:=bY n;have b0:=aq2 aja hlf bb (n:=n) ab bj;obtain ⟨bp,bq,bn,bo,bx,bB,bC,bD,cF,bS,cx,b2,cH,cG,bT,cy,b3,cI,ai,cv,cq,cC,bZ,cw,cr,cD,bH,bI,bJ,bK,⟨rfl,rfl⟩,⟨dR,dK,dP,dQ,dL,dM,dS,cl⟩,j,q,o,r⟩:=bb;obtain ⟨dT,cW,dE,cY,dX,dU,cX,dF,cZ,dY,⟨cA,cB⟩,⟨b4,b5,-⟩,⟨b6,b7,-⟩,⟨b8,b9,-⟩,⟨ca,cb,-⟩,⟨cc,cd,-⟩⟩:=cl;cases cA;cases cB;have dq:=j.l;have ds:=q.l;have dr:=o.l;have dt:=r.l;refine jQ (aL.at (m:=160) (rs:= [.tmp 4]) rfl rfl rfl rfl rfl rfl rfl rfl ?_);have hF:=trivial;refine ak.np [] (λd tm c=>H=c/\aM 162 [(2,.W 0 [.str bp bq,cF,bS,cx,b2,cH,ai,cv,.str bn bo,cq,cC,.str bx bB,.str bC bD]),(3,.W 0 [.str bp bq,cG,bT,cy,b3,cI,bZ,cw,.str bn bo,cr,cD,.str bx bB,.str bC bD])] tm) ?_ ?_
 . simp only [go_sem,b4.J,b6.J,b8.J,ca.J,cc.J,b5.J,b7.J,b9.J,cb.J,cd.J,j.x.J,j.y.J,q.x.J,q.y.J,o.x.J,o.y.J,r.x.J,r.y.J];exact an.mk ⟨rfl,dC⟩
 clear hF;rintro tm _ ⟨rfl,hF⟩;refine ak.bF hF (λd tm c=>H=c/\d tm) ?_ ?_
 . simp only [go_sem,hF,b0];exact an.mk ⟨rfl,ay⟩
 clear hF;rintro tm _ ⟨rfl,hF⟩;refine ak.bF hF (λd tm c=>H=c/\d tm) ?_ ?_
 . simp only [go_sem,hF,j.x.O,j.x.len];generalize ar:a1 _ _ _ _ _ _ _ _ _ _=u;revert u;refine dA [2,3,21] (λ_=>True) bH.length trivial ?_ ?_
   . clear hF;rintro F P tm w-hF;obtain ⟨v,f⟩:=bA w;obtain ⟨h,i,g⟩:=alD j.e f;obtain ⟨bN,cU,aN,a,b,rfl,ao,bf,⟨dN,aJ,-⟩,⟨a,rfl⟩,⟨b,rfl⟩⟩:=j.a v (aV f);obtain ⟨cS,cV,bk,aZ,a7,rfl,bc,bg,⟨dO,bh,-⟩,⟨aZ,rfl⟩,⟨a7,rfl⟩⟩:=j.b h (aV i);rw [amH ao.len bf.len,amH bc.len bg.len] at g;simp only [bz,aa.int.injEq,true_and] at g;obtain ⟨-,-,-,rfl,rfl⟩:=g;obtain ⟨I,L,B,C,D,E,Q,N,aT,aR,rfl,A,z⟩:=ao.t;obtain ⟨aB,aC,aO,aq,aP,aQ,aE,aD,aW,aS,rfl,aA,ax⟩:=bf.t;obtain ⟨dj,dD,dk,dm,dn,dp,dV,br,dg,de,rfl,db,da⟩:=bc.t;obtain ⟨di,dB,du,dv,dw,dx,dW,bs,dh,df,rfl,c4,c3⟩:=bg.t;simp only [bl,a6] at f i;refine au.np [23,22,2,3,21] (λd tm c=>H=c/\ ∃s,M tm 5= .int .i64 (F:Nat)/\M tm 6= .W s [.int .i64 I,.int .i64 L,.str B C,.str D E,Q,N,.int .i64 aB,.int .i64 aC,.str aO aq,.str aP aQ,aE,aD,aN,.int .i64 a,.int .i64 b]/\d tm) ?_ ?_
     . simp only [go_sem,hF,j.x.O,j.x.a_ (k:=15) f rfl,A.J,z.J,aA.J,ax.J,aJ.J];exact an.mk ⟨rfl,_,by simp only [go_sem,hF];trivial⟩
     clear hF;rintro tm _ ⟨rfl,s,hF⟩;simp only [go_sem,hF,j.y.O,j.y.a_ (k:=15) i rfl,bne_self_eq_false];exact au.next () rfl trivial ay
   . rintro P tm-hF;simp only [go_sem];exact an.mk ⟨rfl,ay⟩
 clear hF;rintro tm _ ⟨rfl,hF⟩;refine ak.bF hF (λd tm c=>H=c/\d tm) ?_ ?_
 . simp only [go_sem,hF,q.x.O,q.x.len];generalize ar:a1 _ _ _ _ _ _ _ _ _ _=u;revert u;refine dA [2,3,50] (λ_=>True) bI.length trivial ?_ ?_
   . clear hF;rintro F P tm w-hF;obtain ⟨v,f⟩:=bA w;obtain ⟨h,i,g⟩:=alD q.e f;obtain ⟨aF,aG,bL,ag,ah,rfl,⟨T,Y,rfl,-⟩,⟨V,ae,rfl,-⟩,aj,⟨ag,rfl⟩,⟨ah,rfl⟩⟩:=q.a v (aV f);obtain ⟨aF,aG,bM,aH,aI,rfl,⟨bO,bQ,rfl,-⟩,⟨bP,bR,rfl,-⟩,al,⟨aH,rfl⟩,⟨aI,rfl⟩⟩:=q.b h (aV i);rw [ami aj.len,ami al.len] at g;simp only [bz,aa.str.injEq,aa.int.injEq,true_and] at g;obtain ⟨-,-,-,rfl,rfl⟩:=g;obtain ⟨I,L,B,C,D,E,Q,N,aT,aR,rfl,A,z⟩:=aj.t;obtain ⟨aB,aC,aO,aq,aP,aQ,aE,aD,aW,aS,rfl,aA,ax⟩:=al.t;simp only [bl,a6] at f i;refine au.np [52,51,2,3,50] (λd tm c=>H=c/\ ∃s,M tm 7= .int .i64 (F:Nat)/\M tm 8= .W s [.str T Y,.str V ae,.int .i64 I,.int .i64 L,.str B C,.str D E,Q,N,.int .i64 ag,.int .i64 ah]/\d tm) ?_ ?_
     . simp only [go_sem,hF,q.x.O,q.x.a_ (k:=10) f rfl,A.J,z.J];exact an.mk ⟨rfl,_,by simp only [go_sem,hF];trivial⟩
     clear hF;rintro tm _ ⟨rfl,s,hF⟩;simp only [go_sem,hF,q.y.O,q.y.a_ (k:=10) i rfl,bne_self_eq_false];exact au.next () rfl trivial ay
   . rintro P tm-hF;simp only [go_sem];exact an.mk ⟨rfl,ay⟩
 clear hF;rintro tm _ ⟨rfl,hF⟩;refine ak.bF hF (λd tm c=>H=c/\d tm) ?_ ?_
 . simp only [go_sem,hF,o.x.O,o.x.len];generalize ar:a1 _ _ _ _ _ _ _ _ _ _=u;revert u;refine dA [2,3,79] (λ_=>True) bJ.length trivial ?_ ?_
   . clear hF;rintro F P tm w-hF;obtain ⟨v,f⟩:=bA w;obtain ⟨h,i,g⟩:=alD o.e f;obtain ⟨aF,aG,bL,ag,ah,rfl,⟨T,Y,rfl,-⟩,⟨V,ae,rfl,-⟩,aj,⟨ag,rfl⟩,⟨ah,rfl⟩⟩:=o.a v (aV f);obtain ⟨aF,aG,bM,aH,aI,rfl,⟨bO,bQ,rfl,-⟩,⟨bP,bR,rfl,-⟩,al,⟨aH,rfl⟩,⟨aI,rfl⟩⟩:=o.b h (aV i);rw [ami aj.len,ami al.len] at g;simp only [bz,aa.str.injEq,aa.int.injEq,true_and] at g;obtain ⟨-,-,-,rfl,rfl⟩:=g;obtain ⟨I,L,B,C,D,E,Q,N,aT,aR,rfl,A,z⟩:=aj.t;obtain ⟨aB,aC,aO,aq,aP,aQ,aE,aD,aW,aS,rfl,aA,ax⟩:=al.t;simp only [bl,a6] at f i;refine au.np [81,80,2,3,79] (λd tm c=>H=c/\ ∃s,M tm 9= .int .i64 (F:Nat)/\M tm 10= .W s [.str T Y,.str V ae,.int .i64 I,.int .i64 L,.str B C,.str D E,Q,N,.int .i64 ag,.int .i64 ah]/\d tm) ?_ ?_
     . simp only [go_sem,hF,o.x.O,o.x.a_ (k:=10) f rfl,A.J,z.J];exact an.mk ⟨rfl,_,by simp only [go_sem,hF];trivial⟩
     clear hF;rintro tm _ ⟨rfl,s,hF⟩;simp only [go_sem,hF,o.y.O,o.y.a_ (k:=10) i rfl,bne_self_eq_false];exact au.next () rfl trivial ay
   . rintro P tm-hF;simp only [go_sem];exact an.mk ⟨rfl,ay⟩
 clear hF;rintro tm _ ⟨rfl,hF⟩;simp only [go_sem,hF,r.x.O,r.x.len];generalize ar:a1 _ _ _ _ _ _ _ _ _ _=u;revert u;refine dA [3,108] (λ_=>True) bK.length trivial ?_ ?_
 . clear hF;rintro F P tm w-hF;obtain ⟨v,f⟩:=bA w;obtain ⟨h,i,g⟩:=alD r.e f;obtain ⟨dy,br,aN,cJ,bW,a,b,rfl,⟨T,Y,rfl,-⟩,⟨bt,S,cj,c1⟩,⟨_,aJ,-⟩,⟨_,cm,-⟩,⟨_,cf,-⟩,⟨aX,rfl⟩,⟨aY,rfl⟩⟩:=r.a v (aV f);obtain ⟨dz,bs,bk,cK,bX,aZ,a7,rfl,⟨V,ae,rfl,-⟩,⟨cz,av,ck,c2⟩,⟨_,bh,-⟩,⟨_,cn,-⟩,⟨_,cg,-⟩,⟨ct,rfl⟩,⟨cu,rfl⟩⟩:=r.b h (aV i);have b1:bt.map alc=cz.map alc:=by have:=congrArg (λh=>h.2.1) g;rw [<-bm S,<-bm av];exact this
   have a8:aa.int .i64 aX= .int .i64 ct:=congrArg (λh=>h.2.2.2.2.2.1) g;have ba:aa.int .i64 aY= .int .i64 cu:=congrArg (λh=>h.2.2.2.2.2.2) g;simp only [aa.int.injEq,true_and] at a8 ba;subst a8 ba;refine au.np [110,109,3,108] (λd tm c=>H=c/\ ∃s,M tm 11= .int .i64 (F:Nat)/\M tm 12= .W s [.str T Y,br,aN,cJ,bW,.int .i64 aX,.int .i64 aY]/\d tm) ?_ ?_
   . simp only [go_sem,hF,r.x.O,r.x.a_ (k:=7) f rfl,S.J,aJ.J,cm.J,cf.J];exact an.mk ⟨rfl,_,by simp only [go_sem,hF];trivial⟩
   clear hF;rintro tm _ ⟨rfl,s,hF⟩;refine au.np [110,109,3,108,12] (λd tm c=>H=c/\ ∃bu,M tm 13= .W bu [.str V ae,bs,bk,cK,bX,.int .i64 aX,.int .i64 aY]/\d tm) ?_ ?_
   . simp only [go_sem,hF,r.y.O,r.y.a_ (k:=7) i rfl,av.J,bh.J,cn.J,cg.J];exact an.mk ⟨rfl,_,by simp only [go_sem,hF];trivial⟩
   clear hF;rintro tm _ ⟨rfl,bu,hF⟩;refine au.np [110,109,3,108,12,13] (λd tm c=>H=c/\d tm) ?_ ?_
   . simp only [go_sem,hF,bne_self_eq_false];exact an.mk ⟨rfl,ay⟩
   clear hF;rintro tm _ ⟨rfl,hF⟩;simp only [go_sem,hF,S.O,S.len];generalize ar:a1 _ _ _ _ _ _ _ _ _ _=u;revert u;refine dA [110,109,3,108,13,133] (λ_=>True) bt.length trivial ?_ ?_
   . clear hF;rintro aq cE tm ch-hF;obtain ⟨v,aw⟩:=bA ch;obtain ⟨h,aK,ai⟩:=alD b1 aw;obtain ⟨bU,bV,bN,cN,bE,bG,rfl,⟨cL,cO,rfl,-⟩,⟨cM,cP,rfl,-⟩,ao,⟨dc,cp,c5,c6⟩,⟨bE,rfl⟩,⟨bG,rfl⟩⟩:=cj v (aV aw);obtain ⟨bU,bV,cT,ed,cQ,cR,rfl,⟨dZ,eb,rfl,-⟩,⟨ea,ec,rfl,-⟩,bd,⟨dd,c7,c8,c9⟩,⟨cQ,rfl⟩,⟨cR,rfl⟩⟩:=ck h (aV aK);rw [amN ao.len,amN bd.len] at ai;simp only [bz,aa.str.injEq,aa.int.injEq,true_and] at ai;obtain ⟨-,-,-,-,rfl,rfl⟩:=ai;obtain ⟨I,L,B,C,D,E,Q,N,aT,aR,rfl,A,z⟩:=ao.t;obtain ⟨aB,aC,dG,dH,dI,dJ,aE,aD,aW,aS,rfl,aA,ax⟩:=bd.t;simp only [bl,a6] at aw aK;refine au.np [135,134,110,109,3,108,13,133] (λd tm c=>H=c/\ ∃bw,M tm 14= .int .i64 (aq:Nat)/\M tm 15= .W bw [.str cL cO,.str cM cP,.int .i64 I,.int .i64 L,.str B C,.str D E,Q,N,cN,.int .i64 bE,.int .i64 bG]/\d tm) ?_ ?_
     . simp only [go_sem,hF,S.O,S.a_ (k:=11) aw rfl,A.J,z.J,cp.J];exact an.mk ⟨rfl,_,by simp only [go_sem,hF];trivial⟩
     clear hF;rintro tm _ ⟨rfl,bw,hF⟩;simp only [go_sem,hF,av.O,av.a_ (k:=11) aK rfl,bne_self_eq_false];exact au.next () rfl trivial ay
   . rintro cE tm-hF;simp only [go_sem];exact au.next () rfl trivial ay
 . rintro P tm-hF;simp only [go_sem,hF];exact ak.mk rfl rfl bj (U.refl _)
end
end Go.aj
