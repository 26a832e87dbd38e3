/- A part of the proof. -/
import Derived.KernelRfl
import Derived.Test.YtiodgpibgiodcaaGreatDoorP00
import Derived.Test.YtiodgpibgiodcaaGreatDoorP01
import Derived.Test.YtiodgpibgiodcaaGreatDoorP07
import Derived.Test.YtiodgpibgiodcaaGreatDoorP10
set_option linter.all false
set_option maxHeartbeats 4000000
namespace Go.aj
open Go Go.Proofs.Tryz
set_option maxRecDepth 100000
abbrev mq (H:af) (b:aa) (g d:Nat) (l:List (Nat×Nat)):af:=(H.push (.cells (q 22) (q 22) 0 [b])).push (.cells g d 0 (l.map λa:Nat×Nat=>aa.str a.1 a.2))
structure Aw (K:Nat->List (Nat×Nat)->af) (id g:Nat):Prop where
  get: ∀d L,(K d L).get id=some (.cells g d 0 (L.map λp:Nat×Nat=>aa.str p.1 p.2))
  set: ∀d L ov,(K d L).set id (.cells g g 0 (ov.map λp:Nat×Nat=>aa.str p.1 p.2))=K g ov
def Ps (H:af) (a:aa) (g:Nat):Aw (λd L=>mq H a g d L) (H.n+1) g:=by
 exact ⟨λd L=>vo _ _ _,λd L b=>o_ (H.push _) _ _⟩
def u4 {K id g} (b:Aw K id g) {d:Nat} {L:List (Nat×Nat)} {off i j n:Nat} {p:Nat×Nat} (c:L[j]? =some p) (k:d<=g) (e:off+i=j) (l:i<n):
    ∃ q,kA 1 (.ref id g off 1 n false) (.int .i64 (i:Nat))=some q/\(∀t,O t q=q)/\fh q=true/\(∀tm,jY 1 false (gq tm (K d L) q)=some (.str p.1 p.2))/\
      ∀(w:Nat×Nat) tm,hf 1 q [.str w.1 w.2] tm (K d L)= .ok (.av []) tm (K g (L.set j w)):=by
 have o:=(e6.1 c).1;have m:kA 1 (.ref id g off 1 n false) (.int .i64 (i:Nat))=some (.ptr id g (off+i*1) (off+i*1+1)):=by show (if 1=1/\i<n then _ else _)=_;rw [if_pos ⟨rfl,l⟩]
 refine ⟨_,m,λ_=>rfl,rfl,λtm=> ?_,λw tm=> ?_⟩
 . show (match (match (K d L).get id with|some (.cells _ f _ a)=>if f<=g then some (a,off+i*1,off+i*1+1) else none|_=>none) with|some (a,off,r)=>(match Nat.ble (off+1) r with|true=>a[off]? |false=>none)|none=>none)=_;rw [b.get];simp only [if_pos k];have:Nat.ble (off+i*1+1) (off+i*1+1)=true:=h_ (aT _);rw [this,tG,e];simp [c]
 . have h:cB (L.map λp:Nat×Nat=>aa.str p.1 p.2) (off+i*1) [.str w.1 w.2]=some ((L.set j w).map λp:Nat×Nat=>aa.str p.1 p.2):=by unfold cB;rw [tG,e,if_pos da];congr 1;rw [List.map_set,List.set_eq_take_append_cons_drop,if_pos (by simpa using o)];simp
   rw [Mj,if_pos ⟨rfl,rfl⟩,b.get,Mk,if_pos ⟨rfl,fV _,aT _⟩,h];simp only [b.set]
def Gz {id g off n:Nat} {k:Nat} (c:k<n):fG 1 (.ref id g off 1 n false) (some (.int .i64 (k:Nat))) none none=some (.ref id g (off+k) 1 (n-k) false):=by
 show (if k<=n/\n<=n/\(false=true->n=n) then (if k=n/\0<k then some (aa.A [] false) else bC (off+k*1) λb=>bC (n-k) λn=>some (.ref id g b 1 n false)) else none)=_;rw [if_pos ⟨ab,aT _,λa=>by cases a⟩,if_neg ab];simp only [c1,tG]
def PG {id g n:Nat} {k:Nat} (b:k<=n) (d:0<n):fG 1 (.ref id g 0 1 n false) none (some (.int .i64 (k:Nat))) none=some (.ref id g 0 1 k false):=by
 show (if 0<=k/\k<=n/\(false=true->k=n) then (if 0=n/\0<0 then some (aa.A [] false) else bC (0+0*1) λc=>bC (k-0) λn=>some (.ref id g c 1 n false)) else none)=_;rw [if_pos ⟨fV _,b,λa=>by cases a⟩,if_neg ab];simp only [c1,tG,Nat.add_zero,Nat.sub_zero]
def PF {K id g} (c:Aw K id g) {d:Nat} {L:List (Nat×Nat)} {k n:Nat} (o:k+n=L.length) (p:0<n):
    oH G 22 (.ref id g (0+k) 1 n false) (K d L)=some (.av [],K g (L.take k++List.replicate n (0,0))):=by
 obtain ⟨a,rfl⟩:=bY n;have j:aW G 22=some (.slice 9):=aq;have l:bN G 9=some (.str 0 0):=aq;have i:bZ G 9=some 1:=aq;have h:cB (L.map λb:Nat×Nat=>aa.str b.1 b.2) (0+k) (List.replicate (a+1) (aa.str 0 0).cells).flatten=some ((L.take k++List.replicate (a+1) (0,0)).map λb:Nat×Nat=>aa.str b.1 b.2):=by
  have f:(List.replicate (a+1) (aa.str 0 0).cells).flatten=List.replicate (a+1) (aa.str 0 0):=by
   show (List.replicate (a+1) [aa.str 0 0]).flatten=_
   induction a+1 with
   |zero=>rfl
   |succ n m=>rw [rI,iJ,m];rfl
  unfold cB;rw [f,gH,if_pos da];simp only [List.length_replicate,vR,List.map_take,List.map_replicate];rw [tv da,fw]
 have e:Nat.beq (a+1) 0=false:=rfl;simp only [oH,j,e,i,l,c.get];rw [if_pos ⟨trivial,trivial,fV _,rfl,rfl⟩,h];simp only [bu,c8,c.set]
def Un {ad n:Nat} (H:af) (tm:List aa):az G (X G R ad (n+1)) 253 [.V] H tm= .ok .V tm H:=by
 have d: ∃b a,(b= .V/\a=H)/\ ∀tm,az G (X G R ad (n+1)) 253 [.V] H tm= .ok b tm a:=by refine bn.at (Q:=λb a=>b= .V/\a=H) (m:=60) (rs:= [.tmp 2]) rfl rfl rfl rfl rfl rfl rfl rfl ?_;simp only [go_sem];exact bn.mk ⟨rfl,ft (aT _)⟩
 obtain ⟨_,_,⟨rfl,rfl⟩,c⟩:=d;exact c tm
@[go_sem] theorem acW (a b H):cT G 22 1 [(0,.str a b)] H=some (.A [[.str a b]] true,H):=aq
@[go_sem] theorem acX (a b c d H):cT G 22 2 [(0,.str a b),(1,.str c d)] H=some (.A [[.str a b],[.str c d]] true,H):=aq
@[go_sem] theorem acY (a b c d e f H):cT G 22 3 [(0,.str a b),(1,.str c d),(2,.str e f)] H=some (.A [[.str a b],[.str c d],[.str e f]] true,H):=aq
def nx {α:Type}:List (Nat×Nat×α)->α->Nat->Nat->α
 | [],a,_,_=>a
 |(d,e,f)::t,a,b,c=>if b==d&&c==e then f else nx t a b c
def dc {α:Type} {a b x t} {d:α} {l m:Nat} (c:(l==a&&m==b)=true):nx ((a,b,x)::t) d l m=x:=by rw [nx,if_pos c]
theorem db {α:Type} {a b x t} {d:α} {l m:Nat} (c:(l==a&&m==b)=false):nx ((a,b,x)::t) d l m=nx t d l m:=by rw [nx,c];rfl
def Bq {α:Type} (P:α->Prop) (d:α) (l m:Nat) (a:P d): ∀t:List (Nat×Nat×α),(∀r∈t,P r.2.2)->P (nx t d l m)
 | [],_=>a
 | (b,c,f)::t,e=>by
   rw [nx];split
   . simp_all
   . exact Bq P d l m a t ah
def akt {a:List aa} {k:Nat} {v:aa} {tm:List aa} (b:r a k v=tm) (c:k<a.length):M tm k=v:=by rw [<-b,vn];simp [c]
def q5 (l m:Nat):Y:=nx [(3,6579297,[[.str 3 7630409],[.str 3 7630409]]),(3,6452595,[[.str 3 7630409],[.str 3 7630409]]),(3,7107949,[[.str 3 7630409],[.str 3 7630409]]),(3,7760228,[[.str 3 7630409],[.str 3 7630409]]),(3,6582125,[[.str 3 7630409],[.str 3 7630409]]),(2,29804,[[.str 3 7630409],[.str 3 7630409]]),(2,25964,[[.str 3 7630409],[.str 3 7630409]]),(2,29799,[[.str 3 7630409],[.str 3 7630409]]),(2,25959,[[.str 3 7630409],[.str 3 7630409]]),(3,6776174,[[.str 3 7630409]]),(4,1954047348,[[.str 3 7630409]]),(2,29029,[[.str 3 7958081],[.str 3 7958081]]),(2,25966,[[.str 3 7958081],[.str 3 7958081]]),(3,6581857,[[.str 4 1819242306],[.str 4 1819242306]]),(2,29295,[[.str 4 1819242306],[.str 4 1819242306]]),(3,7630702,[[.str 4 1819242306]]),(4,1801677168,[[.str 4 1819242306],[.str 3 7958081],[.str 3 7958081]]),(3,7627107,[[.str 4 1954047316],[.str 4 1954047316]]),(6,114849160783212,[[.str 4 1953720652]]),(4,1852403562,[[.str 4 1953720652],[.str 4 1953720652]]),(3,7628135,[[.str 3 7364941],[.str 3 7958081]]),(3,7561576,[[.str 3 7364941],[.str 3 7958081]]),(3,7103844,[[.str 3 7364941],[.str 3 7958081]]),(3,7632240,[[.str 3 7364941],[.str 3 7958081],[.str 3 7958081]]),(4,1937335659,[[.str 3 7364941]]),(4,1702521203,[[.str 3 7364941]]),(2,29545,[[.str 3 7958081],[.str 4 1954047316]])] [[.str 3 7958081]] l m
def pd (l m:Nat):Nat×Nat:=nx [(3,6579297,(3,7630409)),(3,6452595,(3,7630409)),(3,7107949,(3,7630409)),(3,7760228,(3,7630409)),(3,6582125,(3,7630409)),(3,6776174,(3,7630409)),(6,114849160783212,(3,7630409)),(4,1702521203,(3,7630409)),(3,7627107,(4,1954047316)),(4,1954047348,(4,1954047316)),(4,1852403562,(4,1953720652)),(4,1937335659,(4,1953720652)),(3,7632240,(3,7364941)),(3,7103844,(3,7364941)),(4,1801677168,(3,7958081)),(3,7628135,(3,7958081))] (4,1819242306) l m
theorem U9 (l m:Nat):K 304 [.str l m] (.A (q5 l m) true):=by
 refine C.run (m:=57) rfl rfl rfl rfl rfl rfl rfl rfl 0 λj k h i g d=> ?_;unfold q5;simp only [go_sem]
 iterate 27
  generalize hT:r _ _ _=f;have hF:M f 3= .str l m:=aY;have c:f.length=58:=aY;have b:=akt hT (by simp only [go_sem, *]);clear hT;refine e.aE ?_ ?_<;>intro a
  . rw [dc a];simp only [go_sem,c,b,a];exact e.mk rfl d (U.refl _)
  rw [db a];simp only [go_sem,hF,c,b,a]
 exact e.mk rfl d (U.refl _)
def Ou (l m:Nat):b8 (q5 l m)/\(q5 l m).length<=3:=by
 unfold q5;refine Bq (λc=>b8 c/\c.length<=3) _ l m ?_ _ λb a=> ?_
 . exact ⟨λb a=>by obtain rfl:=bs.1 a;exact ⟨_,_,rfl,by unfold T;decide,al⟩,al⟩
 . simp only [b2,dG,or_false] at a;rcases a with rfl|rfl|rfl|rfl|rfl|rfl|rfl|rfl|rfl|rfl|rfl|rfl|rfl|rfl|rfl|rfl|rfl|rfl|rfl|rfl|rfl|rfl|rfl|rfl|rfl|rfl|rfl
   all_goals
    refine ⟨λb a=> ?_,al⟩;simp only [b2,dG,or_false] at a;rcases a with rfl|rfl|rfl<;>exact ⟨_,_,rfl,by unfold T;decide,al⟩
theorem VH (l m:Nat):K 305 [.str l m] (.str (pd l m).1 (pd l m).2):=by
 refine C.run (m:=24) rfl rfl rfl rfl rfl rfl rfl rfl 0 λj k h i g d=> ?_;unfold pd;simp only [go_sem]
 iterate 16
  generalize hT:r _ _ _=f;have hF:M f 3= .str l m:=aY;have c:f.length=25:=aY;have b:=akt hT (by simp only [go_sem, *]);clear hT;refine e.aE ?_ ?_<;>intro a
  . rw [dc a];simp only [go_sem,c,b,a];exact e.mk rfl d (U.refl _)
  rw [db a];simp only [go_sem,hF,c,b,a]
 exact e.mk rfl d (U.refl _)
def Y6 (l m:Nat):T (pd l m).1 (pd l m).2/\(pd l m).1<=4:=by
 unfold pd;refine Bq (λa:Nat×Nat=>T a.1 a.2/\a.1<=4) _ l m ⟨by unfold T;decide,al⟩ _ λc b=> ?_;simp only [b2,dG,or_false] at b;rcases b with rfl|rfl|rfl|rfl|rfl|rfl|rfl|rfl|rfl|rfl|rfl|rfl|rfl|rfl|rfl|rfl
 all_goals exact ⟨by unfold T;decide,al⟩
def uT (l m:Nat):Bool:=q7.any (isStr l m)
def sF (l m:Nat):List aa:=if uT l m then [.str l m,.A (q5 l m) true,.str (pd l m).1 (pd l m).2,.V,.int .i64 0,.int .i64 0,.V] else Aq
def Gd (l m:Nat) (d:T l m) (c:l<4611686018427387904):c6 (sF l m):=by
 unfold sF;split
 . have a:=Ou l m;have b:=Y6 l m;exact ⟨_,_,q5 l m,_,_,[],⟨⟨_,_,_,_,_,rfl,.inr ⟨_,rfl⟩,.inl ⟨rfl,rfl⟩,[],.inl ⟨rfl,rfl⟩,al,λ_ ag=>by cases ag⟩,d,b.1,c,ab,a.1,ab,λ_ ag=>(by cases ag),al⟩⟩
 . exact NJ
def VL (l m:Nat):K 242 [.str l m] (.av [.agg (sF l m),.bool (uT l m)]):=by
 obtain ⟨k,c⟩:=Dq l m;obtain ⟨n,h⟩:=U9 l m;obtain ⟨o,i⟩:=VH l m;refine C.run (m:=13) rfl rfl rfl rfl rfl rfl rfl rfl (k+n+o) λf g p q b d=> ?_;have c: ∀a,az G (X G R f g) 179 [.str l m] b a= .ok (.bool (uT l m)) a b:=λa=>c f g ab ab b a d;have h:=λa=>h f g ab ab b a d;have i:=λa=>i f g ab ab b a d;unfold sF;cases j:uT l m<;>rw [j] at c
 . simp only [go_sem,c];exact e.mk rfl d (U.refl _)
 . simp only [go_sem,c,h,i];exact e.mk rfl d (U.refl _)
@[go_sem] theorem agZ (E:Env) (tm H a t u v):gp E [.cell a t,.tmp u,.tmp v] tm H=(match dW E t (O a (M tm a)) tm H with
  |some w=>(if aD w&&(aD (M tm u)&&aD (M tm v)) then .ret (.av [w,M tm u,M tm v]) H else .fail)
  |none=> .fail):=by
 simp only [gp,hU,lx,Er];cases dW E t (O a (M tm a)) tm H<;>simp
def GA (rop ao:Y) (l m:Nat):Bool:=j0 rop l m||j0 ao l m||uT l m
def mr (rop ao:Y) (l m:Nat):List aa:=if j0 rop l m then iQ rop l m else if j0 ao l m then iQ ao l m else sF l m
def Bl {rop ao:Y} (a: ∀r∈rop,c6 r) (b: ∀r∈ao,c6 r) (l m:Nat) (d:T l m) (c:l<4611686018427387904):c6 (mr rop ao l m):=by
 unfold mr;split
 . exact qA a l m
 . split
   . exact qA b l m
   . exact Gd l m d c
def zU (kN rop ao:Y) (k:Int) (l1 m1 l2 m2:Nat):Nat×Nat:=if k=1 then (3,7630409) else if k=2 then (4,1819242306) else if k=3 then (4,1954047316) else if k=4 then (2,25673) else if k=7 then (4,1953720652) else if k=8 then (3,7364941) else
 if k=5 then (match mr rop ao l1 m1 with
  |_::_:: .str a b::_=>(a,b)
  |_=>(0,0)) else if my kN l2 m2 then (l2,m2) else (0,0)
section
variable {ax:aa} {s:List aa} {kN aw rop ao aJ:Y} (ag:dO ax s kN aw rop ao aJ)
include ag
theorem Dr (l m:Nat) (O:T l m) (B:l<4611686018427387904):K 165 [ax,.str l m] (.av [.agg (mr rop ao l m),.bool (!(j0 rop l m)),.bool (GA rop ao l m)]):=by
 obtain ⟨X,b⟩:=(MO ag).c (l,m) trivial;obtain ⟨Y,f⟩:=(MN ag).c (l,m) trivial;obtain ⟨Z,q⟩:=VL l m;obtain ⟨x,aV,aB,-⟩:=ag.val;have ay:=qA ag.bT.op l m;have az:=qA ag.bT.cP l m;have aA:=Gd l m O B;refine C.run (m:=28) rfl rfl rfl rfl rfl (by simp only [aO,aB];rfl) rfl rfl (X+Y+Z) λv w B aK p d=> ?_;have b:=λj=>b v w ab ab p j d;have f:=λj=>f v w ab ab p j d;have q:=λj=>q v w ab ab p j d;unfold mr GA;generalize iQ rop l m=aP at*;generalize iQ ao l m=aQ at*;generalize sF l m=aR at*;obtain ⟨ad,ak,aC,ah,aq,aS,⟨⟨y,E,H,P,S,rfl,g,i,⟨aL,h,-⟩⟩,-⟩⟩:=ay;obtain ⟨ae,al,aD,ai,ar,aT,⟨⟨z,F,I,Q,V,rfl,k,o,⟨aM,n,-⟩⟩,-⟩⟩:=az;obtain ⟨af,an,aE,aj,au,aU,⟨⟨A,G,L,R,W,rfl,r,u,⟨aN,t,-⟩⟩,-⟩⟩:=aA;have aF: ∀a,D (a+1) y=true/\D (a+1) H=true/\D (a+1) E=true:=λa=>⟨g.aI a,i.aI a,h.aI a⟩;have aG: ∀a,D (a+1) z=true/\D (a+1) I=true/\D (a+1) F=true:=λa=>⟨k.aI a,o.aI a,n.aI a⟩;have aH: ∀a,D (a+1) A=true/\D (a+1) L=true/\D (a+1) G=true:=λa=>⟨r.aI a,u.aI a,t.aI a⟩;cases M:j0 rop l m<;>rw [M] at b
 . cases N:j0 ao l m<;>rw [N] at f
   . simp only [go_sem,x,b,f,q,g.J,i.J,h.J,k.J,o.J,n.J,r.J,u.J,t.J];exact e.mk (by show (([aa.str af an,A,.str aj au,G,.int .i64 R,.int .i64 W,L]:List aa).all (D 18)&&_)=true;rw [vj r u t];rfl) d (U.refl _)
   . simp only [go_sem,x,b,f,g.J,i.J,h.J,k.J,o.J,n.J];exact e.mk (by show (([aa.str ae al,z,.str ai ar,F,.int .i64 Q,.int .i64 V,I]:List aa).all (D 18)&&_)=true;rw [vj k o n];rfl) d (U.refl _)
 . simp only [go_sem,x,b,g.J,i.J,h.J];exact e.mk (by show (([aa.str ad ak,y,.str ah aq,E,.int .i64 P,.int .i64 S,H]:List aa).all (D 18)&&_)=true;rw [vj g i h];rfl) d (U.refl _)
theorem U2 {r k n l1 m1 l2 m2 y z ky i} (a:kX r k n l1 m1 l2 m2 y z ky i):K 87 [ax,.agg r] (.str (zU kN rop ao k l1 m1 l2 m2).1 (zU kN rop ao k l1 m1 l2 m2).2):=by
 obtain ⟨D,g⟩:=Dr ag l1 m1 a.c5 a.s1;obtain ⟨E,h⟩:=I_ ag l2 m2;obtain ⟨F,Y,G,-⟩:=ag.val;have v:=Bl ag.bT.op ag.bT.cP l1 m1 a.c5 a.s1;refine C.run (m:=39) rfl rfl rfl rfl rfl (by simp only [aO,G];rfl) rfl rfl (D+E) λo p I L b j=> ?_;have g:=λl=>g o p ab ab b l j;have h:=λl=>h o p ab ab b l j;obtain ⟨rfl,A,B⟩:=a.c;unfold zU;generalize mr rop ao l1 m1=S at*;obtain ⟨O,Q,H,P,R,X,⟨⟨d,T,W,M,N,rfl,u,x,⟨V,w,-⟩⟩,-⟩⟩:=v;have q: ∀ {d f:Nat×Nat},d=f->e (.str d.1 d.2) b (.ret (.str f.1 f.2) b):=λag=>by subst ag;exact e.mk rfl j (U.refl _)
 simp only [go_sem,A.J,B.J]
 iterate 8 all_goals try (refine e.aE ?_ ?_<;>intro t<;>simp only [go_sem,t,F,g,h,u.J,x.J,w.J])
 all_goals exact @q _ (_,_) de
def eh (kN rop ao:Y) (x:List aa):Nat×Nat:=match x with
 | [.int _ a,_,.str b d,.str c e,_,_]=>zU kN rop ao a b d c e
 |_=>(0,0)
theorem v_ {x} (a:aN x):K 87 [ax,.agg x] (.str (eh kN rop ao x).1 (eh kN rop ao x).2):=by obtain ⟨f,i,b,d,c,e,j,k,g,h,a,-,-⟩:=a.ea;have:=U2 ag a;obtain ⟨rfl,-⟩:=a;exact this
end
section
variable {ax:aa} {s:List aa} {kN aw rop ao aJ:Y} (ag:dO ax s kN aw rop ao aJ)
include ag
omit ag in
abbrev ru (ax:aa) (H:af) (b:Bool):af:=(H.push (.cells (q 65) (q 65) 0 [ax])).push (.cells (q 4) (q 4) 0 [.bool b])
theorem Iw {H:af} (a:Z H) (b:Bool):Z (ru ax H b):=(a.push (by show [ax].all _=true;simp only [aO,ag.val.2.2.2.2.1];rfl)).push rfl
end
def fA (v:aa):Prop:= ∃(a:Int) (d e:Nat) (b c:Int),v= .iface 78 (.agg [.int .i64 a,.str d e,.int .i64 b,.int .i64 c])/\a≠0
theorem fA.aI {v} (a:fA v) (d:Nat):D (d+3) v=true:=by obtain ⟨e,f,g,b,c,rfl,-⟩:=a;rfl
def dP (H:af) (c:aa) (d:List aa) (ax:aa):Prop:= ∃id a b e,c= .ptr id a 0 14/\H.get id=some (.cells a b e (d++ [ax]))/\b<=a/\d.length=13
def dP.up {H H':af} {c d ax} (ag:dP H c d ax) (h:H.l.length=H.n) (i:U H H'):dP H' c d ax:=by
 obtain ⟨id,b,a,j,e,f,g⟩:=ag;exact ⟨id,b,a,j,e,i.get h f,g⟩
def abt (c:Int) (f:c≠0):su G R 109 (λ_:Nat×Nat×Int×Int=>True) (λp=> [.int .i64 c,.str p.1 p.2.1,.int .i64 p.2.2.1,.int .i64 p.2.2.2]) (λp=> .iface 78 (.agg [.int .i64 c,.str p.1 p.2.1,.int .i64 p.2.2.1,.int .i64 p.2.2.2])):=by
 refine su.run (m:=10) rfl rfl rfl rfl (λ_=>rfl) (λ_ _=>rfl) rfl rfl 0 λj l g h a _ d b=> ?_;obtain ⟨i,k,a,e⟩:=a;simp only [go_sem];exact q3.mk rfl b (U.refl _)
def abu (c:Int) (g:c≠0):su G R 63 (λ_:Nat×Nat×Int×Int=>True) (λp=> [.agg [.int .i64 p.2.2.1,.int .i64 p.2.2.2],.int .i64 c,.str p.1 p.2.1]) (λp=> .iface 78 (.agg [.int .i64 c,.str p.1 p.2.1,.int .i64 p.2.2.1,.int .i64 p.2.2.2])):=by
 obtain ⟨h,a⟩:=abt c g;refine su.run (m:=10) rfl rfl rfl rfl (λ_=>rfl) (λ_ _=>rfl) rfl rfl h λj l o q b _ e d=> ?_;obtain ⟨i,k,b,f⟩:=b;have a:=λn=>a j l ab ab (i,k,b,f) trivial e n d;simp only at a;simp only [go_sem,a];exact q3.mk rfl d (U.refl _)
def gu (c:Int) (f:c≠0):bo λad n=> ∀(l m:Nat) (a b:Int) H tm,Z H->az G (X G R ad n) 63 [.agg [.int .i64 a,.int .i64 b],.int .i64 c,.str l m] H tm= .aK (.iface 78 (.agg [.int .i64 c,.str l m,.int .i64 a,.int .i64 b])) H:=by
 obtain ⟨h,ag⟩:=abu c f;exact ⟨h,λad n d e l m a b H tm g=>ag ad n d e (l,m,a,b) trivial H tm g⟩
def lO (c:Int) (d:c≠0) (l m:Nat) (a b:Int):fA (.iface 78 (.agg [.int .i64 c,.str l m,.int .i64 a,.int .i64 b])):=⟨c,l,m,a,b,rfl,d⟩
def ra (l m:Nat):Bool:=l==0&&m==0
def ah3 (k v:Int) (l1 m1 l2 m2 n:Nat):Bool:=
 if k=1 then (n:Int)==0&&(aiW v||v==0||v==1)&&ra l1 m1&&ra l2 m2 else if k=2 then (n:Int)==0&&(v==0||v==1)&&ra l1 m1&&ra l2 m2 else
 if k=3 then (n:Int)==0&&aiE l1 m1&&v==0&&ra l2 m2 else if k=4 then (n:Int)==0&&aiv l1 m1&&v==0&&ra l2 m2 else
 if k=5 then ajb l1 m1&&decide ((n:Int)<=8)&&v==0&&ra l2 m2 else if k=7 then v==0&&ra l1 m1&&ra l2 m2 else if k=8 then (n:Int).tmod 2==0&&v==0&&ra l1 m1&&ra l2 m2 else false
inductive ak1
  |n (k v:Int) (l1 m1 l2 m2:Nat) (ky i:List ak1)
inductive aic:List aa->ak1->Prop
  |mk {r k v l1 m1 l2 m2 y z ky i} {ty tz:List ak1} (h:kX r k v l1 m1 l2 m2 y z ky i) (afG:ky.length=ty.length) (afH:i.length=tz.length) (dh: ∀(i:Nat) x t,ky[i]? =some x->ty[i]? =some t->aic x t) (cq: ∀(apm:Nat) x t,i[apm]? =some x->tz[apm]? =some t->aic x t):aic r (.n k v l1 m1 l2 m2 ty tz)
def aN.iU {r} (b:aN r): ∃t,aic r t:=by
 induction b with
 | @mk r s n u w v x y z k l b _ _ p q=>
   classical
   let d:List aa->ak1:=λa=>if c: ∃t,aic a t then Classical.choose c else .n 0 0 0 0 0 0 [] []
   have i: ∀a∈k++l,aic a (d a):=λa c=>by have b: ∃t,aic a t:=(cr.1 c).elim (p a) (q a);have m:d a=Classical.choose b:=dif_pos b;rw [m];exact Classical.choose_spec b
   have j: ∀e:Y,(∀a∈e,aic a (d a))-> ∀(f:Nat) a t,e[f]? =some a->(e.map d)[f]? =some t->aic a t:=λe o f a t g h=>by rw [hO,g] at h;cases h;exact o a (aV g)
   exact ⟨_,.mk (ty:=k.map d) (tz:=l.map d) b ai ai (j _ λa c=>i a (hP _ c)) (j _ λa c=>i a (h7 _ c))⟩
def aic.uniq {r t} (e:aic r t): ∀ {c},aic r c->t=c:=by
 induction e with
 | @mk r z N F H G I P R B D J L e p s _ _ n o=>
   intro c g
   cases g with
   | @mk _ A O _ _ _ _ Q S C E K M g q u l m=>
     have j:=e.eq.symm.trans g.eq;simp only [jn,aa.int.injEq,aa.str.injEq,and_true,true_and] at j;obtain ⟨rfl,rfl,⟨rfl,rfl⟩,⟨rfl,rfl⟩,rfl,rfl⟩:=j;obtain rfl:=qe e.dh g.dh;obtain rfl:=qe e.cq g.cq;have k: ∀ {h:Y} {b d:List ak1},h.length=b.length->h.length=d.length->(∀(a:Nat) f t,h[a]? =some f->b[a]? =some t-> ∀ {c},d[a]? =some c->t=c)->b=d:=λ{h b d} x y e=>by refine List.ext_getElem ab λa v w=> ?_;exact e a (h[a]'ab) b[a] ai ai ai
     rw [k p q λa f t b d {c} i=>n a f t b d (l a f c b i),k s u λa f t b d {c} i=>o a f t b d (m a f c b i)]
open Classical in
noncomputable def ah2 (r:List aa):ak1:=if h: ∃t,aic r t then h.choose else .n 0 0 0 0 0 0 [] []
def aN.tree {r} (a:aN r):aic r (ah2 r):=by
 have b:ah2 r=a.iU.choose:=dif_pos a.iU;rw [b];exact a.iU.choose_spec
def ah9 {r k n l1 m1 l2 m2 y z ky i} (f:kX r k n l1 m1 l2 m2 y z ky i) (g: ∀x∈ky,aN x) (h: ∀x∈i,aN x):ah2 r= .n k n l1 m1 l2 m2 (ky.map ah2) (i.map ah2):=by
 have j: ∀a:Y,(∀x∈a,aN x)-> ∀(b:Nat) x c,a[b]? =some x->(a.map ah2)[b]? =some c->aic x c:=λa l b x c d e=>by rw [hO,d] at e;cases e;exact (l x (aV d)).tree
 exact (aN.mk f g h).tree.uniq (.mk f ai ai (j _ g) (j _ h))
abbrev o1 (H:af) (a:Int) (b:Bool):af:=H.push (.cells (q 201) (q 201) 0 [.int .i64 a,.bool b])
def tT {rows:Y} {j:Nat} {r x:List aa} (b:rows[j]? =some r) (a:x∈rows.take (j+1)):x∈rows.take j\/x=r:=by
 rw [fg,b] at a;simpa using a
def e1.uniq {r n} (ag:e1 r n): ∀ {m},e1 r m->n=m:=by
 induction ag with
 | @mk r v n B F D H K M x z p ag t u l o=>
 intro m d
 cases d with
 | @mk _ w J C G E I L N y A q d j k=>
 obtain ⟨rfl,f,g⟩:=ag.c;obtain ⟨e,-,-,-,-,h,i,-,-⟩:=d;simp only [jn,aa.int.injEq,aa.str.injEq,and_true,true_and] at e;obtain ⟨-,-,-,-,rfl,rfl⟩:=e;obtain rfl:=qe f h;obtain rfl:=qe g i;congr 2;refine vS λb a=> ?_;rcases cr.1 a with a|a
 . exact l b a (j b a)
 . exact o b a (k b a)
open Classical in
noncomputable def mT (r:List aa):Nat:=if ag: ∃n,e1 r n then ag.choose else 0
def Kh {r n} (ag:e1 r n):mT r=n:=by
 unfold mT;rw [dif_pos ⟨n,ag⟩];exact (Exists.choose_spec (⟨n,ag⟩: ∃n,e1 r n)).uniq ag
def bL.g_ {rows N} (ag:bL rows N) {r} (a:r∈rows):e1 r (mT r)/\mT r<=N:=by
 obtain ⟨d,b,c⟩:=ag;have:=b r a;rw [Kh this];exact ⟨this,eT (o3 a) c⟩
def bL.sum {rows N} (ag:bL rows N):(rows.map mT).sum<=N:=by
 obtain ⟨d,a,e⟩:=ag
 rwa [vS λc b=>Kh (a c b)]
def bL.mk {rows N} (ag: ∀r∈rows,e1 r (mT r)) (a:(rows.map mT).sum<=N):bL rows N:=⟨mT,ag,a⟩
def bL.wt {rows N} (ag:bL rows N): ∀r∈rows,aN r:=λr a=>(ag.g_ a).1.wt
def bL.len {rows N} (ag:bL rows N):rows.length<=N:=by
 obtain ⟨e,a,b⟩:=ag;exact eT (qq λd c=>(a d c).pos) b
def bL.app {a b n m} (ag:bL a n) (g:bL b m):bL (a++b) (n+m):= .mk (λe d=>(cr.1 d).elim (λc=>(ag.g_ c).1) λc=>(g.g_ c).1) (by have:=ag.sum;have:=g.sum;simp;omega)
def bL.mono {a n m} (ag:bL a n) (b:n<=m):bL a m:= .mk (λd c=>(ag.g_ c).1) (eT ag.sum b)
def bL.left {a b n} (ag:bL (a++b) n):bL a n:= .mk (λd c=>(ag.g_ (hP _ c)).1) (by have:=ag.sum;simp at this;omega)
def bL.right {a b n} (ag:bL (a++b) n):bL b n:= .mk (λd c=>(ag.g_ (h7 _ c)).1) (by have:=ag.sum;simp at this;omega)
def bL.one {r rows n} (ag:bL rows n) (a:r∈rows):bL [r] n:= .mk (λc b=>by rw [bs.1 b];exact (ag.g_ a).1) (by have:=(ag.g_ a).2;simpa)
def bL.ok {rows N} (ag:bL rows N) (hN:N<1048560): ∀r∈rows,AH r:=λr a=>⟨_,by have:=(ag.g_ a).2;omega,(ag.g_ a).1⟩
def qI {rows} (ag:b8 rows): ∀r∈rows,eu r r=true:=λr a=>by
 obtain ⟨c,d,rfl,-⟩:=ag r a;exact m5 _ λe b=>by rw [bs.1 b];exact r8 _ _
def LX {rows:Y} (ag: ∀r∈rows,gd r): ∀r∈rows,eu r r=true:=λr b=>by
 obtain ⟨c,d,e,f,rfl,-⟩:=ag r b;exact m5 _ λg a=>by simp only [b2,dG,or_false] at a;rcases a with rfl|rfl<;>exact r8 _ _
def c6.same {r} (ag:c6 r):eu r r=true:=by
 obtain ⟨n,p,l,o,q,v,⟨⟨k,t,s,i,m,rfl,b,h,⟨u,d,-,c⟩⟩,-,-,-,-,f,-,g,-⟩⟩:=ag;refine m5 _ λj a=> ?_;simp only [b2,dG,or_false] at a;rcases a with rfl|rfl|rfl|rfl|rfl|rfl|rfl
 . exact r8 _ _
 . exact b.same (qI f)
 . exact r8 _ _
 . exact d.same (LX c)
 . exact wJ _ _
 . exact wJ _ _
 . exact h.same λr e=>by obtain ⟨i,rfl⟩:=g r e;exact m5 _ λj a=>by rw [bs.1 a];exact wJ _ _
def ES {ks} (ag:mg ks):eu ks ks=true:=m5 _ λb a=>by obtain ⟨c,d,rfl⟩:=ag b a;exact r8 _ _
def hH.same {a b rop} (ag:hH a b rop):cN (.ck a b) (.ck a b)=true:=ER (ES ag.k) (m5 _ λe d=>by obtain ⟨f,rfl,c⟩:=ag.s e d;exact LW c.same)
def dO.same {ax:aa} {s:List aa} {kN aw rop ao aJ:Y} (ag:dO ax s kN aw rop ao aJ):f_ (some ax) (some ax)=true:=by
 obtain ⟨a,q,y,t,A,r,z,rfl,e,g,hF⟩:=ag;obtain ⟨w,o,u,p,x,rfl,i,j,l,m,n⟩:=a.eq;refine ZR _ (m5 _ λf c=> ?_);simp only [bl,a6,b2,dG,or_false] at c;rcases c with rfl|rfl|rfl|rfl|rfl|rfl|rfl|rfl
 . exact i.same (qI a.so)
 . exact j.same (LX a.be)
 . exact l.same λd b=>(a.op d b).same
 . exact m.same λd b=>(a.cP d b).same
 . exact n.same (qI a.bJ)
 . exact ER (ES e.k) (m5 _ λf c=>by obtain ⟨v,b,h⟩:=e.s f c;exact b.same (qI h))
 . exact g.same
 . exact hF.same
section
variable {ax:aa} {s:List aa} {kN aw rop ao aJ:Y} (ag:dO ax s kN aw rop ao aJ)
include ag
omit ag in
theorem dP.te {d:List aa} {ax:aa} (Ir:d.length=13):(d++ [ax])[13]? =some ax:=by rw [vP ab,Ir];rfl
theorem Ve {r} (b:aN r):bo λad n=> ∀c d H tm,Z H->dP H c d ax->az G (X G R ad n) 191 [c,.agg r] H tm= .ok (.str (eh kN rop ao r).1 (eh kN rop ao r).2) tm H:=by obtain ⟨w,a⟩:=v_ ag b;obtain ⟨x,P,Q,T,V,W⟩:=ag.val;refine ⟨w+1,λad n D E c d H tm g l=> ?_⟩;obtain ⟨n,rfl⟩:=bY n;have a:=λtm=>a ad n ab ab H tm g;obtain ⟨id,j,C,M,rfl,q,p,o⟩:=l;have k:=dP.te (ax:=ax) o;obtain ⟨h,rfl,i⟩:=hg (S:=λh=>h= .str (eh kN rop ao r).1 (eh kN rop ao r).2) (aL.at (m:=9) (f:=191) (args:= [.ptr id j 0 14,.agg r]) (ad:=ad) (n:=n) (H:=H) rfl rfl rfl rfl rfl rfl rfl rfl (by generalize eh kN rop ao r=N at*;obtain ⟨K,L,y,A,z,B,O,Y,F,I,rfl,u,v⟩:=b.t;simp only [go_sem,u.J,v.J,q,p,k,x,a];exact .inl ⟨_,rfl,e.mk rfl g (U.refl _)⟩));exact i tm
end
def uO.str {l:List (Nat×Nat)} (b:eC l):b8 (l.map iu):=λe d=>by
 obtain ⟨a,c,rfl⟩:=cd.1 d;exact ⟨a.1,a.2,rfl,b a c⟩
def jc {r} (ag:aN r) (H:af):cT G 33 1 [(0,.agg r)] H=some (.A [r] true,H):=by
 have a:=ag.row;exact mo (E:=G) (t:=33) (el:=35) (k:=6) (H:=H) (z:= .agg [.int .i64 0,.int .i64 0,.str 0 0,.str 0 0,.V,.V]) aq aq aq al rfl al (.agg r) ⟨a.1,ba.2 λc b=>(a.2 c b).1,ba.2 λc b=>(a.2 c b).2⟩
def aiD (k:Int):Bool:=k==1||k==3||k==4
def ajg {r k m l1 m1 l2 m2 y z ky i} (f:kX r k m l1 m1 l2 m2 y z ky i):K 158 [.agg r] (.bool (aiD k)):=by
 refine C.run (m:=15) rfl rfl rfl rfl rfl rfl rfl rfl 0 λo p l n j d=> ?_;obtain ⟨rfl,g,h⟩:=f.c;simp only [go_sem,g.J,h.J]
 iterate 2 all_goals try (refine e.aE ?_ ?_<;>intro a<;>simp only [go_sem,a])
 all_goals exact e.b d (U.refl _) (by simp_all [aiD])
abbrev ns (H:af) (b:Bool):af:=H.push (.cells (q 4) (q 4) 0 [.bool b])
theorem Gb {H:af} (a:Z H) (b:Bool):Z (ns H b):=a.push rfl
def aaZ {n0 c:Nat} {H:af} {rows aQ:Y} {v x:aa} (ag:bd n0 35 6 c H rows v) (g:Z H) (e:n0<=H.n) (f: ∀r∈rows,aN r) (h:cG H 6 x aQ) (d: ∀r∈aQ,aN r) (hN:rows.length+aQ.length<10000000) (i:c+aQ.length<1048560):
    ∃a H',cI G 33 33 v x H=some (a,H')/\bd n0 35 6 (c+aQ.length) H' (rows++aQ) a/\iX n0 v a H H'/\cG H' 6 v rows:=
 ag.uS (b:=96) (k:=6) aq yf rfl rfl al al g e (aN.rows f) (h.elems λr ag=>(d r ag).len) (aN.rows d) (by unfold b7;omega) ab
def pq {n0 c:Nat} {H:af} {rows aQ:Y} {v x:aa} (ag:bd n0 35 6 c H rows v) (g:Z H) (e:n0<=H.n) (f: ∀r∈rows,aN r) (h:cG H 6 x aQ) (d: ∀r∈aQ,aN r) (hN:rows.length+aQ.length<10000000) (i:c+aQ.length<1048560):
    ∃a H',cI G 33 33 v x H=some (a,H')/\bd n0 35 6 (c+aQ.length) H' (rows++aQ) a/\iX n0 v a H H':=
 ag.app (b:=96) (k:=6) aq yf rfl rfl al al g e (aN.rows f) (h.elems λr ag=>(d r ag).len) (aN.rows d) (by unfold b7;omega) ab
def A4 {r q} (ag:aN r) (g:aN q) (H:af):cT G 33 2 [(0,.agg r),(1,.agg q)] H=some (.A [r,q] true,H):=by
 have c:=ag.row;have d:=g.row;exact uX (E:=G) (t:=33) (el:=35) (k:=6) (H:=H) (z:= .agg [.int .i64 0,.int .i64 0,.str 0 0,.str 0 0,.V,.V]) aq aq aq al rfl al (.agg r) (.agg q) ⟨c.1,ba.2 λb a=>(c.2 b a).1,ba.2 λb a=>(c.2 b a).2⟩ ⟨d.1,ba.2 λb a=>(d.2 b a).1,ba.2 λb a=>(d.2 b a).2⟩
@[go_sem] theorem ag0 (E:Env) (tm H t u w):gp E [.tmp t,.tmp u,.tmp w] tm H=(if aD (M tm t)&&(aD (M tm u)&&aD (M tm w)) then .ret (.av [M tm t,M tm u,M tm w]) H else .fail):=by simp only [gp,hU,lx];simp
def dQ (r:List aa):List aa:=(r.drop 2).take 6
def sQ (r:List aa):List aa:= [M r 0]
def iz.row {r} (d:iz r):r.length=10/\ ∀v∈r,J v=true/\D 20 v=true:=by
 obtain ⟨k,l,f,b,c,rfl,⟨g,i,rfl,-⟩,⟨h,j,rfl,-⟩,e,⟨b,rfl⟩,⟨c,rfl⟩⟩:=d;have:=e.row;refine ⟨by simp [this.1],λv a=> ?_⟩;simp only [bl,a6,b2,cr,dG,or_false] at a;rcases a with rfl|rfl|a|rfl|rfl
 . exact ⟨rfl,rfl⟩
 . exact ⟨rfl,rfl⟩
 . exact this.2 v a
 . exact ⟨rfl,rfl⟩
 . exact ⟨rfl,rfl⟩
theorem qK {rows:Y} (a:b8 rows): ∀r∈rows,r.length=1:=λr b=>by obtain ⟨c,d,rfl,-⟩:=a r b;rfl
def A3 {y z:aa} {ky i:Y} (a:F y ky) (b:F z i) (H:af):cT G 230 2 [(0,y),(1,z)] H=some (.A [[y],[z]] true,H):=by
 have:=uX (E:=G) (t:=230) (el:=28) (k:=1) (H:=H) (z:= .V) aq aq aq al rfl al y z a.rk b.rk;rw [a.cells,b.cells] at this;exact this
def aN.same {r} (a:aN r):eu r r=true:=by
 induction a with
 | mk a _ _ f g=>
   obtain ⟨rfl,d,e⟩:=a.c;refine m5 _ λh b=> ?_;simp only [b2,dG,or_false] at b;rcases b with rfl|rfl|rfl|rfl|rfl|rfl
   . exact wJ _ _
   . exact wJ _ _
   . exact r8 _ _
   . exact r8 _ _
   . exact d.same f
   . exact e.same g
def lG.row {r} (e:lG r):r.length=11/\ ∀v∈r,J v=true/\D 20 v=true:=by
 obtain ⟨n,o,g,l,c,d,rfl,⟨h,j,rfl,-⟩,⟨i,k,rfl,-⟩,f,⟨m,b,-⟩,⟨c,rfl⟩,⟨d,rfl⟩⟩:=e;have:=f.row;refine ⟨by simp [this.1],λv a=> ?_⟩;simp only [bl,a6,b2,cr,dG,or_false] at a;rcases a with rfl|rfl|a|rfl|rfl|rfl
 . exact ⟨rfl,rfl⟩
 . exact ⟨rfl,rfl⟩
 . exact this.2 v a
 . exact ⟨b.J,b.aI 19⟩
 . exact ⟨rfl,rfl⟩
 . exact ⟨rfl,rfl⟩
def dd (r:List aa):List aa:=(r.drop 2).take 6
def cu (r:List aa):Y:=f (M r 8)
abbrev Ye (H:af):aa:= .fn (.func 196) [] [.ptr H.n (q 85) 0 11]
def Es (x y:List aa):Bool:=match x,y with
 | .str a e:: .str c d::_,.str b f:: .str Gr Qw::_=>(a==b&&e==f)&&(c==Gr&&d==Qw)
 |_,_=>false
def Yf (x y:List aa) (k:lG x) (l:lG y) (ad n:Nat) (H:af) (j:Z H) (a:H.get (H.n-1)=some (.cells (q 85) (q 85) 0 x)) (tm:List aa):
    az G (X G R ad (n+1)) 196 [.agg y,.ptr (H.n-1) (q 85) 0 11] H tm= .ok (.bool (Es y x)) tm H:=by
 obtain ⟨al,av,r,K,c,d,rfl,⟨u,A,rfl,-⟩,⟨v,B,rfl,-⟩,g,⟨P,E,-⟩,⟨c,rfl⟩,⟨d,rfl⟩⟩:=k;obtain ⟨an,aw,s,W,e,f,rfl,⟨w,C,rfl,-⟩,⟨z,D,rfl,-⟩,h,⟨ae,i,-⟩,⟨e,rfl⟩,⟨f,rfl⟩⟩:=l;obtain ⟨ai,ao,L,M,N,O,ax,ar,ag,Y,rfl,I,F⟩:=g.t;obtain ⟨aj,aq,Q,S,T,V,ay,au,ah,ab,rfl,p,o⟩:=h.t;refine fa (aL.at (m:=14) (rs:= [.tmp 3]) rfl rfl rfl rfl rfl rfl rfl rfl ?_) tm;simp only [bl,a6] at a|-;simp only [go_sem,a,p.J,o.J,i.J];refine ak.aE ?_ ?_<;>intro b<;>simp only [go_sem,b,a]
 all_goals exact ak.mk (by simp [Es,b]) rfl j (U.refl _)
def KL (l m:Nat) (y:List aa):Bool:=match y with
 |_:: .str a b::_=>a==l&&b==m
 |_=>false
def Wr (y:List aa) (g:lG y) (l m ad n:Nat) (H:af) (f:Z H) (id:Nat) (d:H.get id=some (.cells (q 9) (q 9) 0 [.str l m])) (tm:List aa):
    az G (X G R ad (n+1)) 198 [.agg y,.ptr id (q 9) 0 1] H tm= .ok (.bool (KL l m y)) tm H:=by
 obtain ⟨D,I,j,x,a,b,rfl,⟨k,p,rfl,-⟩,⟨o,r,rfl,-⟩,c,⟨A,e,-⟩,⟨a,rfl⟩,⟨b,rfl⟩⟩:=g;obtain ⟨C,E,s,u,v,w,K,F,B,z,rfl,i,h⟩:=c.t;refine fa (aL.at (m:=6) (rs:= [.tmp 3]) rfl rfl rfl rfl rfl rfl rfl rfl ?_) tm;simp only [bl,a6];simp only [go_sem,d,i.J,h.J,e.J];exact ak.mk rfl rfl f (U.refl _)
def cC (r:List aa):Y:=f (M r 0)
@[go_sem] theorem ac0 (H):cT G 33 0 [] H=some (.A [] true,H):=aq
def OS (r rows c):b4 G .eql 33 (.A (r::rows) c) .V=some (.bool false):=aq
def OR (a b c d e f):b4 G .eql 33 (.ref a b c d e f) .V=some (.bool false):=aq
def OQ {H:af} {x:aa} {rows:Y} (b:cG H 6 x rows) (a:rows≠ []):b4 G .eql 33 x .V=some (.bool false):=by
 rcases b with (⟨rfl,rfl⟩|⟨c,rfl⟩)|⟨id,g,f,l,e,j,d,h,rfl,-⟩
 . exact absurd rfl a
 . cases rows with
   |nil=>exact absurd rfl a
   |cons k i=>exact OS _ _ _
 . exact OR _ _ _ _ _ _
def Uj {ad n:Nat} {x:aa} {rows:Y} {H:af} (g:Z H) (b:cG H 6 x rows) (a: ∀r∈rows,aN r) (o:rows.length<1048560) (k:rows≠ []):
    ∃v H',(bd H.n 35 6 rows.length H' rows v/\Z H'/\U H H')/\ ∀tm,az G (X G R ad (n+1)) 134 [x] H tm= .ok v tm H':=by
 obtain ⟨p,H',h,d,e⟩:=pq (n0:=H.n) (c:=0) (H:=H) (rows:= []) (aQ:=rows) (v:= .A [] true) (x:=x) (.inr (.inl rfl)) g (aT _) (λr a=>by cases a) b a da ab;rw [gH,a6] at d;have l:=e.up H (aT _) (U.refl _);refine bn.at (m:=7) rfl rfl rfl rfl rfl (by simp only [aO,b.aD];rfl) rfl rfl ?_;have i:=OQ b k;have f:=d.cw (λr j=>(a r j).len);simp only [go_sem,b.O,h,i,f.O,f.aD,dX,if_true];exact bn.mk (d.gc g e.tidy l)
def Ly (r:List aa):Y:=(f (M r 1)).map dd
def Lz (r:List aa):Y:=((f (M r 1)).map cu).flatten
def Lx (r:List aa):Y:=((f (M r 3)).map cC).flatten
def pf (r:List aa):Y:=Ly r++(Lz r++f (M r 2)++Lx r)
def bL.flat {ls:List Y} {l:Y} {N:Nat} (a:bL ls.flatten N) (b:l∈ls):bL l N:=by
 obtain ⟨c,d,rfl⟩:=List.append_of_mem b;rw [aop,iJ] at a;exact a.right.left
def HH {α β:Type} (f:α->List β) {l:List α} {j:Nat} {x:α} (a:l[j]? =some x):((l.take (j+1)).map f).flatten=((l.take j).map f).flatten++f x:=by rw [fg,a];simp
def Wo {α β:Type} (f:α->β) {l:List α} {j:Nat} {x:α} (a:l[j]? =some x):(l.take (j+1)).map f=(l.take j).map f++ [f x]:=by rw [fg,a];simp
def u5 (rows:Y):List aa:= [.V,.A rows true,.A rows false]
def GB {v:aa} {rows:Y} (b:F v rows):v∈u5 rows:=by
 rcases b with ⟨rfl,-⟩|⟨a,rfl⟩
 . simp [u5]
 . cases a<;>simp [u5]
def Zn {x y z:aa} {b ky i:Y} (c:F x b) (d:F y ky) (e:F z i): ∀(j:Nat) r,([[x],[y],[z]]:Y)[j]? =some r-> ∃v rows,r= [v]/\F v rows/\ [b,ky,i][j]? =some rows
 |0,r,a=>by grind
 |1,r,a=>by grind
 |2,r,a=>by grind
 |j+3,r,a=>by grind
def O_ {n0 p l:Nat} {H:af} {x y z:aa} {h ky i:Y} (L:Z H) (d:bd n0 35 6 p H h x) (e:F y ky) (f:bd n0 35 6 l H i z) (C:cc x z) (D:Rows 6 h) (I:Rows 6 i):
    ∃a b H',cT G 235 3 [(0,x),(1,y),(2,z)] H=some (.A [[a],[y],[b]] true,H')/\F a h/\F b i/\Z H'/\(∀g,g.n<=n0->U g H->U g H')/\(∀id o,H.get id=some o->cW x≠some id->cW z≠some id->H'.get id=some o):=by
 obtain ⟨a,c,s,N,P,S,B⟩:=d.KX al D L;have M:bd n0 35 6 l c i z:=f.at λid o q w=>B id o w λr=>C id r q;obtain ⟨b,j,v,O,Q,T,R⟩:=M.KX al I P;have u:aZ bR y c=some (y,c):=fi c bR y (fr 20 bR y al (e.aI 19));refine ⟨a,b,j,?_,N,O,Q,ah,ah⟩;have K:cD (aZ bR) ([x,y,z].flatMap aa.cells) H=some ([a,y,b],j):=by
  have: [x,y,z].flatMap aa.cells= [x,y,z]:=by simp [d.cells.1,e.cells,f.cells.1]
  rw [this];exact lk s (lk u (lk v rfl))
 have:=A5 (E:=G) (t:=235) (el:=33) (k:=1) (H:=H) (z:= .V) aq aq aq al rfl [x,y,z] (λW m=>by
  simp only [b2,dG,or_false] at m;rcases m with rfl|rfl|rfl
  . rw [d.cells.1];exact ⟨rfl,by simp [d.cells.2]⟩
  . rw [e.cells];exact ⟨rfl,by simp [e.J]⟩
  . rw [f.cells.1];exact ⟨rfl,by simp [f.cells.2]⟩) ai K
 exact this
def eN (A:List ak1) (b H:af) (v:aa) (B:Nat):Prop:= ∃a,bd b.n 35 6 a.length H a v/\((∀c∈a,aN c)/\a.map ah2=A)/\a.length<=B/\Z H/\U b H
def eN.O {A:List ak1} {b H v B} (a:eN A b H v B) (t):O t v=v:=by obtain ⟨c,a,-⟩:=a;exact a.O t
def eN.app {A:List ak1} {b H v B} (j:eN A b H v B) {x:aa} {aQ:Y} (t:cG H 6 x aQ) (e: ∀r∈aQ,aN r) (w:B+aQ.length<1048560):
    ∃a H',cI G 33 33 v x H=some (a,H')/\eN (A++aQ.map ah2) b H' a (B+aQ.length):=by
 obtain ⟨u,o,⟨g,k⟩,y,m,f⟩:=j;obtain ⟨a,H',i,q,c⟩:=pq o m f.n g t e ab ab;exact ⟨a,H',i,u++aQ,by rw [bD];exact q,⟨λh l=>(cr.1 l).elim (g h) (e h),by rw [vR,k]⟩,uF,c.tidy,c.up b ab f⟩
def eN.new (H:af) (a:Z H):eN [] H H .V 0:=⟨[],bd.nil,⟨ai,rfl⟩,ai,a,U.refl _⟩
def oB (A:List ak1) (v:aa):Prop:= ∃a,F v a/\((∀b∈a,aN b)/\a.map ah2=A)/\a.length<1048560
def ak.B_ {A:List ak1} {a H v B} (g:Z a) (b:eN A a H v B) (i:B<1048560):ak (oB A) bQ a (.ret v H):=by
 obtain ⟨h,f,c,j,k,e⟩:=b;exact ak.W al g (aN.rows c.1) f ab e λl b=>⟨h,b,c,ab⟩
def eN.nl {A:List ak1} {b H v B} (a:eN A b H v B):aD v=true:=by obtain ⟨c,a,-⟩:=a;exact a.aD
def wR {α:Type} (f:α->Nat) (l:List α) (j:Nat):((l.take j).map f).sum<=(l.map f).sum:=si f l j
theorem BF {L R:List aa} {i a b:aa} (k:L.length=6) (l:R.length=6):M (L++R++ [i,a,b]) 12=i:=by
 obtain ⟨c,e,f,g,h,j,rfl⟩: ∃c e f g h j,L= [c,e,f,g,h,j]:=by
  match L,k with
  | [c,e,f,g,h,j],_=>simp
 match R,l with
 | [m,n,o,q,r,t],_=>rfl
def nV (l:Y):l.length<=(l.map ju).sum:=qq λa _=>by unfold ju;omega
def eo (r:List aa):Y:= [r.take 6,(r.drop 6).take 6]++f (M r 12)
def eE (ahJ p aU ahI:Y):Y:=(ahJ.map eo).flatten++(p++aU).map dQ++(ahI.map pf).flatten
def Wv {ahJ p aU ahI:Y} {x t} (b:x∈ahJ) (a:t∈eo x):t∈eE ahJ p aU ahI:=hP _ (hP _ (kD.2 ⟨_,cd.2 ⟨x,b,rfl⟩,a⟩))
def Wu {ahJ p aU ahI:Y} {x} (a:x∈p++aU):dQ x∈eE ahJ p aU ahI:=hP _ (h7 _ (cd.2 ⟨x,a,rfl⟩))
def Ww {ahJ p aU ahI:Y} {x t} (b:x∈ahI) (a:t∈pf x):t∈eE ahJ p aU ahI:=h7 _ (kD.2 ⟨_,cd.2 ⟨x,b,rfl⟩,a⟩)
def xO {L R:List aa} {i a b:aa} (c:L.length=6) (e:R.length=6):eo (L++R++ [i,a,b])= [L,R]++f i:=by
 unfold eo;rw [BF c e,fu,C7 c,List.drop_left' c,C7 e]
def LA {n p i w h a b:aa} {c e g:Y} (k:F p c) (j:F i e) (l:F w g):pf [n,p,i,w,h,a,b]=c.map dd++((c.map cu).flatten++e++(g.map cC).flatten):=by
 show (f p).map dd++(((f p).map cu).flatten++f i++((f w).map cC).flatten)=_;rw [bm k,bm j,bm l]
def zy {n s i a b:aa} {L:List aa} (c:L.length=6):dd ([n,s]++L++ [i,a,b])=L:=by
 unfold dd
 grind
theorem zz {n s i a b:aa} {L:List aa} (c:L.length=6):cu ([n,s]++L++ [i,a,b])=f i:=by
 match L,c with
 | [e,g,h,j,k,l],_=>rfl
abbrev gz (t:TypeId) (vs:List aa):Prop:= ∀a,ew prog a t vs
def lz (P:Program) (t:TypeId):Option (List TypeId):=match P.underlying t with
 |some (.struct a)=>if sk P t then some (a.toList.map (·.type)) else none
 |_=>none
def Lb: ∀(a:List TypeId) (vs:List aa),(∀n,lH prog (ew prog n) a vs)->lH prog gz a vs
 | [],vs,b=>b 0
 | h::a,vs,b=>by
   obtain ⟨d,c,e,g,-,-⟩:=b 0;have o: ∀n,ew prog n h d/\lH prog (ew prog n) a c:=λn=>by
    obtain ⟨i,j,f,m,k,l⟩:=b n;rw [e] at f;obtain ⟨rfl,rfl⟩:=List.append_inj f ab
    grind
   exact ⟨d,c,e,g,ah,Lb a c ah⟩
def mi {t:TypeId} {b vs} (a:lz prog t=some b) (c:gz t vs):lH prog gz b vs:=by
 unfold lz at a;split at a
 . next e g=>
   split at a
   . next f=>
     cases a;refine Lb _ _ λd=> ?_;have:=c (d+1);unfold ew at this
     grind
   grind
 grind
def kZ {t:TypeId} {vs} (c:prog.underlying t=some (.int .i64)) (b:gz t vs): ∃a,vs= [.int .i64 a]:=by
 have:=b 1;unfold ew at this
 grind
def abB:prog.underlying 9=some .string:=ai
def i_ {vs} (a:gz 9 vs): ∃l m,vs= [.str l m]/\T l m/\l<4611686018427387904:=by
 have:=a 1;unfold ew at this;rw [abB] at this;obtain ⟨l,m,rfl,b,c⟩:=this;exact ⟨l,m,rfl,c,by unfold reachBytes at b;omega⟩
def jH {t e:TypeId} {k:Nat} {vs} (i:prog.underlying t=some (.slice e)) (g:prog.cellsOf e=k) (h:0<k) (f:gz t vs): ∃x rows,vs= [x]/\F x rows/\iS x=1+hY rows/\ ∀r∈rows,r.length=k/\gz e r:=by
 have a:=f 1;unfold ew at a;rw [i] at a;obtain ⟨x,rows,rfl,c,-,n⟩:=a (by rw [g];exact h);refine ⟨x,rows,rfl,c,?_,λr o=>⟨ah,λl=> ?_⟩⟩
 . rcases c with ⟨rfl,rfl⟩|⟨m,rfl⟩<;>simp [iS,hY]
 . have b:=f (l+1);unfold ew at b;rw [i] at b;obtain ⟨s,q,d,j,-,p⟩:=b (by rw [g];exact h);simp only [jn,and_true] at d;subst d;obtain rfl:=qe c j
   grind
def qM (c:Nat) (f:List aa->Nat): ∀(rows:Y),(∀r∈rows,c*f r<=E r)->c*(rows.map f).sum<=hY rows
 | [],_=>by simp
 |r::rows,a=>by have b:=a r (dF ..);have d:=qM c f rows ah;simp only [fS,kE,hY,Nat.mul_add];omega
def Mr: ∀(rows:Y),(rows.map λ_=>1).sum=rows.length
 | []=>rfl
 |_::l=>by rw [fS,kE,Mr l,cl];omega
def kP (c:Nat) (rows:Y) (a: ∀r∈rows,c<=E r):c*rows.length<=hY rows:=by
 have:=qM c (λ_=>1) rows ah;rw [Mr] at this;omega
def l5 {r:List aa}: ∀ {rows:Y},r∈rows->E r<=hY rows
 | b::rows,a=>by
   rcases b2.1 a with rfl|a
   . simp only [hY];omega
   . have:=l5 a;simp only [hY];omega
def Fa:prog.underlying 33=some (.slice 35):=ai
def A8:prog.cellsOf 35=6:=aq
def ZL:lz prog 35=some [32,3,9,9,33,33]:=aq
def abf:prog.underlying 32=some (.int .i64):=ai
def na:prog.underlying 3=some (.int .i64):=ai
def nu (t:TypeId) (b:prog.cellsOf t=1) {a:List aa} (c:a.length=prog.cellsOf t): ∃x,a= [x]:=List.length_eq_one_iff.1 (c.trans b)
def oD {r:List aa} (a:gz 35 r): ∃k n l1 m1 l2 m2 y z ky i,r= [.int .i64 k,.int .i64 n,.str l1 m1,.str l2 m2,y,z]/\T l1 m1/\T l2 m2/\l1<4611686018427387904/\l2<4611686018427387904/\
    F y ky/\F z i/\E r=6+hY ky+hY i/\(∀x∈ky,gz 35 x)/\ ∀x∈i,gz 35 x:=by
 obtain ⟨t,C,rfl,-,b,u,D,rfl,-,c,v,G,rfl,-,d,w,H,rfl,-,e,A,I,rfl,-,f,B,J,rfl,-,g,rfl⟩:=mi ZL a;obtain ⟨k,rfl⟩:=kZ abf b;obtain ⟨n,rfl⟩:=kZ na c;obtain ⟨l1,m1,rfl,o,l⟩:=i_ d;obtain ⟨l2,m2,rfl,p,m⟩:=i_ e;obtain ⟨y,ky,rfl,h,q,K⟩:=jH Fa A8 al f;obtain ⟨z,i,rfl,j,s,L⟩:=jH Fa A8 al g;refine ⟨k,n,l1,m1,l2,m2,y,z,ky,i,rfl,o,p,l,m,h,j,?_,ah,ah⟩;simp only [bl,a6,E,q,s,iS];omega
def qS: ∀(N:Nat) (r:List aa),E r<=N->N<4611686018427387904->gz 35 r->aN r
 |0,r,o,_,c=>by obtain ⟨p,v,q,t,s,u,w,x,g,h,rfl,m,n,k,l,e,f,d,i,j⟩:=oD c;omega
 | N+1,r,o,z,c=>by
   obtain ⟨p,v,q,t,s,u,w,x,g,h,rfl,m,n,k,l,e,f,d,i,j⟩:=oD c;have y: ∀a,gz 35 a->1<=E a:=λa b=>by obtain ⟨_,_,_,_,_,_,_,_,_,_,-,-,-,-,-,-,-,d,-⟩:=oD b;omega
   have A:=kP 1 g ah;have B:=kP 1 h ah;exact .mk ⟨rfl,m,n,k,l,e,f,ab,ab⟩ (λa b=>qS N a (by have:=l5 b;omega) ab (i a b)) (λa b=>qS N a (by have:=l5 b;omega) ab (j a b))
def k7 {r:List aa} {k:Nat} (a:r.length=k/\ ∀v∈r,J v=true/\D 20 v=true):D bR (.agg r)=true:=by
 show r.all (D 49)=true;exact ba.2 λv b=>fr 20 49 v al (a.2 v b).2
def cG.bS {H H':af} {k:Nat} {x:aa} {rows:Y} (a:cG H k x rows) (i: ∀id o,H.get id=some o->cW x=some id->H'.get id=some o):cG H' k x rows:=by
 rcases a with a|⟨id,e,d,l,c,j,b,f,rfl,g,h⟩
 . exact .inl a
 . exact .inr ⟨id,e,d,l,c,j,b,f,rfl,i id _ g rfl,h⟩
def kR {α β:Type} (f:α->List β) {l:List α} {j:Nat} {x:α} (a:l[j]? =some x):(l.take (j+1)).flatMap f=(l.take j).flatMap f++f x:=by rw [fg,a];simp
theorem od {α:Type} {l:List α} {j:Nat} {x:α} (a:l[j]? =some x):l.take (j+1)=l.take j++ [x]:=by rw [fg,a];rfl
def D9 (l:Y):l.length<=(l.map ju).sum:=by
 induction l with
 |nil=>simp
 | cons a l b=>
   have:1<=ju a:=by unfold ju;omega
   simp only [fS,kE,cl];omega
def Ah:aW G 33=some (.slice 35):=aq
def hB (r:List aa):Y:=(f (M r 1)).flatMap (λa=>dd a::cu a)++f (M r 2)++(f (M r 3)).flatMap cC
def m1 (ahJ p aU ahI:Y):Y:=ahJ.flatMap eo++(p++aU).map dQ++ahI.flatMap hB
def KT: ∀(l:Y),(l.flatMap λp=>dd p::cu p).Perm (l.map dd++l.flatMap cu)
 | []=> .nil
 |a::l=>by simp only [yL,fS,bl];refine List.Perm.cons _ ?_;refine (List.Perm.append_left (cu a) (KT l)).trans ?_;rw [<-fu,<-fu];exact CO _ List.perm_append_comm
def Yo (r:List aa):(hB r).Perm (pf r):=by
 unfold hB pf Ly Lz Lx;rw [<-vO,<-vO];refine (CO _ (CO _ (KT _))).trans ?_;rw [fu,fu,fu]
def KS {α β:Type} {f g:α->List β} (b: ∀a,(f a).Perm (g a)): ∀(l:List α),(l.flatMap f).Perm (l.flatMap g)
 | []=> .nil
 |a::l=>by simp only [yL];exact (b a).append (KS b l)
def Yn (ahJ p aU ahI:Y):(m1 ahJ p aU ahI).Perm (eE ahJ p aU ahI):=by
 unfold m1 eE;rw [<-vO,<-vO];exact List.Perm.append_left _ (KS Yo ahI)
def bL.perm {a b:Y} {N:Nat} (f:bL a N) (e:a.Perm b):bL b N:=by
 obtain ⟨c,g,h⟩:=f;exact ⟨c,λj i=>g j (e.mem_iff.2 i),by rw [<-(e.map c).sum_nat];exact h⟩
def qL {α β:Type} (f:α->List β) (g:α->Nat) (b: ∀a,(f a).length=g a): ∀(l:List α),(l.flatMap f).length=(l.map g).sum
 | []=>rfl
 |a::l=>by simp only [yL,bD,fS,kE,b,qL f g b l]
def K8 (ahJ p aU ahI:Y):(m1 ahJ p aU ahI).length=(ahJ.map e7).sum+(p.length+aU.length)+(ahI.map kJ).sum:=by
 unfold m1;rw [bD,bD,di,bD,qL eo e7 (λb=>by unfold eo e7;simp;omega),qL hB kJ (λb=>by unfold hB kJ;rw [bD,bD,qL (λa=>dd a::cu a) iO (λa=>by unfold iO cu;simp;omega),qL cC lp (λ_=>rfl)])]
def z_ {α β:Type} (f:α->List β) (l:List α) (j:Nat):((l.take j).flatMap f).length<=(l.flatMap f).length:=by
 have:l.flatMap f=(l.take j).flatMap f++(l.drop j).flatMap f:=by rw [<-anD,yT]
 rw [this,bD];omega
def MW:aW G 28=some (.slice 83):=aq
@[go_sem] theorem acU (H):cT G 28 0 [] H=some (.A [] true,H):=aq
def aks {t el k:Nat} {ti:TypeInfo} (B:aW G t=some (.slice el)) (hT:G.T el=some ti) (u:ti.size=k) (w:0<k) (J:ti.bytes+1<=300) {H:af} (M:Z H) {o m:aa} {p aU:Y} (L:F o p) (K:F m aU) (g:Rows k (p++aU)) (N:p.length+aU.length<1048560):
    ∃b e i a,cI G t t (.A [] true) o H=some (b,e)/\(∀t,O t b=b)/\cI G t t b m e=some (i,a)/\bd H.n el k (p.length+aU.length) a (p++aU) i/\Z a/\U H a:=by
 have l:Rows k p:=λh f=>g h (hP _ f);have z:Rows k aU:=λh f=>g h (h7 _ f);have y: ∀n,n<=1048560->n*(ti.bytes+1)<=b7:=λn f=>eT (kF f J) (by unfold b7;omega);obtain ⟨b,e,D,j,q⟩:=bd.app (c:=0) (n0:=H.n) (H:=H) (rows:= []) (aQ:=p) (v:= .A [] true) (x:=o) (k:=k) B hT u rfl w ab (.inr (.inl rfl)) M (aT _) (λh g=>by cases g) (dR (H:=H) L l.len) l (y _ (by simp only [h5];omega)) ab;rw [gH,a6] at j;have C:=q.up H (aT _) (U.refl _);obtain ⟨i,a,E,I,r⟩:=bd.app (aQ:=aU) (x:=m) (k:=k) B hT u rfl w ab j q.tidy C.n l (dR (H:=e) K z.len) z (y _ ab) ab;exact ⟨b,e,i,a,D,j.O,E,I,r.tidy,r.up H (aT _) C⟩
inductive ahM:Nat->Type
  |mk {n}:ahM n
def ahM.s {n} (_:ahM n) (k:Nat):Nat:=k+n
@[go_sem] theorem ahM.eq {n} (a:ahM n) (k):a.s k=k+n:=rfl
section
variable {d:List aa} {s:List aa} {kN aw rop ao aJ ahJ p aU ahI:Y} (aX:fz d s kN aw rop ao aJ ahJ p aU ahI)
include aX
theorem YT: ∀t∈m1 ahJ p aU ahI,aN t:=by
 intro t a;rcases cr.1 a with a|a
 . rcases cr.1 a with a|a
   . obtain ⟨c,e,a⟩:=fC.1 a;obtain ⟨w,O,m,h,i,rfl,b,r,⟨R,j,k,-⟩,-⟩:=aX.kx c e;rw [xO b.len r.len,bm j] at a;simp only [bl,a6,b2] at a;rcases a with rfl|rfl|a
     . exact b
     . exact r
     . exact k _ a
   . obtain ⟨c,e,rfl⟩:=cd.1 a;obtain ⟨K,s,o,h,i,rfl,-,-,q,-⟩:=(cr.1 e).elim (aX.b9 c) (aX.hm c);have A:dQ ([K,s]++o++ [h,i])=o:=by unfold dQ;rw [fu,qh ai];simp [q.len]
     rw [A];exact q
 . obtain ⟨c,e,a⟩:=fC.1 a;obtain ⟨L,g,m,v,z,h,i,rfl,-,⟨M,D,E,-⟩,⟨J,j,k,-⟩,⟨N,F,G,-⟩,-⟩:=aX.bh c e;have B:hB [L,g,m,v,z,h,i]=M.flatMap (λg=>dd g::cu g)++J++N.flatMap cC:=by show (f g).flatMap _++f m++(f v).flatMap cC=_;rw [bm D,bm j,bm F]
   rw [B] at a;rcases cr.1 a with a|a
   . rcases cr.1 a with a|a
     . obtain ⟨n,l,a⟩:=fC.1 a;obtain ⟨P,Q,w,V,T,U,rfl,-,-,b,⟨S,H,I,-⟩,-⟩:=E n l;rw [zy b.len,zz b.len,bm H] at a;rcases b2.1 a with rfl|a
       . exact b
       . exact I _ a
     . exact k _ a
   . obtain ⟨n,l,a⟩:=fC.1 a;obtain ⟨x,rfl,⟨y,C,u,-⟩⟩:=G n l;have:f x=y:=bm C;rw [<-this] at u;exact u _ a
theorem akv {f z:Nat} (o:ahM z) (c5:f=107/\z=0\/f=34/\z=1):dt f [.agg d] (λv=>F v (m1 ahJ p aU ahI)) bQ:=by
 have eL:=aX.n1;have eO:=K8 ahJ p aU ahI;have cd: ∀K∈p++aU,iz K:=λK u=>(cr.1 u).elim (aX.b9 K) (aX.hm K);obtain ⟨e2,X,a7,eU,bW,dI,e3,e5,cY,⟨dz,dA,rfl,-⟩,aS,aC,⟨dh,dj,rfl,-⟩,aB,u,⟨dJ,dK,rfl,-⟩,⟨dT,dU,rfl,-⟩⟩:=aX.eq;obtain ⟨dL,cF,dB,cS,dS,rfl,ee,ef,eg,eh,ei⟩:=aX.bT.eq;have eZ:ahJ.length<1048559:=by have:=aX.iN;omega
 have e0:ahI.length<1048559:=by have aP:=aX.iN;have:=D9 ahI;omega
 have bC: [p,aU].flatten=p++aU:=ai;have bk:Rows 10 (p++aU):=λK u=>(cd K u).row;obtain ⟨de,aP⟩:=(Ds (.A [[a7],[bW]] true) [[a7],[bW]] [p,aU] (.inr ⟨_,rfl⟩) (wG aC aB) rfl ai (by rw [bC];exact bk) (by rw [bC];unfold b7;grind) ah).val;rw [bC] at aP;obtain ⟨aj,ca⟩: ∃aj,aj=p.length+aU.length:=⟨_,rfl⟩;have bz:(p++aU).length=aj:=by rw [ca,bD]
 have cc:((p++aU).map dQ).length=aj:=by rw [di,bz]
 have av: ∀ {ba h:af} {v w:aa} {a8 H:Y},P 35 6 ba h v a8->F w H->(∀K∈H,aN K)->a8.length+H.length<1048560-> ∃b0 I,cI G 33 33 v w h=some (b0,I)/\P 35 6 ba I b0 (a8++H)/\iX ba.n v b0 h I:=λ{ba h v w a8 H} bE c7 bw ch=>
  bE.app (k:=6) (E:=G) (t:=33) (b:=96) (i:=t35) Ah aq rfl rfl al al (x:=w) (aQ:=H) (dR c7 λK u=>(bw K u).len) (λK u=>(bw K u).row) ch
 obtain ⟨rfl,rfl⟩|⟨rfl,rfl⟩:=c5
 all_goals
  refine aL.run (m:=o.s 89) rfl rfl rfl rfl rfl rfl rfl rfl (de+1048570) λdq du ch eK B cn=> ?_;rw [cY];simp only [bl,a6];refine ak.bM (λe r=>B=r/\aM (o.s 90) [(1,.W 0 [.str dz dA,dL,cF,dB,cS,dS,X,a7,.str dh dj,bW,dI,.str dJ dK,.str dT dU])] e) ?_ ?_
  . simp only [go_sem,ee.J,ef.J,eg.J,eh.J,ei.J,aS.J,aC.J,aB.J,u.J];exact an.mk ⟨rfl,dC⟩
  rintro e _ ⟨rfl,hF⟩;refine ak.np [1] (λy e r=>B=r/\M e 3= .V/\y e) ?_ ?_
  . simp only [go_sem];exact an.mk ⟨rfl,ay⟩
  clear hF;rintro e _ ⟨rfl,hF⟩;refine ak.np [1] (λy e r=> ∃v,P 35 6 B r v (ahJ.flatMap eo)/\M e 3=v/\y e) ?_ ?_
  . simp only [go_sem,hF,aS.O,aS.len];generalize bg:a1 _ _ _ _ _ _ _ _ _ _=U;revert U;refine cv [1,15] (λs=> [(3,s.1)]) (λs=>s.2) (λq s=>P 35 6 B s.2 s.1 ((ahJ.take q).flatMap eo)) ahJ.length (.V,B) (P.new _ _ cn) ?_ ?_
    . clear hF;rintro q ⟨v,h⟩ e bo a hF;simp only at a hF|-;obtain ⟨w,N⟩:=bA bo;have aW:=aV N;have T:=z_ eo ahJ (q+1);have eP:(ahJ.flatMap eo).length<1048560:=by rw [qL eo e7 (λbc=>by unfold eo e7;simp;omega)];omega
      rw [kR _ N,bD] at T;have Z:=kR eo N;obtain ⟨aH,b4,aY,bc,cE,rfl,S,bj,⟨eR,ae,bF,-⟩,⟨dx,rfl⟩,⟨dy,rfl⟩⟩:=aX.kx w aW;rw [xO S.len bj.len,bm ae] at T Z;have aR:=A4 S bj h;have cT:=k7 S.row;have ez:=k7 bj.row;simp only [bD,cl,h5] at T;obtain ⟨ar,I,ad,L,-⟩:= @av _ _ _ (.A [aH,b4] true) _ [aH,b4] a (.inr ⟨_,rfl⟩) (λK u=>by simp only [b2,dG,or_false] at u;rcases u with rfl|rfl<;>assumption) og;obtain ⟨b1,aG,bu,aA,-⟩:=av L ae bF (by simp only [bD,cl,h5];omega);rw [fu] at aA;obtain ⟨df,dv,dn,dr,dp,ds,ec,ej,eV,eX,cU,-,-⟩:=S.ea;obtain ⟨dg,dw,dD,dF,dE,dH,ed,ek,eW,eY,cV,-,-⟩:=bj.ea;obtain ⟨rfl,c9,db⟩:=cU.c;obtain ⟨rfl,da,dc⟩:=cV.c;simp only [bl,a6] at N;refine au.np [17,16,1,15] (λy e r=>h=r/\ ∃cy,M e 3=v/\M e 5= .W cy [.int .i64 df,.int .i64 dv,.str dn dr,.str dp ds,ec,ej,.int .i64 dg,.int .i64 dw,.str dD dF,.str dE dH,ed,ek,aY,.int .i64 dx,.int .i64 dy]/\y e) ?_ ?_
      . simp only [go_sem,hF,aS.O,aS.a_ (k:=15) N rfl,c9.J,db.J,da.J,dc.J,ae.J];exact an.mk ⟨rfl,_,by simp only [go_sem,hF];trivial⟩
      clear hF;rintro e _ ⟨rfl,cy,hF⟩;simp only [go_sem,hF,ae.O,aR,bH,a.O,ad,L.O,bu,aA.O];exact au.next (b1,aG) rfl (by show P _ 6 B _ _ ((ahJ.take (q+1)).flatMap eo);rw [Z];exact aA) ay
    . rintro ⟨v,h⟩ e a hF;simp only at a hF;rw [bX] at a;simp only [go_sem];exact an.mk ⟨v,a,ay⟩
  clear hF;rintro e h ⟨v,a,hF⟩;have eA:aj<1048559:=by have:=aX.iN;omega
  refine ak.np [1] (λy e r=> ∃v,P 35 6 B r v (ahJ.flatMap eo++(p++aU).map dQ)/\M e 3=v/\y e) ?_ ?_
  . first
     | have ep:ahM 0:=o
       obtain ⟨D,C,cK⟩:=aP dq du ab ab h a.tidy;have bK:iL D=some (.int .i64 aj):=by rw [C.len,bz]
       have cb:=a;have ck:cG h 10 D _:=C.cw;have bp:=C.O;have cm:cW D=none:=by rcases C with ⟨rfl,-⟩|⟨er,rfl⟩<;>rfl
       have cp: ∀id,cW D=some id->id<h.n:=by simp [cm]
       have cf: ∀id,cW v=some id->cW D≠some id:=by simp [cm]
       simp only [go_sem,hF,aC.O,aB.O,A3 aC aB h,bH,cK,bp,bK];obtain ⟨I,rfl⟩: ∃w,w=h:=⟨_,rfl⟩
     | obtain ⟨e4,en,D,I,cN,cR,cO,C,dM,dP⟩:=aks (ti:=t83) MW aq rfl al al a.tidy aC aB bk ab
       have bK:iL D=some (.int .i64 aj):=by rw [C.len,bz]
       have cb:=a.at dM dP;have ck:=C.cw bk.len;have bp:=C.O;have cp: ∀id,cW D=some id->id<I.n:=λ_ X=>C.lt X;have cf: ∀id,cW v=some id->cW D≠some id:=λid X az=>by have:=a.W.lt X;have:=C.ge az;omega
       simp only [go_sem,hF,aC.O,aB.O,cN,cR,cO,bH,bp,bK]
    generalize bg:a1 _ _ _ _ _ _ _ _ _ _=U;revert U;refine cv [1,o.s 37] (λs=> [(3,s.1)]) (λs=>s.2) (λq s=>P 35 6 B s.2 s.1 (ahJ.flatMap eo++((p++aU).map dQ).take q)/\cG s.2 10 D (p++aU)/\(∀id,cW s.1=some id->cW D≠some id)/\I.n<=s.2.n) aj (v,I) ⟨by simpa using cb,ck,cf,aT _⟩ ?_ ?_
    . clear hF;rintro q ⟨v,h⟩ e bo ⟨a,bJ,bB,cg⟩ hF;simp only at a bJ bB cg hF|-;obtain ⟨w,N⟩:=bA (l:=p++aU) (j:=q) ab;have aW:=aV N;have Q:((p++aU).map dQ)[q]? =some (dQ w):=by rw [hO,N];rfl
      have T:(ahJ.flatMap eo++((p++aU).map dQ).take (q+1)).length<1048560:=by have aP:(ahJ.flatMap eo).length=(ahJ.map e7).sum:=qL eo e7 (λbc=>by unfold eo e7;simp;omega) ahJ;rw [bD,h6,cc];omega
      have Z:ahJ.flatMap eo++((p++aU).map dQ).take (q+1)=(ahJ.flatMap eo++((p++aU).map dQ).take q)++ [dQ w]:=by rw [od Q,fu]
      rw [Z,bD] at T;obtain ⟨ev,ew,bb,br,bt,rfl,⟨aI,aK,rfl,-⟩,⟨b5,b6,rfl,-⟩,bf,⟨br,rfl⟩,⟨bt,rfl⟩⟩:=cd w aW;have cP:dQ ([.str aI aK,.str b5 b6]++bb++ [.int .i64 br,.int .i64 bt])=bb:=by unfold dQ;rw [fu,qh ai];simp [bf.len]
      rw [cP] at Z;have aR:=jc bf h;obtain ⟨ar,aG,ad,L,bx⟩:= @av _ _ _ (.A [bb] true) _ [bb] a (.inr ⟨_,rfl⟩) (λK u=>by rw [bs.1 u];exact bf) T;have c4:=bJ.bS λid a7 bE X=>bx.other id a7 bE λaz=>bB id az X;obtain ⟨g,c1,c2,cj,-⟩:=bJ.at bk.len N;obtain ⟨bV,bY,bO,bP,bR,bU,dO,bZ,dm,dk,rfl,bN,bL⟩:=bf.t;simp only [bl,a6] at cj;refine au.np [o.s 39,o.s 38,1,o.s 37] (λy e r=>h=r/\ ∃cz,M e 3=v/\M e 7= .W cz [.str aI aK,.str b5 b6,.int .i64 bV,.int .i64 bY,.str bO bP,.str bR bU,dO,bZ,.int .i64 br,.int .i64 bt]/\y e) ?_ ?_
      . simp only [go_sem,hF,bp,c1,c2,cj,bN.J,bL.J];exact an.mk ⟨rfl,_,by simp only [go_sem,hF];trivial⟩
      clear hF;rintro e _ ⟨rfl,cz,hF⟩;simp only [go_sem,hF,aR,bH,a.O,ad,L.O];exact au.next (ar,aG) rfl ⟨by show P _ 6 B _ _ (_++((p++aU).map dQ).take (q+1));rw [Z];exact L,c4,λid X az=>by
       rcases bx.new id X with bd|bd
       . exact bB id bd az
       . have:=cp id az;omega,eT cg bx.n⟩ ay
    . rintro ⟨v,h⟩ e ⟨a,-⟩ hF;simp only at a hF;rw [fT ab] at a;simp only [go_sem];exact an.mk ⟨v,a,ay⟩
  clear hF a;rintro e h ⟨v,a,hF⟩;have eC:(ahJ.flatMap eo++(p++aU).map dQ).length=(ahJ.map e7).sum+(p.length+aU.length):=by rw [bD,cc,ca,qL eo e7 (λbc=>by unfold eo e7;simp;omega)]
  have eN:(ahI.flatMap hB).length=(ahI.map kJ).sum:=by
   have aP:(m1 ahJ p aU ahI).length=(ahJ.flatMap eo++(p++aU).map dQ).length+(ahI.flatMap hB).length:=by unfold m1;rw [bD]
   omega
  have c0:m1 ahJ p aU ahI=(ahJ.flatMap eo++(p++aU).map dQ)++ahI.flatMap hB:=rfl;rw [c0];generalize eB:ahJ.flatMap eo++(p++aU).map dQ=ag at*;refine ak.bM (λe r=> ∃v,P 35 6 B r v (ag++ahI.flatMap hB)/\aM (o.s 90) [(3,v)] e) ?_ ?_
  . simp only [go_sem,hF,u.O,u.len];generalize bg:a1 _ _ _ _ _ _ _ _ _ _=U;revert U;refine cv [o.s 50] (λs=> [(3,s.1)]) (λs=>s.2) (λq s=>P 35 6 B s.2 s.1 (ag++(ahI.take q).flatMap hB)) ahI.length (v,h) (by simpa using a) ?_ ?_
    . clear hF;rintro q ⟨v,h⟩ e bo a hF;simp only at a hF|-;obtain ⟨w,N⟩:=bA bo;have aW:=aV N;have T:=z_ hB ahI (q+1);rw [kR _ N,bD] at T;have Z:=kR hB N;obtain ⟨e1,g,aY,D,b8,bc,cE,rfl,⟨aI,aK,rfl,-⟩,⟨R,aD,c3,eM⟩,⟨aZ,ae,bF,eH⟩,⟨aF,C,c6,eQ⟩,⟨ey,cZ,eG,eF⟩,⟨cq,rfl⟩,⟨ct,rfl⟩⟩:=aX.bh w aW;have cL:hB [.str aI aK,g,aY,D,b8,.int .i64 cq,.int .i64 ct]=R.flatMap (λg=>dd g::cu g)++aZ++aF.flatMap cC:=by show (f g).flatMap _++f aY++(f D).flatMap cC=_;rw [bm aD,bm ae,bm C]
      rw [cL] at T Z;simp only [bD] at T;have eD:(ag++(ahI.take q).flatMap hB).length=ag.length+((ahI.take q).flatMap hB).length:=bD;have cM:ag++(ahI.take (q+1)).flatMap hB=(ag++(ahI.take q).flatMap hB)++R.flatMap (λg=>dd g::cu g)++aZ++aF.flatMap cC:=by rw [Z];simp only [fu]
      generalize bw:ag++(ahI.take q).flatMap hB=H at*;refine au.np [o.s 52,o.s 51,o.s 50] (λy e r=>h=r/\ ∃cA,M e 3=v/\M e 9= .W cA [.str aI aK,g,aY,D,b8,.int .i64 cq,.int .i64 ct]/\y e) ?_ ?_
      . simp only [go_sem,hF,u.O,u.a_ (k:=7) N rfl,aD.J,ae.J,C.J,cZ.J];exact an.mk ⟨rfl,_,by simp only [go_sem,hF];trivial⟩
      clear hF;rintro e _ ⟨rfl,cA,hF⟩;refine au.np [o.s 52,o.s 51,o.s 50,9] (λy e r=> ∃v,P 35 6 B r v (H++R.flatMap λg=>dd g::cu g)/\M e 3=v/\y e) ?_ ?_
      . simp only [go_sem,hF,aD.O,aD.len];generalize bg:a1 _ _ _ _ _ _ _ _ _ _=U;revert U;refine cv [o.s 52,o.s 51,o.s 50,9,o.s 57] (λs=> [(3,s.1)]) (λs=>s.2) (λq s=>P 35 6 B s.2 s.1 (H++(R.take q).flatMap λg=>dd g::cu g)) R.length (v,h) (by simpa using a) ?_ ?_
        . clear hF;rintro ax ⟨v,h⟩ e bG a hF;simp only at a hF|-;obtain ⟨w,Q⟩:=bA bG;have bI:=aV Q;have aE:=z_ (λg=>dd g::cu g) R (ax+1);rw [kR _ Q,bD] at aE;have aO:=kR (λg=>dd g::cu g) Q;obtain ⟨et,eu,aH,dY,cB,cD,rfl,⟨dV,dZ,rfl,-⟩,⟨dW,eb,rfl,-⟩,S,⟨eS,bq,c8,-⟩,⟨cB,rfl⟩,⟨cD,rfl⟩⟩:=c3 w bI;rw [zy S.len,zz S.len,bm bq] at aE aO;simp only [cl] at aE;have aR:=jc S h;have cT:=k7 S.row;have eI:(H++(R.take ax).flatMap λg=>dd g::cu g).length=H.length+((R.take ax).flatMap λg=>dd g::cu g).length:=bD;obtain ⟨ar,I,ad,L,-⟩:= @av _ _ _ (.A [aH] true) _ [aH] a (.inr ⟨_,rfl⟩) (λK u=>by rw [bs.1 u];exact S) og;obtain ⟨b1,aG,bu,aA,-⟩:=av L bq c8 (by simp only [bD,cl,h5];omega);obtain ⟨bV,bY,bO,bP,bR,bU,dN,bZ,dm,dk,rfl,bN,bL⟩:=S.t;simp only [bl,a6] at Q;refine au.np [o.s 59,o.s 58,o.s 52,o.s 51,o.s 50,9,o.s 57] (λy e r=>h=r/\ ∃cx,M e 3=v/\M e 11= .W cx [.str dV dZ,.str dW eb,.int .i64 bV,.int .i64 bY,.str bO bP,.str bR bU,dN,bZ,dY,.int .i64 cB,.int .i64 cD]/\y e) ?_ ?_
          . simp only [go_sem,hF,aD.O,aD.a_ (k:=11) Q rfl,bN.J,bL.J,bq.J];exact an.mk ⟨rfl,_,by simp only [go_sem,hF];trivial⟩
          clear hF;rintro e _ ⟨rfl,cx,hF⟩;simp only [go_sem,hF,bq.O,aR,bH,a.O,ad,L.O,bu,aA.O];exact au.next (b1,aG) rfl (by show P _ 6 B _ _ (H++(R.take (ax+1)).flatMap _);rw [aO];simpa only [fu,bl,a6] using aA) ay
        . rintro ⟨v,h⟩ e a hF;simp only at a hF;rw [bX] at a;simp only [go_sem];exact an.mk ⟨v,a,ay⟩
      clear hF a;rintro e h ⟨v,a,hF⟩;obtain ⟨ar,I,ad,L,-⟩:=av a ae bF uF;refine au.np [o.s 52,o.s 51,o.s 50,9] (λy e r=>I=r/\M e 3=ar/\y e) ?_ ?_
      . simp only [go_sem,hF,ae.O,a.O,ad,bH,L.O];exact an.mk ⟨rfl,ay⟩
      clear hF a;rintro e _ ⟨rfl,hF⟩;have eJ:(H++R.flatMap (λg=>dd g::cu g)++aZ).length=H.length+(R.flatMap λg=>dd g::cu g).length+aZ.length:=by rw [bD,bD]
      generalize H++R.flatMap (λg=>dd g::cu g)++aZ=b3 at*;simp only [go_sem,hF,C.O,C.len];generalize bg:a1 _ _ _ _ _ _ _ _ _ _=U;revert U;refine cv [o.s 52,o.s 51,o.s 50,o.s 77] (λs=> [(3,s.1)]) (λs=>s.2) (λq s=>P 35 6 B s.2 s.1 (b3++(aF.take q).flatMap cC)) aF.length (ar,I) (by simpa using L) ?_ ?_
      . clear hF;rintro ax ⟨v,h⟩ e bG a hF;simp only at a hF|-;obtain ⟨w,Q⟩:=bA bG;have bI:=aV Q;have aE:=z_ cC aF (ax+1);rw [kR _ Q,bD] at aE;have aO:=kR cC Q;obtain ⟨cJ,rfl,⟨cH,bn,cX,eE⟩⟩:=c6 w bI;have cQ:cC [cJ]=cH:=bm bn;rw [cQ] at aE aO;obtain ⟨ar,I,ad,L,-⟩:=av a bn cX uF;simp only [go_sem,hF,C.O,C.a_ (k:=1) Q rfl,bn.J,bn.O,a.O,ad,bH,L.O];exact au.next (ar,I) rfl (by show P _ 6 B _ _ (b3++(aF.take (ax+1)).flatMap cC);rw [aO,<-fu];exact L) ay
      . rintro ⟨v,h⟩ e a hF;simp only at a hF;rw [bX] at a;simp only [go_sem];exact au.next (v,h) rfl (by show P _ 6 B _ _ (ag++(ahI.take (q+1)).flatMap hB);rw [cM];exact a) ay
    . rintro ⟨v,h⟩ e a hF;simp only at a hF;rw [bX] at a;simp only [go_sem];exact an.mk ⟨v,a,ay⟩
  clear hF a;rintro e h ⟨v,a,hF⟩;simp only [go_sem,hF,a.O,a.nl,dX,if_true];exact ak.W al cn a.rw a.W (aT _) a.up λD bd=>bd
theorem VG:dt 34 [.agg d] (λv=>F v (m1 ahJ p aU ahI)) bQ:=akv aX (z:=1) .mk (.inr ⟨rfl,rfl⟩)
end
theorem XM {E:Env} {b:List Nat} {k:IntKind} {a:Int} {l:List aa} {tm:List aa} {H:af}:hy E .max b (.int k a::l) tm H=bb (mR k a l) tm H:=by unfold hy;rfl
@[go_sem] theorem afI (E:Env) (g:List Nat) (a b c d:Int) (tm H):hy E .max g [.int .i64 a,.int .i64 b,.int .i64 c,.int .i64 d] tm H= .ok (.int .i64 (max (max (max a b) c) d)) tm H:=by
 have e: ∀(a b:Int) (f:List aa),mR .i64 a (.int .i64 b::f)=mR .i64 (max a b) f:=λa b f=>by
  rw [mR,if_pos rfl];split
  . rw [Int.max_eq_right ab]
  . rw [Int.max_eq_left ab]
 rw [XM,e,e,e,mR,zq]
open Classical in
theorem Br {f:Nat} {g:List aa->List aa} {rows:Y} {ad n:Nat} {H:af} (h: ∀r∈rows,∃b,∀tm,az G (X G R ad n) f (g r) H tm= .ok (.bool b) tm H): ∃p:List aa->Bool,∀r∈rows,∀tm,az G (X G R ad n) f (g r) H tm= .ok (.bool (p r)) tm H:=by refine ⟨λr=>if bh: ∃b,∀tm,az G (X G R ad n) f (g r) H tm= .ok (.bool b) tm H then bh.choose else false,λr bh=> ?_⟩;have:=h r bh;simp only [dif_pos this];exact this.choose_spec
def Gn (m i:Nat):en m i∈List.range 256:=h9.2 (by unfold en;exact tF _ al)
def MP:d G R 103 (λp:Nat×Nat=>T p.1 p.2) (λp=> [.str p.1 p.2]) (λp=> .bool (isName p.1 p.2)):=by
 obtain ⟨J,t⟩:=C.all (l:=List.range 256) (f:=170) (g:=λa=> [.int .u8 (a:Nat)]) (v:=λa=> .bool (isLet a)) λa _=>DC _;obtain ⟨K,u⟩:=C.all (l:=List.range 256) (f:=171) (g:=λa=> [.int .u8 (a:Nat)]) (v:=λa=> .bool (qd a)) λa _=>Dv _;refine d.run (m:=27) rfl rfl rfl rfl (λ_=>rfl) (λ_ _=>rfl) rfl rfl (J+K+42) λz A N O D I x c=> ?_;obtain ⟨h,o⟩:=D;have t:=λi=>t z A ab ab (en o 0) (Gn _ _) x i c;have u:=λa i=>u z A ab ab (en o a) (Gn _ _) x i c;have E:(h==0&&o==0)=decide (h=0):=by rw [jU];simp;exact I.zero
 simp only [go_sem,E];refine e.aE ?_ ?_<;>intro j<;>simp only [go_sem,j]
 . exact e.b c (U.refl _) (by simp at j;simp [isName,j])
 have F:0<h:=by simp at j;omega
 refine e.aE ?_ ?_<;>intro s<;>simp only [go_sem,s,F,t]
 . exact e.b c (U.refl _) (by simp at s;simp [isName];omega)
 have H:h<=40:=by simp at s;omega
 refine e.aE ?_ ?_<;>intro q<;>simp only [go_sem,q]
 rotate_left
 . exact e.b c (U.refl _) (by simp [isName,q])
 generalize M:a1 _ _ _ _ _ _ _ _ _ _=B;revert B;have hF:=trivial;refine dA [0] (λn=> ∀a,a<n->qd (en o a)=true) h (λa k=>by omega) ?_ ?_
 . intro n L i y w hF;simp only [go_sem,hF,y,u n];refine au.aE ?_ ?_<;>intro r<;>simp only [go_sem,r]
   . refine au.next () rfl (λa k=> ?_) ay;rcases aov.1 k with k|rfl
     . exact w a k
     . exact r
   . refine au.stop rfl ?_;simp only [go_sem,hF];exact e.b c (U.refl _) (by simp [isName];exact λ_ _ _=>⟨n,y,r⟩)
 . intro L i w hF;simp only [go_sem,hF];exact e.b c (U.refl _) (by simp [isName,q];exact ⟨⟨ab,H⟩,w⟩)
def abw:d G R 102 (λp:Nat×Nat=>T p.1 p.2) (λp=> [.str p.1 p.2]) (λp=> .bool (!isName p.1 p.2)):=by
 obtain ⟨h,a⟩:=MP;refine d.run (m:=5) rfl rfl rfl rfl (λ_=>rfl) (λ_ _=>rfl) rfl rfl h λj l o q f g c b=> ?_;obtain ⟨i,k⟩:=f;have a:=λn=>a j l ab ab (i,k) g c n b;simp only at a;simp only [go_sem,a];exact e.mk rfl b (U.refl _)
open Classical in
theorem PY {P:List aa->Prop} {f:Nat} {g:List aa->List aa} {rows:Y} {ad n:Nat} {H:af} (ag: ∀r∈rows,∃b,(b=true->P r)/\ ∀tm,az G (X G R ad n) f (g r) H tm= .ok (.bool b) tm H): ∃p:List aa->Bool,∀r∈rows,(p r=true->P r)/\ ∀tm,az G (X G R ad n) f (g r) H tm= .ok (.bool (p r)) tm H:=by
 refine ⟨λr=>if bh: ∃b,(b=true->P r)/\ ∀tm,az G (X G R ad n) f (g r) H tm= .ok (.bool b) tm H then bh.choose else false,λr bh=> ?_⟩
 grind
def Vp:d G R 112 (λp:Nat×Nat=>T p.1 p.2) (λp=> [.str p.1 p.2]) (λp=> .bool (isName p.1 p.2&& !eD.any (isStr p.1 p.2))):=by
 obtain ⟨u,a⟩:=MP;obtain ⟨v,g⟩:=Jj;obtain ⟨w,h⟩:=oZ 1000 al;refine d.run (m:=10) rfl rfl rfl rfl (λ_=>rfl) (λ_ _=>rfl) rfl rfl (u+v+w) λi j x y o t f c=> ?_;obtain ⟨l,n⟩:=o;have a:=λk=>a i j ab ab (l,n) t f k c;have g:=λk=>g i j ab ab f k c;have r:F (.A eD true) eD:= .inr ⟨_,rfl⟩;have h:=h i j ab ab (.A eD true) eD l n f AT al c r.cw;simp only at a;simp -implicitDefEqProofs only [go_sem,a];refine e.aE ?_ ?_<;>intro q<;>simp -implicitDefEqProofs only [go_sem,q,g,h]
 all_goals exact e.b c (U.refl _) ai
theorem hZ.look {b bJ:List aa} {kN aw:Y} (d:hZ b bJ (eD++kN) aw) (l m:Nat):F (jX false .V (c2 (cU l m) b bJ 0)) (mj kN aw l m):=by
 have c:=d.ex l m;have a:=d.v l m;unfold jr at c a;unfold mj my;rw [<-c]
 cases e:c2 (cU l m) b bJ 0 with
 |none=>exact .inl ⟨rfl,rfl⟩
 |some f=>rw [e] at a;exact a f.2 rfl
def hZ.same {a bJ:List aa} {kN aw:Y} (b:hZ a bJ kN aw):cN (.ck a bJ) (.ck a bJ)=true:=ER (ES b.k) (m5 _ λf e=>by obtain ⟨g,c,d⟩:=b.s f e;exact c.same (qI d))
section
variable {ax:aa} {s:List aa} {kN aw rop ao aJ:Y} (ag:dO ax s kN aw rop ao aJ)
include ag
def q2 (kN:Y) (r:List aa):Prop:= ∀f g a d e c,fB r f g a d e c->a.length<=8/\(∀h∈c,∃b:Int,h= [.int .i64 b]/\1<=b/\b<=a.length)/\c.Pairwise (· ≠ ·)/\kN.any (isStr d e)=true
omit ag in
theorem fB.uniq {r l m args ls ms st wc J6 F_ J4 Kb eL} (ag:fB r l m args ls ms st) (g:fB r wc J6 F_ J4 Kb eL):l=wc/\m=J6/\args=F_/\ls=J4/\ms=Kb/\st=eL:=by obtain ⟨a,p,s,i,j,e,r4,r5,-⟩:=ag.eq;obtain ⟨uR,agq,s',vD,tt,BD,YG,YH,-⟩:=g.eq;rw [e] at BD;simp only [jn,aa.str.injEq] at BD;obtain ⟨⟨rfl,rfl⟩,rfl,⟨rfl,rfl⟩,-,-,-,rfl,-⟩:=BD;exact ⟨rfl,rfl,qe r4 YG,rfl,rfl,qe r5 YH⟩
omit ag in
theorem TN {x:List aa} (bj:c6 x) {l m args ls ms st} (b9:fB x l m args ls ms st) (i:Int) (ad n:Nat) (H:af) (hw:Z H) (id:Nat) (ku:H.get id=some (.cells (q 52) (q 52) 0 x)) (tm:List aa):
  az G (X G R ad (n+1)) 180 [.int .i64 i,.ptr id (q 52) 0 7] H tm= .ok (.bool (decide (i>=1)&&decide (i<=args.length))) tm H:=by
 obtain ⟨a,p,s,vD,tt,rfl,eO,bB,⟨gm,aeW,-⟩⟩:=b9.eq;refine fa (aL.at (m:=11) (rs:= [.tmp 3]) rfl rfl rfl rfl rfl rfl rfl rfl ?_) tm;simp only [go_sem];refine ak.aE ?_ ?_<;>intro g<;>simp only [go_sem,g,ku,eO.O,eO.len]
 all_goals exact ak.mk ai rfl hw (U.refl _)
end
structure nm (kN rop j3:Y):Prop where
  names:((rop.map λr=> [M r 0])++(j3.map λr=> [M r 0])).Pairwise (· ≠ ·)
  ops: ∀r∈rop,q2 kN r
  len:rop.length+j3.length<=200
def Kg {rows:Y} (b: ∀r∈rows,c6 r):b8 (rows.map λr=> [M r 0]):=λr c=>by
 obtain ⟨g,d,rfl⟩:=cd.1 c;obtain ⟨e,f,i,l,m,p,a⟩:=b g d;obtain ⟨h,n,o,j,k,rfl,-⟩:=a.eq;exact ⟨e,f,rfl,a.c5,a.s1⟩
def Qz {E:Env} {cf:cb} {fid f t:Nat} {ops:Array Oper} {g:Array Nat} {ty:Nat} {e:String} {a:Array Edge} {tm:List aa} {H:af} {ds} (d:aD (O t (M tm t))=true):
    dv E cf fid ops [⟨none,.defer ⟨.value (.func f), #[.tmp t],g⟩,ty,e,a,none⟩] tm H ds= .normal tm H ((f,[O t (M tm t)])::ds):=by
 have b:B E tm (.tmp t)=O t (M tm t):=rfl;have c:B E tm (.func f)= .fn (.func f) [] []:=rfl;generalize O t (M tm t)=h at*;simp [dv,cJ,b,c,d,cH,bu]
def QP {E:Env} {cf:cb} {g:bU} {ad fid:Nat} {a b c:Code} {tm:List aa} {H:af} {d} {P:bP->Prop} (M:List aa->af->Prop) (j:dD M ⟨⟩ (evalCode E cf g ad fid a tm H [])) (k: ∀f e,M f e->evalCode E cf g ad fid b f e []= .normal f e d/\P (evalCode E cf g ad fid c f e [])):
    ∃r,evalCode E cf g ad fid (.seq a (.seq b c)) tm H []=mm d r/\P r:=by
 obtain ⟨f,e,h,l⟩:=j;obtain ⟨i,m⟩:=k f e l;refine ⟨_,?_,m⟩;rw [evalCode,h];simp only;rw [evalCode,i];exact QG E cf g ad fid d c f e
def an.end_ {Q:bP->Prop} {r:bP} (a:an (λ_ _=>False) Q ⟨⟩ r):Q r:=by
 rcases a with ⟨_,_,_,a⟩|⟨_,a⟩
 all_goals grind
def YE {fid d:Nat} {v:aa} {tm:List aa} (a:G.loc fid d=false):cH G fid (some d) v tm=some (r tm d v):=by
 unfold cH;simp [a,nX]
def GD {cf:cb} {ad:Nat} {id:Nat} {b:Code} {i:Nat} {ty:Nat} {f:String} {d:Array Edge} {c:Option aa} {tm:List aa} {H:af}:
    k6 G cf R ad 61 (.seq (.region i #[⟨some 5,.call ⟨.builtin .recover, #[], #[]⟩,ty,f,d,none⟩] false) (.block id b)) c tm H=(evalCode G cf R ad 61 (.block id b) (r tm 5 (c.getD .dj)) H [],none):=by
 have e: ∀a tm,cH G 61 (some 5) a tm=some (r tm 5 a):=λa tm=>YE dC;simp only [k6,jN,cJ,e]
theorem GC {cf:cb} {ad id g:Nat} {H:af} {c:Option aa} {L:List aa} {H':af} (e: ∀b,f61.body=some b->k6 G cf R ad 61 b c ([.ptr id g 0 4]++List.replicate 13 (.av [])) H=(.normal L H' [],none)):mv G cf R ad 61 [.ptr id g 0 4] c H= .ok none H':=by unfold mv;rw [show G.fns 61=some f61 from rfl];have a: ∃b,f61.body=some b:=⟨_,rfl⟩;obtain ⟨b,a⟩:=a;have d:=e b a;simp only [a];rw [if_pos (by show 1<=14;decide)];rw [show List.replicate (f61.ntmps- [aa.ptr id g 0 4].length) (aa.av [])=List.replicate 13 (.av []) from rfl,d];rfl
@[go_sem ↓] theorem ad8 (E cf fid) (d ty pos b1 g tm H) (x ss a ok):evalOp E cf fid ⟨d,.typeAssert x ss a ok,ty,pos,b1,g⟩ tm H=bb (sD E (B E tm x) ss a ok) tm H:=rfl
def Ox (v):sD G (.iface 78 v) 20 78 true=some (.av [v,.bool true]):=aq
def OU:b4 G .eql 20 .dj .dj=some (.bool true):=aq
def OT (t v):b4 G .eql 20 (.iface t v) .dj=some (.bool false):=aq
theorem PI {cf:cb} {ad id g:Nat} {H:af}:mv G cf R ad 61 [.ptr id g 0 4] none H= .ok none H:=by
 refine GC (L:= ?_) λb a=> ?_
 rotate_left
 . cases a;rw [GD];simp -implicitDefEqProofs only [go_sem,Option.getD,OU];exact rfl
theorem PJ {cf:cb} {ad id g d:Nat} {H:af} {c:Int} {l m:Nat} {a b:Int} {h i j k:aa} (f:H.get id=some (.cells g d 0 [h,i,j,k])):
  mv G cf R ad 61 [.ptr id g 0 4] (some (.iface 78 (.agg [.int .i64 c,.str l m,.int .i64 a,.int .i64 b]))) H= .ok none (H.set id (.cells g g 0 [.int .i64 c,.str l m,.int .i64 a,.int .i64 b])):=by
 refine GC (L:= ?_) λb e=> ?_
 rotate_left
 . cases e;rw [GD];simp -implicitDefEqProofs only [go_sem,Option.getD,OT,Ox,f];exact rfl
structure gf (kN jv rop j3 m4:Y):Prop where
  v:nm kN rop j3
  s: ∀r∈rop,∀l m args ls ms st,fB r l m args ls ms st->st≠ []->pt kN jv m4 ls ms=false
def px:List aa:= [.int .i64 0,.str 0 0,.int .i64 0,.int .i64 0]
structure ec (K:Nat) (H:af) (fv:aa):Prop where
  nl:aD fv=true
  op: ∀t,O t fv=fv
  ok:J fv=true
  cs:fv.cells= [fv]
  ids:y H.n 20 fv=true
  f: ∃f a c,fv= .fn (.func f) a c
  call: ∀ad n,K<=ad->K<=n-> ∀H',U H H'->Z H'-> ∀l m tm,T l m->l<4611686018427387904->cx G (X G R ad n) fv [.str l m] H' tm= .ok (.str l m) tm H'
def ec.up {K:Nat} {H H' fv} (a:ec K H fv) (b:U H H'):ec K H' fv:=⟨a.nl,a.op,a.ok,a.cs,kz b.n 20 fv a.ids,a.f,λh i d e c g=>a.call h i d e c (b.trans g)⟩
def CA {f:Nat} {args:List aa} {ad n:Nat} {H:af} {v:aa} (b: ∃w H',(w=v/\H'=H)/\ ∀tm,az G (X G R ad n) f args H tm= .ok w tm H'): ∀tm,az G (X G R ad n) f args H tm= .ok v tm H:=by
 obtain ⟨w,H',⟨rfl,rfl⟩,a⟩:=b;exact a
def ec.mono {K L:Nat} {H fv} (a:ec K H fv) (g:K<=L):ec L H fv:=⟨a.nl,a.op,a.ok,a.cs,a.ids,a.f,λb c d e=>a.call b c ab ab⟩
def Tn (H:af):ec 1 H (.fn (.func 75) [] []):=by
 refine ⟨rfl,λ_=>rfl,rfl,rfl,rfl,⟨_,_,_,rfl⟩,λg a _ e d _ b f h c _ _=> ?_⟩;obtain ⟨a,rfl⟩:=bY a;simp only [eg,a6,fw];refine CA (bn.at (m:=3) (rs:= [.tmp 2]) rfl rfl rfl rfl rfl rfl rfl rfl ?_) c;simp only [go_sem];exact bn.mk ⟨rfl,gV b (U.refl _) rfl⟩
def To (H:af):ec 1 H (.fn (.func 288) [] []):=by
 refine ⟨rfl,λ_=>rfl,rfl,rfl,rfl,⟨_,_,_,rfl⟩,λg a _ e d _ b f h c _ _=> ?_⟩;obtain ⟨a,rfl⟩:=bY a;simp only [eg,a6,fw];refine jQ (aL.at (m:=3) (rs:= [.tmp 2]) rfl rfl rfl rfl rfl rfl rfl rfl ?_) c;simp only [go_sem];exact ak.mk rfl rfl b (U.refl _)
def IJ {H:af} {p:Nat} {fv:aa} {g a:Nat} (i:H.get p=some (.cells g a 0 [fv])) (f:a<=g) (k:H.l.length=H.n) {K:Nat} (s:1<=K) (h: ∀ad n,K<=ad->K<=n-> ∀H',U H H'->Z H'-> ∀l m tm,T l m->l<4611686018427387904->cx G (X G R ad n) fv [.str l m] H' tm= .ok (.str l m) tm H') (q: ∀t,O t fv=fv):
    ∀ad n,K+1<=ad->K+1<=n-> ∀H',U H H'->Z H'-> ∀l m tm,T l m->l<4611686018427387904->cx G (X G R ad n) (.fn (.func 145) [] [.ptr p g 0 1]) [.str l m] H' tm= .ok (.str l m) tm H':=by
 intro ad n u v H' b c l m tm r o;obtain ⟨n,rfl⟩:=bY n;have j:=b.get k i;have d:=λtm=>h ad n ab ab H' b c l m tm r o;simp only [eg,a6,bl];refine CA (bn.at (m:=8) (rs:= [.tmp 3]) rfl rfl rfl rfl rfl rfl rfl rfl ?_) tm;simp only [go_sem];refine bn.aE ?_ ?_<;>intro e<;>simp only [go_sem,e,j,f,q,d]
 all_goals exact bn.mk ⟨rfl,gV c (U.refl _) rfl⟩
def L_ {l m:Nat} (a:T l m):e_ l m+jM l m=l/\fL l m+k5 l m<<<(8*e_ l m)=m:=by
 unfold e_ jM fL k5
 cases d:jk l m with
 |false=>simp
 | true=>
   have e:2<l:=by simp [jk] at d;omega
   simp only [if_true];refine ⟨ab,?_⟩;have b:l-(l-2)=2:=ab;rw [b];have f:m<2^(8*l):=by unfold T at a;rwa [show (256:Nat)=2^8 from rfl,<-vW] at a
   have c:m>>>(8*(l-2))<2^(8*2):=by
    rw [yZ];refine Nat.div_lt_of_lt_mul ?_;rw [<-amy]
    rwa [show 8*(l-2)+8*2=8*l by omega]
   rw [tE c,yY,yZ,Nat.add_comm,rK];have:=yU m (2^(8*(l-2)))
   rwa [rK] at this|-
def Tp {H:af} {p:Nat} {fv:aa} {g c:Nat} (r:H.get p=some (.cells g c 0 [fv])) (o:c<=g) (u:H.l.length=H.n) {K:Nat} (x:1<=K) (q: ∀ad n,K<=ad->K<=n-> ∀H',U H H'->Z H'-> ∀l m tm,T l m->l<4611686018427387904->cx G (X G R ad n) fv [.str l m] H' tm= .ok (.str l m) tm H') (w: ∀t,O t fv=fv):
    ∀ad n,K+1<=ad->K+1<=n-> ∀H',U H H'->Z H'-> ∀l m tm,T l m->l<4611686018427387904->cx G (X G R ad n) (.fn (.func 146) [] [.ptr p g 0 1]) [.str l m] H' tm= .ok (.str l m) tm H':=by
 intro ad n y z H' e a l m tm d v;obtain ⟨n,rfl⟩:=bY n;have s:=e.get u r;obtain ⟨b,f⟩:=L_ d;have k:T (e_ l m) (fL l m):=by unfold e_ fL;split;exact T.mod _ _;exact d
 have i:=λtm=>q ad n ab ab H' e a (e_ l m) (fL l m) tm k ab;have j: ∀tm,az G (X G R ad n) 147 [.str l m] H' tm= .ok (.av [.str (e_ l m) (fL l m),.str (jM l m) (k5 l m)]) tm H':=λtm=>MR ad n ab ab (l,m) v H' tm a;have h:e_ l m+jM l m<=ht:=by rw [b];unfold ht;omega
 simp only [eg,a6,bl];refine CA (bn.at (m:=14) (rs:= [.tmp 3]) rfl rfl rfl rfl rfl rfl rfl rfl ?_) tm;simp only [go_sem,s,o,w,i,j,h];rw [b,f];exact bn.mk ⟨rfl,gV a (U.refl _) rfl⟩
def Tq {H:af} {p:Nat} {fv:aa} {g c:Nat} (r:H.get p=some (.cells g c 0 [fv])) (o:c<=g) (u:H.l.length=H.n) {K:Nat} (x:1<=K) (q: ∀ad n,K<=ad->K<=n-> ∀H',U H H'->Z H'-> ∀l m tm,T l m->l<4611686018427387904->cx G (X G R ad n) fv [.str l m] H' tm= .ok (.str l m) tm H') (w: ∀t,O t fv=fv):
    ∀ad n,K+1<=ad->K+1<=n-> ∀H',U H H'->Z H'-> ∀l m tm,T l m->l<4611686018427387904->cx G (X G R ad n) (.fn (.func 225) [] [.ptr p g 0 1]) [.str l m] H' tm= .ok (.str l m) tm H':=by
 intro ad n y z H' e a l m tm d v;obtain ⟨n,rfl⟩:=bY n;have s:=e.get u r;obtain ⟨b,f⟩:=L_ d;have k:T (e_ l m) (fL l m):=by unfold e_ fL;split;exact T.mod _ _;exact d
 have i:=λtm=>q ad n ab ab H' e a (e_ l m) (fL l m) tm k ab;have j: ∀tm,az G (X G R ad n) 147 [.str l m] H' tm= .ok (.av [.str (e_ l m) (fL l m),.str (jM l m) (k5 l m)]) tm H':=λtm=>MR ad n ab ab (l,m) v H' tm a;have h:e_ l m+jM l m<=ht:=by rw [b];unfold ht;omega
 simp only [eg,a6,bl];refine jQ (aL.at (m:=14) (rs:= [.tmp 3]) rfl rfl rfl rfl rfl rfl rfl rfl ?_) tm;simp only [go_sem,s,o,w,i,j,h];rw [b,f];exact ak.mk rfl rfl a (U.refl _)
def aN.RZ {r:List aa} (b:aN r): ∀v∈r,D 19 v=true:=λv a=>by
 obtain ⟨i,l,e,f,g,h,m,n,j,k,rfl,c,d⟩:=b.t;simp only [b2,dG,or_false] at a;rcases a with rfl|rfl|rfl|rfl|rfl|rfl
 . rfl
 . rfl
 . rfl
 . rfl
 . exact c.aI 18
 . exact d.aI 18
def FE (r:List aa) (ad n:Nat):Prop:= ∀(a:af) (d e c:aa),Z a->ec 10 a d->ec 10 a e->ec 10 a c-> ∃b,(aN b/\ah2 b=ah2 r)/\ ∀f,az G (X G R ad n) 226 [.agg r,d,e,c] a f= .ok (.agg b) f a
def Jo (rows:Y) (an: ∀r∈rows,aN r) (ai:rows.length<1048560) (ag:bo λad n=> ∀r∈rows,FE r ad n):
    bo λad n=> ∀x H w y i j l o g h fn,Z H->F x rows->H.get w=some (.cells i l 0 [g])->l<=i->H.get y=some (.cells j o 0 [fn])->o<=j->ec 10 H g->ec 10 H h->ec 10 H fn->
     ∃v,oB (rows.map ah2) v/\ ∀tm,az G (X G R ad n) 287 [x,h,.ptr w i 0 1,.ptr y j 0 1] H tm= .ok v tm H:=by
 obtain ⟨ar,W⟩:=ag;refine ⟨ar+1048570,λad n aE aF x H w y i j l o g h fn hT e av Q ax S D s C=> ?_⟩;obtain ⟨n,rfl⟩:=bY n;refine hg (aL.at (m:=22) rfl rfl rfl rfl rfl (by simp only [aO,e.aD,s.nl];rfl) rfl rfl ?_);simp only [go_sem,e.O,e.len];have hF:=trivial;generalize aC:a1 _ _ _ _ _ _ _ _ _ _=L;revert L;refine cv [1,2,3,10] (λb=> [(7,b.1)]) (λb=>b.2) (λu b=>eN ((rows.take u).map ah2) H b.2 b.1 u) rows.length (.V,H) (by exact eN.new H hT) ?_ ?_
 . rintro u ⟨v,c⟩ tm ah a hF;simp only at a hF|-;obtain ⟨r,q⟩:=bA ah;have z:=aV q;have aa:Z c/\U H c:=by obtain ⟨E,-,-,-,M,N⟩:=a;exact ⟨M,N⟩
   obtain ⟨ae,d⟩:=aa;obtain ⟨I,⟨B,al⟩,P⟩:=W ad n ab ab r z c g h fn ae (D.up d) (s.up d) (C.up d);have aw:=d.get hT.1 av;have aA:=d.get hT.1 ax;have af:=jc B c;obtain ⟨aB,K,T,p⟩:=a.app (x:= .A [I] true) (aQ:= [I]) (.inl (.inr ⟨_,rfl⟩)) (λE aj=>by rw [bs.1 aj];exact B) (by show _+1<_;omega);rw [al2,al,<-al2 (f:=ah2),<-vR,<-od q] at p;obtain ⟨aP,aR,aG,aH,aI,aJ,aS,E,aM,aK,rfl,aq,ao⟩:=(an r z).t;simp only [go_sem,hF,e.O,e.a_ (k:=6) q rfl,aq.J,ao.J,aw,Q,aA,S,D.op,s.op,C.op,a.O,P,af,bH,T,p.O];exact au.next (aB,K) rfl p ay
 . rintro ⟨v,c⟩ tm a hF;simp only at a hF;simp only [go_sem,hF,a.O,a.nl,dX,if_true];rw [bX] at a;exact ak.B_ hT a ai
def VM {r:List aa} {n:Nat} (aB:e1 r n):n<1048560-> ∃k,∀ad h,k<=ad->k<=h->FE r ad h:=by
 induction aB with
 | @mk r k n t u v w ah Q F G I f K L aD aF=>
 intro aQ;have aA:(F++G).length<=((F++G).map I).sum:=qq λb e=>((cr.1 e).elim (K b) (L b)).pos;have T: ∀b∈F++G,I b<=((F++G).map I).sum:=λb e=>o3 e;rw [bD] at aA;obtain ⟨aG,aw⟩:=Jo F (λb e=>(K b e).wt) ab (dE λb e=>aD b e (by have:=T b (hP _ e);omega));obtain ⟨aH,ax⟩:=Jo G (λb e=>(L b e).wt) ab (dE λb e=>aF b e (by have:=T b (h7 _ e);omega));refine ⟨aG+aH+20,λad h aR aS d l R j X s E p=> ?_⟩;obtain ⟨h,rfl⟩:=bY h;have aC:Z (d.push (.cells (q 130) (q 130) 0 [l])):=X.push (by show [l].all _=true;simp only [aO,kz (mN _) 20 l s.ids];rfl);have C:Z ((d.push (.cells (q 130) (q 130) 0 [l])).push (.cells (q 130) (q 130) 0 [j])):=aC.push (by have aq:y ((d.push (.cells (q 130) (q 130) 0 [l])).n+1) 20 j=true:=kz (by simp [lq];omega) 20 j p.ids;show [j].all _=true;simp only [aO,aq];rfl);have o:U d ((d.push (.cells (q 130) (q 130) 0 [l])).push (.cells (q 130) (q 130) 0 [j])):=((U.refl d).push _).push _;have N:=ta d (.cells (q 130) (q 130) 0 [l]) (.cells (q 130) (q 130) 0 [j]);have P:((d.push (.cells (q 130) (q 130) 0 [l])).push (.cells (q 130) (q 130) 0 [j])).get (d.n+1)=some (.cells (q 130) (q 130) 0 [j]):=dL (d.push _) _;generalize az:(d.push (.cells (q 130) (q 130) 0 [l])).push (.cells (q 130) (q 130) 0 [j])=g at*;obtain ⟨B,⟨aJ,z,⟨af,aN⟩,aU⟩,ar⟩:=aw ad h ab ab ah g _ _ _ _ _ _ _ R _ C f.dh N (aT _) P (aT _) (s.up o) (E.up o) (p.up o);obtain ⟨H,⟨aK,A,⟨ag,aP⟩,aV⟩,au⟩:=ax ad h ab ab Q g _ _ _ _ _ _ _ (.fn (.func 288) [] []) _ C f.cq N (aT _) P (aT _) (s.up o) ((To g).mono al) (p.up o);have ai:=λa=>s.call ad h ab ab g o C t u a f.c5 f.s1;have aj:=λa=>p.call ad h ab ab g o C t u a f.c5 f.s1;have ao:=λa=>E.call ad h ab ab g o C v w a f.pw f.s2;have S:kX [.int .i64 k,.int .i64 n,.str t u,.str v w,B,H] k n t u v w B H aJ aK:=⟨rfl,f.c5,f.pw,f.s1,f.s2,z,A,ab,ab⟩;refine ⟨[.int .i64 k,.int .i64 n,.str t u,.str v w,B,H],⟨.mk S af ag,by rw [ah9 S af ag,ah9 f (λb e=>(K b e).wt) (λb e=>(L b e).wt),aN,aP]⟩,?_⟩;obtain ⟨rfl,Y,ae⟩:=f.c;refine jQ (aL.at (m:=48) (rs:= [.cell 8 35]) rfl rfl rfl rfl rfl (by simp only [aO,s.nl,E.nl,p.nl];rfl) rfl rfl ?_);refine ak.bM (λa i=>g=i/\aM 52 [(2,R),(5,.ptr d.n (q 130) 0 1),(7,.ptr (d.n+1) (q 130) 0 1),(8,.W 0 [.int .i64 0,.int .i64 0,.str 0 0,.str 0 0,.V,.V]),(4,.W 0 [.int .i64 k,.int .i64 n,.str t u,.str v w,ah,Q])] a) ?_ ?_
 . simp only [go_sem,Y.J,ae.J,s.op,s.ok,s.cs,p.op,p.ok,p.cs,az];exact an.mk ⟨rfl,dC⟩
 rintro a _ ⟨rfl,hF⟩;refine ak.bF hF (λx a i=>g=i/\x a) ?_ ?_
 . simp only [go_sem,hF]
   iterate 4 all_goals try (refine an.aE ?_ ?_<;>intro av<;>simp only [go_sem,hF,av,N,P,s.op,E.op,p.op,ai,aj,ao])
   all_goals exact an.mk ⟨rfl,ay⟩
 clear hF;rintro a _ ⟨rfl,hF⟩;refine ak.bF hF (λx a i=>g=i/\aM 52 [(9,.fn (.func 287) [] [.ptr d.n (q 130) 0 1,.ptr (d.n+1) (q 130) 0 1])] a/\x a) ?_ ?_
 . simp only [go_sem,hF];exact an.mk ⟨rfl,ay⟩
 clear hF;rintro a _ ⟨rfl,hF⟩;refine ak.np [2,5,7,8] (λx a i=>g=i/\M a 4= .W 0 [.int .i64 k,.int .i64 n,.str t u,.str v w,B,Q]/\M a 9= .fn (.func 287) [] [.ptr d.n (q 130) 0 1,.ptr (d.n+1) (q 130) 0 1]/\x a) ?_ ?_
 . simp only [go_sem,hF,E.op,Y.O,ar,z.O,z.J,z.cells];exact an.mk ⟨rfl,ay⟩
 clear hF;rintro a _ ⟨rfl,hF⟩;refine ak.np [2,5,7,8,9] (λx a i=>g=i/\M a 4= .W 0 [.int .i64 k,.int .i64 n,.str t u,.str v w,B,H]/\x a) ?_ ?_
 . simp only [go_sem,hF,ae.O,au,A.O,A.J,A.cells];exact an.mk ⟨rfl,ay⟩
 clear hF;rintro a _ ⟨rfl,hF⟩;simp only [go_sem,hF,z.J,A.J];exact ak.mk rfl (by show (([.int .i64 k,.int .i64 n,.str t u,.str v w,B,H]:List aa).all (D 19))=true;simp only [aO,z.aI 18,A.aI 18];rfl) X o
def Tr {K:Nat} (d:1<=K) {H:af} {p:Nat} {fv:aa} {g a:Nat} (c:H.get p=some (.cells g a 0 [fv])) (f:a<=g) (h:H.l.length=H.n) (b:ec K H fv):ec (K+1) H (.fn (.func 225) [] [.ptr p g 0 1]):=
 ⟨rfl,λ_=>rfl,rfl,rfl,by have e:Nat.blt p H.n=true:=h_ (gW c);show ([].all (y H.n 19)&& [aa.ptr p g 0 1].all (y H.n 19))=true;simp only [aO,jm,y,e];rfl,⟨_,_,_,rfl⟩,Tq c f h d b.call b.op⟩
def l9 (r:List aa) (ad n:Nat):Prop:= ∀(H:af) (b:aa),Z H->ec 9 H b-> ∃a,(aN a/\ah2 a=ah2 r)/\ ∀c,az G (X G R ad n) 150 [b,.agg r] H c= .ok (.agg a) c H
def Jn {r:List aa} {n:Nat} (i:e1 r n) (hN:n<1048560): ∃k,∀ad c,k<=ad->k<=c->l9 r ad c:=by
 obtain ⟨F,u⟩:=VM i hN;refine ⟨F+20,λad c K L H a l b=> ?_⟩;obtain ⟨c,rfl⟩:=bY c;have o:Z (H.push (.cells (q 192) (q 192) 0 [a])):=l.push (by show [a].all _=true;simp only [aO,kz (mN _) 20 a b.ids];rfl);have f:U H (H.push (.cells (q 192) (q 192) 0 [a])):=(U.refl H).push _;have p:(H.push (.cells (q 192) (q 192) 0 [a])).get H.n=some (.cells (q 192) (q 192) 0 [a]):=dL _ _;have G: ∀d,H.push (.cells (q 192) (q 192) 0 [a])=d->d=d:=λ_ _=>rfl;generalize w:H.push (.cells (q 192) (q 192) 0 [a])=d at*;obtain ⟨g,⟨e,j⟩,s⟩:=u ad c ab ab d _ a a o (Tr al p (aT _) o.1 (b.up f)) ((b.up f).mono al) ((b.up f).mono al);refine ⟨g,⟨e,j⟩,jQ (aL.at (m:=10) (rs:= [.cell 4 35]) rfl rfl rfl rfl rfl (by simp only [aO,b.nl];rfl) rfl rfl ?_)⟩;obtain ⟨ag,ai,M,O,P,Q,an,aq,X,ae,rfl,z,B⟩:=i.wt.t;have y:=e.row;have I:g.all J=true:=ba.2 λv h=>(y.2 v h).1;have x:D 20 (.agg g)=true:=by show g.all (D 19)=true;exact ba.2 λv h=>aN.RZ e v h
 clear j;obtain ⟨ah,aj,S,T,V,W,ao,ar,Y,af,rfl,C,E⟩:=e.t;simp only [go_sem,z.J,B.J,C.J,E.J,b.op,b.ok,b.cs,w,p,s];exact ak.mk rfl x l f
def y_ (rows:Y) (T: ∀r∈rows,aN r) (M:rows.length<1048560) (K:bo λad n=> ∀r∈rows,l9 r ad n):
    bo λad n=> ∀x H e,Z H->F x rows->ec 9 H e-> ∃v,oB (rows.map ah2) v/\ ∀tm,az G (X G R ad n) 151 [e,x] H tm= .ok v tm H:=by
 obtain ⟨ae,C⟩:=K;refine ⟨ae+1048570,λad n ah ai x H e hT d i=> ?_⟩;obtain ⟨n,rfl⟩:=bY n;refine hg (aL.at (m:=20) rfl rfl rfl rfl rfl (by simp only [aO,d.aD,i.nl];rfl) rfl rfl ?_);simp only [go_sem,d.O,d.len];have hF:=trivial;generalize ag:a1 _ _ _ _ _ _ _ _ _ _=u;revert u;refine cv [0,8] (λb=> [(5,b.1)]) (λb=>b.2) (λj b=>eN ((rows.take j).map ah2) H b.2 b.1 j) rows.length (.V,H) (by exact eN.new H hT) ?_ ?_
 . rintro j ⟨v,c⟩ tm L a hF;simp only at a hF|-;obtain ⟨r,h⟩:=bA L;have l:=aV h;have D:Z c/\U H c:=by obtain ⟨p,-,-,-,w,y⟩:=a;exact ⟨w,y⟩
   obtain ⟨E,S⟩:=D;obtain ⟨q,⟨o,Q⟩,z⟩:=C ad n ab ab r l c e E (i.up S);have I:=jc o c;obtain ⟨af,s,B,g⟩:=a.app (x:= .A [q] true) (aQ:= [q]) (.inl (.inr ⟨_,rfl⟩)) (λp P=>by rw [bs.1 P];exact o) (by show _+1<_;omega);rw [al2,Q,<-al2 (f:=ah2),<-vR,<-od h] at g;obtain ⟨av,aw,aj,al,an,ao,ax,p,ar,aq,rfl,aa,W⟩:=(T r l).t;simp only [go_sem,hF,d.O,d.a_ (k:=6) h rfl,aa.J,W.J,i.op,a.O,z,I,bH,B,g.O];exact au.next (af,s) rfl g ay
 . rintro ⟨v,c⟩ tm a hF;simp only at a hF;simp only [go_sem,hF,a.O,a.nl,dX,if_true];rw [bX] at a;exact ak.B_ hT a M
def hi {α:Type} (N:List aa->α) (R:List aa->Prop) (el k:Nat) (a7 H:af) (v:aa) (A:List α):Prop:= ∃a,bd a7.n el k a.length H a v/\(Rows k a/\a.map N=A/\ ∀b∈a,R b)/\Z H/\U a7 H
section
variable {α:Type} {N:List aa->α} {R:List aa->Prop} {el k:Nat} {a7 H:af} {v:aa} {A:List α}
theorem hi.O (a:hi N R el k a7 H v A) (t):O t v=v:=by obtain ⟨b,a,-⟩:=a;exact a.O t
theorem hi.nl (a:hi N R el k a7 H v A):aD v=true:=by obtain ⟨b,a,-⟩:=a;exact a.aD
theorem hi.ok (a:hi N R el k a7 H v A):v.cells= [v]/\J v=true:=by obtain ⟨b,a,-⟩:=a;exact a.cells
theorem hi.new (N:List aa->α) (R) (el k:Nat) (H:af) (b:Z H):hi N R el k H H .V []:=⟨[],bd.nil,⟨λ_ a=>(by cases a),rfl,λ_ a=>(by cases a)⟩,b,U.refl _⟩
theorem hi.app {t b:Nat} {i:TypeInfo} (C:aW G t=some (.slice el)) (hT:G.T el=some i) (w:i.size=k) (s:i.bytes=b) (y:0<k) (u:b<=4096) (f:hi N R el k a7 H v A) {r:List aa} (z:r.length=k/\ ∀v∈r,J v=true/\D 20 v=true) (p:R r) (I:A.length+1<1048560):
  ∃e H',cI G t t v (.A [r] true) H=some (e,H')/\hi N R el k a7 H' e (A++ [N r]):=by
 obtain ⟨d,E,⟨m,h,q⟩,B,l⟩:=f;have K:d.length=A.length:=by rw [<-h,di]
 have g:Rows k [r]:=λc a=>by rw [bs.1 a];exact z
 obtain ⟨e,H',o,F,j⟩:=E.app (x:= .A [r] true) (aQ:= [r]) C hT w s y u B l.n m (dR (.inr ⟨_,rfl⟩) g.len) g (by have:(d.length+ [r].length)*(b+1)<=1048560*4097:=kF (by show d.length+1<=_;omega) ab;unfold b7;omega) (by show _+1<_;omega);exact ⟨e,H',o,d++ [r],by rw [bD];exact F,⟨λc a=>(cr.1 a).elim (m c) (g c),by rw [vR,h];rfl,λc a=>(cr.1 a).elim (q c) λf=>by rw [bs.1 f];exact p⟩,j.tidy,j.up a7 (aT _) l⟩
end
def kt (d:List aa) (i:Nat):Nat×Nat:=match M d i with
 | .str a b=>(a,b)
 |_=>(0,0)
def aly (r:List aa) (k:Nat):Int:=match M r k with
 | .int _ a=>a
 |_=>0
def als (r:List aa):List aa:=r.take 6
def alu (r:List aa):List aa:=(r.drop 6).take 6
def ali (r:List aa):Y:=f (M r 12)
noncomputable def alp (r:List aa):ak1×ak1×List ak1×aa×aa:=(ah2 (als r),ah2 (alu r),(ali r).map ah2,M r 13,M r 14)
noncomputable def ak8 (r:List aa):aa×aa×ak1×aa×aa:=(M r 0,M r 1,ah2 (dQ r),M r 8,M r 9)
noncomputable def alc (r:List aa):aa×aa×ak1×List ak1×aa×aa:=(M r 0,M r 1,ah2 (dd r),(cu r).map ah2,M r 9,M r 10)
noncomputable def ald (r:List aa):aa×List (aa×aa×ak1×List ak1×aa×aa)×List ak1×List (List ak1)×Y×aa×aa:=(M r 0,(f (M r 1)).map alc,(f (M r 2)).map ah2,(f (M r 3)).map (λa=>(cC a).map ah2),f (M r 4),M r 5,M r 6)
theorem amH {L R:List aa} {i a b:aa} (c:L.length=6) (d:R.length=6):alp (L++R++ [i,a,b])=(ah2 L,ah2 R,(f i).map ah2,a,b):=by
 match L,c with
 | [_,_,_,_,_,_],_=>match R,d with
   | [_,_,_,_,_,_],_=>rfl
theorem ami {n s a b:aa} {c:List aa} (d:c.length=6):ak8 ([n,s]++c++ [a,b])=(n,s,ah2 c,a,b):=by
 match c,d with
 | [_,_,_,_,_,_],_=>rfl
theorem amN {n s i a b:aa} {L:List aa} (c:L.length=6):alc ([n,s]++L++ [i,a,b])=(n,s,ah2 L,(f i).map ah2,a,b):=by
 match L,c with
 | [_,_,_,_,_,_],_=>rfl
def xi {α:Type} (N:List aa->α) (R:List aa->Prop) (k:Nat) (A:List α) (v:aa):Prop:= ∃a,F v a/\(Rows k a/\a.map N=A/\ ∀b∈a,R b)/\a.length<1048560
def ak.Sr {α:Type} {N:List aa->α} {R:List aa->Prop} {A:List α} {el k a H v} (e:0<k) (h:Z a) (b:hi N R el k a H v A) (d:A.length<1048560):ak (xi N R k A) bQ a (.ret v H):=by
 obtain ⟨i,g,c,j,f⟩:=b;exact ak.W e h c.1 g (aT _) f λl b=>⟨i,b,c,by rw [<-c.2.1,di] at d;exact d⟩
def O2 {r} (a:r.length=10/\ ∀v∈r,J v=true/\D 20 v=true) (H:af):cT G 28 1 [(0,.agg r)] H=some (.A [r] true,H):=
 mo (E:=G) (t:=28) (el:=83) (k:=10) (H:=H) (z:= .agg [.str 0 0,.str 0 0,.int .i64 0,.int .i64 0,.str 0 0,.str 0 0,.V,.V,.int .i64 0,.int .i64 0]) aq aq aq al rfl al (.agg r) ⟨a.1,ba.2 λv b=>(a.2 v b).1,ba.2 λv b=>(a.2 v b).2⟩
def Jm (rows:Y) (av: ∀r∈rows,iz r) (ar:rows.length<1048560) (an:bo λad n=> ∀r∈rows,l9 (dQ r) ad n):
    bo λad n=> ∀x H g,Z H->F x rows->ec 9 H g-> ∃v,xi ak8 iz 10 (rows.map ak8) v/\ ∀tm,az G (X G R ad n) 149 [g,x] H tm= .ok v tm H:=by
 obtain ⟨aC,ah⟩:=an;refine ⟨aC+1048570,λad n aJ aK x H g hT e f=> ?_⟩;obtain ⟨n,rfl⟩:=bY n;refine hg (aL.at (m:=33) rfl rfl rfl rfl rfl (by simp only [aO,e.aD,f.nl];rfl) rfl rfl ?_);simp only [go_sem,e.O,e.len];have hF:=trivial;generalize aI:a1 _ _ _ _ _ _ _ _ _ _=W;revert W;refine cv [0,8] (λd=> [(5,d.1)]) (λd=>d.2) (λQ d=>hi ak8 iz 83 10 H d.2 d.1 ((rows.take Q).map ak8)) rows.length (.V,H) (by exact hi.new _ _ _ _ H hT) ?_ ?_
 . rintro Q ⟨v,c⟩ tm ao a hF;simp only at a hF|-;obtain ⟨r,h⟩:=bA ao;have N:=aV h;have aj:Z c/\U H c:=by obtain ⟨aE,-,-,aa,ae⟩:=a;exact ⟨aa,ae⟩
   obtain ⟨y,B⟩:=aj;have s:=Wo ak8 h;obtain ⟨S,⟨z,A⟩,I⟩:=ah ad n ab ab r N c g y (f.up B);obtain ⟨aG,aH,E,p,q,rfl,⟨i,l,rfl,C⟩,⟨j,o,rfl,D⟩,u,⟨p,rfl⟩,⟨q,rfl⟩⟩:=av r N;rw [show dQ ([.str i l,.str j o]++E++ [.int .i64 p,.int .i64 q])=E by unfold dQ;rw [fu,qh ai];simp [u.len]] at I A;have M:iz ([.str i l,.str j o]++S++ [.int .i64 p,.int .i64 q]):=⟨_,_,S,_,_,rfl,⟨_,_,rfl,C⟩,⟨_,_,rfl,D⟩,z,⟨_,rfl⟩,⟨_,rfl⟩⟩;have P:=M.row;rw [ami u.len,<-A,<-ami z.len] at s;have L:=O2 P c;obtain ⟨aF,T,K,w⟩:=a.app (t:=28) (b:=144) aq B4 rfl rfl al al P M (by rw [di,h6];omega);rw [<-s] at w;clear s A;have af:=λtm=>f.call ad n ab ab c B y i l tm C.1 C.2;have ag:=λtm=>f.call ad n ab ab c B y j o tm D.1 D.2;obtain ⟨a7,ba,aM,aN,aP,aQ,bc,aE,aX,aW,rfl,ax,aw⟩:=u.t;obtain ⟨a8,bb,aR,aS,aT,aU,bd,bf,aY,aZ,rfl,aA,aB⟩:=z.t;simp only [bl,a6] at h L K;simp only [go_sem,hF,e.O,e.a_ (k:=10) h rfl,ax.J,aw.J,aA.J,aB.J,f.op,af,ag,a.O,I,L,bH,K,w.O];exact au.next (aF,T) rfl w ay
 . rintro ⟨v,c⟩ tm a hF;simp only at a hF;simp only [go_sem,hF,a.O,a.nl,dX,if_true];rw [bX] at a;exact ak.Sr al hT a (by rw [di];exact ar)
def xx {r} (a:r.length=11/\ ∀v∈r,J v=true/\D 20 v=true) (H:af):cT G 61 1 [(0,.agg r)] H=some (.A [r] true,H):=
 mo (E:=G) (t:=61) (el:=85) (k:=11) (H:=H) (z:= .agg [.str 0 0,.str 0 0,.int .i64 0,.int .i64 0,.str 0 0,.str 0 0,.V,.V,.V,.int .i64 0,.int .i64 0]) aq aq aq al rfl al (.agg r) ⟨a.1,ba.2 λv b=>(a.2 v b).1,ba.2 λv b=>(a.2 v b).2⟩
def O3 {v} (a:J v=true/\D 20 v=true) (H:af):cT G 62 1 [(0,.agg [v])] H=some (.A [[v]] true,H):=
 mo (E:=G) (t:=62) (el:=114) (k:=1) (H:=H) (z:= .agg [.V]) aq aq aq al rfl al (.agg [v]) ⟨rfl,by show [v].all J=true;grind,by show [v].all (D 20)=true;grind⟩
def oB.aI {A v} (b:oB A v):(∀t,O t v=v)/\J v=true/\v.cells= [v]/\ ∀d,D (d+1) v=true:=by
 obtain ⟨c,a,-⟩:=b;exact ⟨a.O,a.J,a.cells,a.aI⟩
def Vi {r:List aa} (bc:lI r) {N:Nat} (hT:bL (pf r) N) (hN:N<50000):bo λad n=> ∀H s,Z H->ec 9 H s-> ∃P,((P.length=7/\ ∀v∈P,J v=true/\D 20 v=true)/\lI P/\ald P=ald r)/\ ∀tm,az G (X G R ad n) 152 [s,.agg r] H tm= .ok (.agg P) tm H:=by
 obtain ⟨eU,bf,h,a,bj,bI,bJ,rfl,⟨e,g,rfl,cz⟩,⟨aD,aK,du,eH⟩,⟨cG,br,dq,eC⟩,⟨aY,aR,dz,eJ⟩,⟨ag,bb,bU,dp⟩,⟨o,rfl⟩,⟨p,rfl⟩⟩:=bc;rw [LA aK br aR] at hT;have ds:=hT.len;simp only [bD,di] at ds;have cw:=hT.right;have bS: ∀ {b4:Y},bL b4 N->bo λad n=> ∀r∈b4,l9 r ad n:=λaC=>dE λr bc=>Jn (aC.g_ bc).1 (by have:=(aC.g_ bc).2;omega);obtain ⟨dS,bN⟩:=dE (l:=aD) (Q:=λq ad n=>l9 (dd q) ad n/\ ∀aB H s,Z H->F aB (cu q)->ec 9 H s-> ∃v,oB ((cu q).map ah2) v/\ ∀tm,az G (X G R ad n) 151 [s,aB] H tm= .ok v tm H) λq bW=>by obtain ⟨e,bK⟩:=bS (hT.left.one (cd.2 ⟨q,bW,rfl⟩));have B:=cw.left.left.flat (cd.2 ⟨q,bW,rfl⟩);have:=B.len;obtain ⟨cj,aA⟩:=y_ (cu q) B.wt ab (bS B);exact ⟨e+cj,λad n b1 b3=>⟨bK ad n ab ab _ (bs.2 rfl),λaB H s=>aA ad n ab ab aB H s⟩⟩
 obtain ⟨dT,bO⟩:=y_ cG dq ab (bS cw.left.right);obtain ⟨dU,dn⟩:=dE (l:=aY) (Q:=λq ad n=> ∀aB H s,Z H->F aB (cC q)->ec 9 H s-> ∃v,oB ((cC q).map ah2) v/\ ∀tm,az G (X G R ad n) 151 [s,aB] H tm= .ok v tm H) λq bW=>by have B:=cw.right.flat (cd.2 ⟨q,bW,rfl⟩);have:=B.len;obtain ⟨cj,aA⟩:=y_ (cC q) B.wt ab (bS B);exact ⟨cj,λad n b1 b3 aB H s=>aA ad n b1 b3 aB H s⟩
 refine ⟨dS+dT+dU+1048580,λad n eD eG H s aw K=> ?_⟩;obtain ⟨n,rfl⟩:=bY n;obtain ⟨L,c5,aH⟩:=bO ad n ab ab h H s aw br K;obtain ⟨ef,cK,eg,b0⟩:=c5.aI;have ck:=λtm=>K.call ad n ab ab H (U.refl _) aw e g tm cz.1 cz.2
 suffices dV: ∃v,(∃P,v= .agg P/\((P.length=7/\ ∀v∈P,J v=true/\D 20 v=true)/\lI P/\ald P=ald [.str e g,bf,h,a,bj,.int .i64 o,.int .i64 p]))/\ ∀tm,az G (X G R ad (n+1)) 152 [s,.agg [.str e g,bf,h,a,bj,.int .i64 o,.int .i64 p]] H tm= .ok v tm H by obtain ⟨v,⟨P,rfl,aC⟩,aG⟩:=dV;exact ⟨P,aC,aG⟩
 have c3:ald [.str e g,bf,h,a,bj,.int .i64 o,.int .i64 p]=(.str e g,aD.map alc,cG.map ah2,aY.map (λI=>(cC I).map ah2),ag,.int .i64 o,.int .i64 p):=by rw [<-bm aK,<-bm br,<-bm aR,<-bm bb];rfl
 rw [c3];clear c3;refine hg (aL.at (m:=95) rfl rfl rfl rfl rfl (by simp only [aO,K.nl];rfl) rfl rfl ?_);refine ak.bM (λtm u=>H=u/\aM 97 [(0,s),(3,.W 0 [.str e g,bf,h,a,bj,.int .i64 o,.int .i64 p]),(4,.W 0 [.str 0 0,.V,.V,.V,.V,.int .i64 0,.int .i64 0]),(5,.av [])] tm) ?_ ?_
 . simp only [go_sem,aK.J,br.J,aR.J,bb.J];exact an.mk ⟨rfl,dC⟩
 rintro tm _ ⟨rfl,hF⟩;refine ak.np [0,3,4] (λaf tm u=>H=u/\M tm 5= .W 0 [.str e g,.V,L,.V,.V,.int .i64 o,.int .i64 p]/\af tm) ?_ ?_
 . simp only [go_sem,hF,br.O,K.op,ck,aH,ef,cK,eg];exact an.mk ⟨rfl,ay⟩
 clear hF;rintro tm _ ⟨rfl,hF⟩;refine ak.np [0,3,4] (λaf tm u=> ∃C,hi alc lG 85 11 H u C (aD.map alc)/\M tm 5= .W 0 [.str e g,C,L,.V,.V,.int .i64 o,.int .i64 p]/\af tm) ?_ ?_
 . simp only [go_sem,hF,aK.O,aK.len];generalize cW:a1 _ _ _ _ _ _ _ _ _ _=bh;revert bh;refine cv [0,3,4,26] (λj=> [(5,.W 0 [.str e g,j.1,L,.V,.V,.int .i64 o,.int .i64 p])]) (λj=>j.2) (λaj j=>hi alc lG 85 11 H j.2 j.1 ((aD.take aj).map alc)) aD.length (.V,H) (by exact hi.new _ _ _ _ H aw) ?_ ?_
   . rintro aj ⟨C,w⟩ tm bt c hF;simp only at c hF|-;obtain ⟨q,ae⟩:=bA bt;have bu:=aV ae;have bp:Z w/\U H w:=by obtain ⟨bB,-,-,bI,bJ⟩:=c;exact ⟨bI,bJ⟩
     obtain ⟨aJ,ar⟩:=bp;obtain ⟨bK,aA⟩:=bN ad n ab ab q bu;have ao:=Wo alc ae;obtain ⟨ew,ey,ev,dc,ca,cb,rfl,⟨b6,cf,rfl,cA⟩,⟨b9,cg,rfl,cB⟩,bP,⟨eL,bx,eK,-⟩,⟨ca,rfl⟩,⟨cb,rfl⟩⟩:=du q bu;rw [zy bP.len] at bK;rw [zz bP.len,bm bx] at aA;obtain ⟨cU,⟨ct,c4⟩,dm⟩:=bK w s aJ (K.up ar);obtain ⟨bg,bw,cn⟩:=aA dc w s aJ bx (K.up ar);obtain ⟨cL,bC,cM,cN⟩:=bw.aI;obtain ⟨b5,bz,⟨cD,cF⟩,cE⟩:=id bw;have c1:lG ([.str b6 cf,.str b9 cg]++cU++ [bg,.int .i64 ca,.int .i64 cb]):=⟨_,_,cU,_,_,_,rfl,⟨_,_,rfl,cA⟩,⟨_,_,rfl,cB⟩,ct,⟨b5,bz,cD,cE⟩,⟨_,rfl⟩,⟨_,rfl⟩⟩;have c2:=c1.row;rw [amN bP.len,bm bx,<-c4,<-cF,<-bm bz,<-amN ct.len] at ao;have bR:=xx c2 w;obtain ⟨aF,E,a8,ah⟩:=c.app (t:=61) (b:=168) (i:=t85) aq aq rfl rfl al al c2 c1 (by rw [di,h6];omega);rw [<-ao] at ah;clear ao c4;have ck:=λtm=>K.call ad n ab ab w ar aJ b6 cf tm cA.1 cA.2;have de:=λtm=>K.call ad n ab ab w ar aJ b9 cg tm cB.1 cB.2;obtain ⟨dW,eb,dH,dI,dJ,dK,ep,bB,eQ,eP,rfl,dB,dA⟩:=bP.t;obtain ⟨dX,ed,dO,dP,dQ,dR,er,et,eR,eS,rfl,dD,dF⟩:=ct.t;simp only [bl,a6] at ae bR a8;have eu:True:=trivial;refine au.bM (λtm u=>w=u/\ ∃cO,aM 97 [(28,.int .i64 (aj:Nat)),(27,.int .i64 (aD.length:Nat)),(0,s),(3,.W 0 [.str e g,bf,h,a,bj,.int .i64 o,.int .i64 p]),(4,.W 0 [.str 0 0,.V,.V,.V,.V,.int .i64 0,.int .i64 0]),(5,.W 0 [.str e g,C,L,.V,.V,.int .i64 o,.int .i64 p]),(26,bf),(7,.W cO [.str b6 cf,.str b9 cg,.int .i64 dW,.int .i64 eb,.str dH dI,.str dJ dK,ep,bB,dc,.int .i64 ca,.int .i64 cb])] tm) ?_ ?_
     . simp only [go_sem,hF,aK.O,aK.a_ (k:=11) ae rfl,dB.J,dA.J,bx.J];exact an.mk ⟨rfl,_,by simp only [go_sem,hF];trivial⟩
     clear hF;rintro tm _ ⟨rfl,cO,hF⟩;refine au.bF hF (λaf tm u=>w=u/\af tm) ?_ ?_
     . simp only [go_sem,hF];refine an.aE ?_ ?_<;>intro bn<;>simp only [go_sem,hF,bn,K.op,de]
       all_goals exact an.mk ⟨rfl,ay⟩
     clear hF;rintro tm _ ⟨rfl,hF⟩;refine au.np [28,27,0,3,4,5,26] (λaf tm u=>w=u/\M tm 7= .W cO [.str b6 cf,.str b9 cg,.int .i64 dX,.int .i64 ed,.str dO dP,.str dQ dR,er,et,bg,.int .i64 ca,.int .i64 cb]/\af tm) ?_ ?_
     . simp only [go_sem,hF,K.op,ck,bx.O,dm,cn,cL,bC,cM,dD.J,dF.J];exact an.mk ⟨rfl,ay⟩
     clear hF;rintro tm _ ⟨rfl,hF⟩;simp only [go_sem,hF,c.O,ah.ok.2,ah.ok.1,bR,bH,a8,ah.O];exact au.next (aF,E) rfl ah ay
   . rintro ⟨C,w⟩ tm c hF;simp only at c hF;rw [bX] at c;simp only [go_sem];exact an.mk ⟨C,c,ay⟩
 clear hF;rintro tm w ⟨C,cX,hF⟩;obtain ⟨bG,cJ,⟨eo,c9,ei⟩,aJ,ar⟩:=id cX;refine ak.np [0,3,4] (λaf tm u=> ∃S,hi (λI=>(cC I).map ah2) AE 114 1 w u S (aY.map λI=>(cC I).map ah2)/\M tm 5= .W 0 [.str e g,C,L,S,.V,.int .i64 o,.int .i64 p]/\af tm) ?_ ?_
 . simp only [go_sem,hF,aR.O,aR.len];generalize cW:a1 _ _ _ _ _ _ _ _ _ _=bh;revert bh;refine cv [0,3,4,63] (λj=> [(5,.W 0 [.str e g,C,L,j.1,.V,.int .i64 o,.int .i64 p])]) (λj=>j.2) (λaj j=>hi (λI=>(cC I).map ah2) AE 114 1 w j.2 j.1 ((aY.take aj).map λI=>(cC I).map ah2)) aY.length (.V,w) (by exact hi.new _ _ _ _ w aJ) ?_ ?_
   . rintro aj ⟨S,E⟩ tm bt c hF;simp only at c hF|-;obtain ⟨q,ae⟩:=bA bt;have bu:=aV ae;have bp:Z E/\U w E:=by obtain ⟨bB,-,-,bI,bJ⟩:=c;exact ⟨bI,bJ⟩
     obtain ⟨bq,aN⟩:=bp;have aA:=dn ad n ab ab q bu;have ao:=Wo (λI=>(cC I).map ah2) ae;obtain ⟨cV,rfl,⟨dg,bT,eB,eA⟩⟩:=dz q bu;rw [show cC [cV]=dg from bm bT] at aA ao;obtain ⟨bg,bw,cn⟩:=aA cV E s bq bT ((K.up ar).up aN);obtain ⟨cL,bC,cM,cN⟩:=bw.aI;have bR:=O3 ⟨bC,cN 19⟩ E;obtain ⟨b5,bz,⟨cD,cF⟩,cE⟩:=id bw;rw [<-cF,<-show cC [bg]=b5 from bm bz] at ao;obtain ⟨aF,T,a8,ah⟩:=c.app (t:=62) (b:=24) (i:=t114) aq aq rfl rfl al al (r:= [bg]) ⟨rfl,λbB cy=>by rw [bs.1 cy];exact ⟨bC,cN 19⟩⟩ ⟨bg,rfl,b5,bz,cD,cE⟩ (by rw [di,h6];omega);rw [<-ao] at ah;clear ao;simp only [go_sem,hF,aR.O,aR.a_ (k:=1) ae rfl,bT.J,bT.O,K.op,cn,cL,bC,cM,bR,bH,c.O,a8,ah.O,ah.ok.2,ah.ok.1];exact au.next (aF,T) rfl ah ay
   . rintro ⟨S,E⟩ tm c hF;simp only at c hF;rw [bX] at c;simp only [go_sem];exact an.mk ⟨S,c,ay⟩
 clear hF;rintro tm E ⟨S,cY,hF⟩;obtain ⟨bE,cI,⟨en,c8,eh⟩,bq,aN⟩:=id cY;refine ak.np [0,4] (λaf tm u=> ∃z,(bd E.n 9 1 ag.length u ag z/\Z u/\U E u)/\M tm 5= .W 0 [.str e g,C,L,S,z,.int .i64 o,.int .i64 p]/\af tm) ?_ ?_
 . simp only [go_sem,hF,bb.O,bb.len];generalize cW:a1 _ _ _ _ _ _ _ _ _ _=bh;revert bh;refine cv [0,4,81] (λj=> [(5,.W 0 [.str e g,C,L,S,j.1,.int .i64 o,.int .i64 p])]) (λj=>j.2) (λaj j=>bd E.n 9 1 aj j.2 (ag.take aj) j.1/\Z j.2/\U E j.2) ag.length (.V,E) ⟨bd.nil,bq,U.refl _⟩ ?_ ?_
   . rintro aj ⟨z,T⟩ tm bt c hF;simp only at c hF|-;obtain ⟨q,ae⟩:=bA bt;have bp:Z T/\U E T:=c.2;obtain ⟨bQ,aP⟩:=bp;have ao:=od ae;have dx:b8 (ag.take aj):=λr bc=>bU r (hQ bc);obtain ⟨aS,cP,rfl,c6⟩:=bU q (aV ae);have df:=λtm=>K.call ad n ab ab T (ar.trans (aN.trans aP)) bQ aS cP tm c6.1 c6.2;obtain ⟨aF,ch,a8,bV,cZ⟩:=c.1.app (x:= .A [[.str aS cP]] true) (b:=16) (k:=1) oe nI rfl rfl al al bQ aP.n dx.rows (aQ:= [[.str aS cP]]) rfl (λbB cy=>by rw [bs.1 cy];exact ⟨rfl,λv d=>by rw [bs.1 d];exact ⟨rfl,rfl⟩⟩)
      (by simp only [h6,cl,h5];unfold b7;omega) og
     rw [<-ao] at bV;obtain ⟨b1,b3⟩:aF.cells= [aF]/\J aF=true:=bV.cells;obtain ⟨ej,da⟩:z.cells= [z]/\J z=true:=c.1.cells;simp only [go_sem,hF,bb.O,bb.a_ (k:=1) ae rfl,K.op,df,c.1.O,a8,bV.O,b1,b3];exact au.next (aF,ch) rfl ⟨bV,cZ.tidy,cZ.up E (aT _) aP⟩ ay
   . rintro ⟨z,T⟩ tm c hF;simp only at c hF;rw [bX] at c;simp only [go_sem];exact an.mk ⟨z,c,ay⟩
 clear hF;rintro tm T ⟨z,⟨bZ,bQ,aP⟩,hF⟩;have ea:bd H.n 85 11 bG.length T bG C:=cJ.at λid ee _ bn=>aP.get bq.1 (aN.get aJ.1 bn);have dZ:bd H.n 114 1 bE.length T bE S:=(cI.at λid ee _ bn=>aP.get bq.1 bn).mono ar.n ab;have dY:bd H.n 9 1 ag.length T ag z:=bZ.mono (eT ar.n aN.n) ab;have dh:cc C S:=λid bk aH=>by have bN:=cJ.lt bk;have bO:=cI.ge aH;omega
 have dj:cc C z:=λid bk aH=>by have bN:=cJ.lt bk;have bO:=bZ.ge aH;have:=aN.n;omega
 have dk:cc S z:=λid bk aH=>by have bN:=cI.lt bk;have bO:=bZ.ge aH;omega
 have cm: ∀ {v a:aa} {ax:Nat},D (ax+1) v=true->cc v a:=λaC id aG=>by rw [vi aC] at aG;cases aG
 have a7: ∀ {v a:aa} {ax:Nat},D (ax+1) a=true->cc v a:=λaC id _ aG=>by rw [vi aC] at aG;cases aG
 obtain ⟨db,ch,ez,eI,dy,dt,B⟩:=Ey 48 al H (λh v a=>(J a=true/\ ∀ax,D (ax+1) a=true)/\match h with
  |1=>F a bG
  |3=>F a bE
  |4=>F a ag
  |_=>v=a) [.str e g,C,L,S,z,.int .i64 o,.int .i64 p] T bQ (ar.trans (aN.trans aP)) (λh v d=>by
  have aS: ∀ {b4 a},F a b4->J a=true/\ ∀ax,D (ax+1) a=true:=λh=>⟨h.J,h.aI⟩
  match h,d with
  |0,d=>cases d;exact .inl ⟨rfl,⟨rfl,λ_=>rfl⟩,rfl⟩
  |1,d=>cases d;exact .inr ⟨_,_,_,_,al,eo,ea,λa h=>⟨aS h,h⟩⟩
  |2,d=>cases d;exact .inl ⟨b0 48,⟨cK,b0⟩,rfl⟩
  |3,d=>cases d;exact .inr ⟨_,_,_,_,al,en,dZ,λa h=>⟨aS h,h⟩⟩
  |4,d=>cases d;exact .inr ⟨_,_,_,_,al,b8.rows bU,dY,λa h=>⟨aS h,h⟩⟩
  |5,d=>cases d;exact .inl ⟨rfl,⟨rfl,λ_=>rfl⟩,rfl⟩
  |6,d=>cases d;exact .inl ⟨rfl,⟨rfl,λ_=>rfl⟩,rfl⟩
  |n+7,d=>cases d) (by
  simp only [hq,b2,dG,or_false,List.Pairwise.nil,and_true];refine ⟨λa _=> @cm _ _ 0 rfl,λa aw=> ?_,λa _=>cm (b0 0),λa aw=> ?_,λa aw=> ?_,λa _=> @cm _ _ 0 rfl,ai⟩
  . rcases aw with rfl|rfl|rfl|rfl|rfl
    . exact a7 (b0 0)
    . exact dh
    . exact dj
    . exact @a7 _ _ 0 rfl
    . exact @a7 _ _ 0 rfl
  . rcases aw with rfl|rfl|rfl
    . exact dk
    . exact @a7 _ _ 0 rfl
    . exact @a7 _ _ 0 rfl
  . rcases aw with rfl|rfl<;>exact @a7 _ _ 0 rfl)
 obtain ⟨ej,da⟩:z.cells= [z]/\J z=true:=bZ.cells;obtain ⟨cQ,aU,cR,aW,aX,cS,cT,rfl⟩: ∃cQ aU cR aW aX cS cT,db= [cQ,aU,cR,aW,aX,cS,cT]:=by
  match db,dt with
  | [cQ,aU,cR,aW,aX,cS,cT],_=>exact ⟨_,_,_,_,_,_,_,rfl⟩
 obtain ⟨-,rfl⟩:=B 0 _ _ rfl rfl;obtain ⟨eM,cp⟩:=B 1 _ _ rfl rfl;obtain ⟨-,rfl⟩:=B 2 _ _ rfl rfl;obtain ⟨eN,cq⟩:=B 3 _ _ rfl rfl;obtain ⟨eO,cr⟩:=B 4 _ _ rfl rfl;obtain ⟨-,rfl⟩:=B 5 _ _ rfl rfl;obtain ⟨-,rfl⟩:=B 6 _ _ rfl rfl;simp only at cp cq cr;obtain ⟨ek,c7,⟨dL,dN⟩,dM⟩:=id c5;have eF:bG.length=aD.length:=by rw [<-di (f:=alc),c9,di]
 have eE:bE.length=aY.length:=by rw [<-di (f:=λI=>(cC I).map ah2),c8,di]
 have dw:lI [.str e g,aU,L,aW,aX,.int .i64 o,.int .i64 p]:=⟨_,_,_,_,_,_,_,rfl,⟨_,_,rfl,cz⟩,⟨bG,cp,ei,ab⟩,⟨ek,c7,dL,dM⟩,⟨bE,cq,eh,ab⟩,⟨ag,cr,bU,dp⟩,⟨_,rfl⟩,⟨_,rfl⟩⟩;have dv:ald [.str e g,aU,L,aW,aX,.int .i64 o,.int .i64 p]=(.str e g,aD.map alc,cG.map ah2,aY.map (λI=>(cC I).map ah2),ag,.int .i64 o,.int .i64 p):=by rw [<-c9,<-c8,<-dN,<-bm cp,<-bm cq,<-bm cr,<-bm c7];rfl
 have cx: ∀v∈ [aa.str e g,aU,L,aW,aX,.int .i64 o,.int .i64 p],J v=true/\ ∀ax,D (ax+1) v=true:=λv d=>by obtain ⟨cH,c0⟩:=jo d;have dr:cH<7:=(e6.1 c0).1;exact (B cH _ v (lj (by show cH<7;exact dr)) c0).1
 simp only [go_sem,hF,cK,cX.ok.2,cY.ok.2,da];refine .inl ⟨.agg _,⟨_,rfl,⟨rfl,λv d=>⟨(cx v d).1,(cx v d).2 19⟩⟩,dw,dv⟩,.agg [.str e g,C,L,S,z,.int .i64 o,.int .i64 p],T,ch,rfl,?_,gV aw dy ?_⟩
 . show aZ (49+1) _ _=_;rw [aZ]
   simp_all
 . show ([aa.str e g,aU,L,aW,aX,.int .i64 o,.int .i64 p]).all (y H.n 19)=true;exact ba.2 λv d=>fR _ 19 19 v al ((cx v d).2 18)
def gB (x:aa) (rows:Y):aa:=match x,rows with
 | .V,_=> .V
 |_,[]=> .A [] true
 |_,_::_=> .A rows false
def xH {x rows} (a:F x rows):F (gB x rows) rows:=by
 rcases a with ⟨rfl,rfl⟩|⟨b,rfl⟩
 . exact .inl ⟨rfl,rfl⟩
 . cases rows with
   |nil=>exact .inr ⟨_,rfl⟩
   |cons=>exact .inr ⟨_,rfl⟩
structure ei (el k:Nat) (a7 H:af) (v x:aa) (rows:Y):Prop where
  tidy:Z H
  up:U a7 H
  alt:(rows= []/\v=gB x []/\cW v=none)\/(x≠ .V/\rows≠ []/\P el k a7 H v rows)
section
variable {el k:Nat} {a7 H:af} {v x:aa} {rows:Y}
theorem Bs (x):gB x []= .V\/gB x []= .A [] true:=by cases x<;>first|exact .inl rfl|exact .inr rfl
theorem ei.cw (a:ei el k a7 H v x rows):cG H k v rows:=by
 rcases a.alt with ⟨rfl,rfl,-⟩|⟨-,-,a⟩
 . rcases Bs x with b|b<;>rw [b]
   . exact .inl (.inl ⟨rfl,rfl⟩)
   . exact .inl (.inr ⟨_,rfl⟩)
 . exact a.cw
theorem ei.facts (a:ei el k a7 H v x rows):(∀t,O t v=v)/\J v=true/\v.cells= [v]/\aD v=true:=by
 rcases a.alt with ⟨rfl,rfl,-⟩|⟨-,-,a⟩
 . rcases Bs x with b|b<;>rw [b]<;>exact ⟨λ_=>rfl,rfl,rfl,rfl⟩
 . exact ⟨a.O,a.ok,a.cs,a.nl⟩
theorem ei.at (a:ei el k a7 H v x rows) {H':af} (b:Z H') (ik:U H H'):ei el k a7 H' v x rows:=
 ⟨b,a.up.trans ik,a.alt.imp id λ⟨c,d,e⟩=>⟨c,d,e.at b ik⟩⟩
theorem ei.mono {b:af} (a:ei el k a7 H v x rows) (ik:U b a7):ei el k b H v x rows:=⟨a.tidy,ik.trans a.up,a.alt.imp id λ⟨c,d,e⟩=>⟨c,d,e.mono ik⟩⟩
theorem ei.bS (e:ei el k a7 H v x rows) {H':af} (b:Z H') (ik:U a7 H') (g: ∀id o,H.get id=some o->cW v=some id->H'.get id=some o):ei el k a7 H' v x rows:=
 ⟨b,ik,e.alt.imp id λ⟨c,d,a⟩=>⟨c,d,a.W.at ah,a.rw,b,ik,a.ex⟩⟩
theorem ei.gc {a:af} {w:aa} (b:ei el k a7 H v x rows) (c:Z a) (ik:U a a7) {d:Nat} (h:y a.n 20 w=true->y a.n (d+1) v=true):ei el k a (gc a.n w H) v x rows:=by
 rcases b.alt with ⟨rfl,rfl,l⟩|⟨i,j,g⟩
 . have:Z (gc a.n w H)/\U a (gc a.n w H):=by
    rcases H9 c (ik.trans b.up) w with e|⟨e,-⟩<;>rw [e]
    . exact ⟨b.tidy,ik.trans b.up⟩
    . exact ⟨c,U.refl _⟩
   exact ⟨this.1,this.2,ah⟩
 . have:=g.gc c ik h;exact ⟨this.tidy,this.up,ah⟩
theorem ei.aZ (d:Nat) (h:20<=d) (aj6:0<k) (i:F x rows) (e:ei el k a7 H v x rows): ∃a,Go.aj.aZ (d+1) v H=some (gB x rows,a)/\Z a/\(∀c,c.n<=a7.n->U c H->U c a)/\(∀id o,H.get id=some o->cW v≠some id->a.get id=some o):=by
 rcases e.alt with ⟨rfl,rfl,-⟩|⟨l,m,g⟩
 . rcases Bs x with b|b<;>rw [b]<;>exact ⟨H,rfl,e.tidy,ai,ah⟩
 . have b:gB x rows=dk rows:=by
    rcases i with ⟨rfl,-⟩|⟨j,rfl⟩
    . grind
    . cases rows with
      |nil=>grind
      |cons=>rfl
   rw [b];exact g.aZ d h aj6
theorem ei.ge (b:ei el k a7 H v x rows) {id:Nat} (e:cW v=some id):a7.n<=id/\id<H.n:=by
 rcases b.alt with ⟨rfl,rfl,c⟩|⟨-,-,a⟩
 . grind
 . exact ⟨a.W.ge e,a.W.lt e⟩
end
@[go_sem] theorem akl (H):cT G 22 0 [] H=some (.A [] true,H)/\cT G 48 0 [] H=some (.A [] true,H)/\cT G 50 0 [] H=some (.A [] true,H):=by and_intros<;>kernel_rfl
section
variable {f t el k:Nat} {ti:TypeInfo} (ik:aW G t=some (.slice el)) (hT:G.T el=some ti) (aj7:ti.size=k) (aj6:0<k) (fP:ti.bytes<=32)
include ik hT aj7 aj6 fP
theorem akj {H:af} {x:aa} {rows:Y} (p:Z H) (h:F x rows) (b:Rows k rows) (r:rows.length<1048560) (o:rows≠ []): ∃d H',cI G t t (.A [] true) x H=some (d,H')/\P el k H H' d rows:=by
 obtain ⟨d,H',a,g,e⟩:=bd.app (c:=0) (n0:=H.n) (H:=H) (rows:= []) (aQ:=rows) (v:= .A [] true) (x:=x) ik hT aj7 rfl aj6 ab (.inr (.inl rfl)) p ab (λq b=>by cases b) (dR h b.len) b (by have l:(([]:Y).length+rows.length)<=1048560:=ah;have m:ti.bytes+1<=33:=ab;exact eT (kF l m) (by unfold b7;omega)) ab;rw [gH,a6] at g;refine ⟨d,H',a,⟨g,b,e.tidy,e.up H ab (U.refl _),.inr ⟨o,?_⟩⟩⟩;have i:hx G el k (.slice el) x H=some (rows.flatten,rows.length):=dR h b.len;unfold cI at a;subst aj7;simp only [ik,hT,i] at a;split at a
 rotate_left
 . cases a
 cases rows with
 |nil=>grind
 | cons q s=>
   simp only [cl,b.ok,if_true,bu,dn,c8] at a;split at a
   . simp only [N,bz] at a;rw [<-a.1];exact λj=>by cases j
   grind
theorem akc (i:(f,t)∈ [(101,22),(285,48),(286,50)]) {ad n:Nat} {x:aa} {rows:Y} {H:af} (b:Z H) (j:F x rows) (o:Rows k rows) (l:rows.length<1048560):
  ∃v H',ei el k H H' v x rows/\ ∀tm,az G (X G R ad (n+1)) f [x] H tm= .ok v tm H':=by
 simp only [b2,bz,dG,or_false] at i;rcases i with ⟨rfl,rfl⟩|⟨rfl,rfl⟩|⟨rfl,rfl⟩
 all_goals
  refine bn.at (m:=7) rfl rfl rfl rfl rfl (by simp only [aO,j.aD];rfl) rfl rfl ?_;rcases j with ⟨rfl,rfl⟩|⟨a,rfl⟩
  . simp only [go_sem];refine bn.mk ?_;rw [ft ab];exact ⟨b,U.refl _,.inl ⟨rfl,rfl,rfl⟩⟩
  . have g:b4 G .eql 22 (.A rows a) .V=some (.bool false)/\b4 G .eql 48 (.A rows a) .V=some (.bool false)/\b4 G .eql 50 (.A rows a) .V=some (.bool false):=by and_intros<;>kernel_rfl
    cases h:rows with
    | nil=>
      subst h;have c:cI G 22 22 (.A [] true) (.A [] a) H=some (.A [] true,H)/\cI G 48 48 (.A [] true) (.A [] a) H=some (.A [] true,H)/\cI G 50 50 (.A [] true) (.A [] a) H=some (.A [] true,H):=by cases a<;>and_intros<;>kernel_rfl
      simp only [go_sem,g,c,bH];refine bn.mk ?_;rw [ft ab];exact ⟨b,U.refl _,.inl ⟨rfl,rfl,rfl⟩⟩
    | cons r q=>
      rw [<-h];obtain ⟨p,H',c,e⟩:=akj ik hT aj7 aj6 fP b (x:= .A rows a) (.inr ⟨a,rfl⟩) o l ah;simp only [go_sem,g,c,bH,e.O,e.nl,dX,if_true];refine bn.mk ?_;have:=e.gc b (U.refl _) (v:=p) (d:=19) id;exact ⟨this.tidy,this.up,ah⟩
end
def I5:= @akc 101 22 9 1 t9 aq aq rfl al al al
def Ui:= @akc 285 48 88 2 t88 aq aq rfl al al al
def Ug:= @akc 286 50 3 1 t3 aq aq rfl al al al
def EL {l:Y} (b: ∀r∈l,gd r):Rows 2 l:=λr c=>by
 obtain ⟨d,e,g,h,rfl,-⟩:=b r c;exact ⟨rfl,λv a=>by simp only [b2,dG,or_false] at a;rcases a with rfl|rfl<;>exact ⟨rfl,rfl⟩⟩
def Zs {l:Y} (a: ∀r∈l,∃i,r= [.int .i64 i]):Rows 1 l:=λr b=>by
 obtain ⟨d,rfl⟩:=a r b;exact ⟨rfl,λv c=>by rw [bs.1 c];exact ⟨rfl,rfl⟩⟩
def Uh {ad n:Nat} {l m ls ms:Nat} {a p s:aa} {i j:Int} {r u rs:Y} {H:af} (q:Z H) (z:F a r) (B:F p u) (C:F s rs) (P:Rows 1 r) (Q:Rows 2 u) (S:Rows 1 rs) (T:r.length<1048560) (V:u.length<1048560) (W:rs.length<1048560):
    ∃w H',(∃b c s',w= .agg [.str l m,b,.str ls ms,c,.int .i64 i,.int .i64 j,s']/\ei 9 1 H H' b a r/\ei 88 2 H H' c p u/\ei 3 1 H H' s' s rs/\cc b c/\cc b s'/\cc c s')/\ ∀tm,az G (X G R ad (n+1+1)) 224 [.agg [.str l m,a,.str ls ms,p,.int .i64 i,.int .i64 j,s]] H tm= .ok w tm H':=by
 obtain ⟨b,ao,e,L⟩:=I5 (ad:=ad) (n:=n) q z P T;obtain ⟨c,aq,g,M⟩:=Ui (ad:=ad) (n:=n) e.tidy B Q V;obtain ⟨s',ar,d,N⟩:=Ug (ad:=ad) (n:=n) g.tidy C S W;obtain ⟨ab,ae,ag,av⟩:=e.facts;obtain ⟨ah,ai,aj,aw⟩:=g.facts;obtain ⟨ak,al,an,ax⟩:=d.facts;refine bn.at (m:=15) rfl rfl rfl rfl rfl rfl rfl rfl ?_;simp only [go_sem,z.O,z.J,B.O,B.J,C.O,C.J,L,M,N,ab,ae,ag,ah,ai,aj,ak,al,an];have A: ∀ {h},(h=b\/h=c\/h=s')->y H.n 20 (.agg [.str l m,b,.str ls ms,c,.int .i64 i,.int .i64 j,s'])=true->y H.n (18+1) h=true:=λ{h} au E=>by
  have E: [.str l m,b,.str ls ms,c,.int .i64 i,.int .i64 j,s'].all (y H.n 19)=true:=E
  grind
 have I:=e.up;have D:=g.up;have K:=d.up;refine bn.mk ⟨b,c,s',rfl,(e.at d.tidy (D.trans K)).gc q (U.refl _) (A (.inl rfl)),(g.at d.tidy K).gc q I (A (.inr (.inl rfl))),d.gc q (I.trans D) (A (.inr (.inr rfl))),λid x o=> ?_,λid x o=> ?_,λid x o=> ?_⟩
 . have:=(e.ge x).2;have:=(g.ge o).1;omega
 . have:=(e.ge x).2;have:=(d.ge o).1;have:=D.n;omega
 . have:=(g.ge x).2;have:=(d.ge o).1;omega
def Jp (N:Nat) (hN:N<900000):bo λad n=> ∀x rows H fv,b8 rows->rows.length<=N->Z H->cG H 1 x rows->ec 9 H fv->
    ∃v H',P 9 1 H H' v rows/\ ∀tm,az G (X G R ad n) 222 [x,fv] H tm= .ok v tm H':=by
 refine ⟨N+20,λad n Y af x rows H fv p ae l e j=> ?_⟩;obtain ⟨n,rfl⟩:=bY n;refine bn.at (m:=20) rfl rfl rfl rfl rfl (by simp only [aO,e.aD,j.nl];rfl) rfl rfl ?_;simp only [go_sem,e.O,e.len];generalize T:a1 _ _ _ _ _ _ _ _ _ _=u;revert u;have hF:=trivial;refine cv [1,8] (λc=> [(5,c.1)]) (λc=>c.2) (λr c=>P 9 1 H c.2 c.1 (rows.take r)) rows.length (.V,H) (P.new _ _ l) ?_ ?_
 . rintro r ⟨v,o⟩ tm B a hF;simp only at a hF|-;obtain ⟨Q,k⟩:=bA B;have C:=aV k;obtain ⟨ah,D,F,ag,I⟩:=(e.up l.1 a.up).at p.len k;obtain ⟨f,g,rfl,M,z⟩:=p Q C;have J:=I _ rfl;have y:=j.call ad n ab ab o a.up a.tidy f g;have q:Rows 1 [[aa.str f g]]:=λai K=>by rw [bs.1 K];exact ⟨rfl,λv L=>by rw [bs.1 L];exact ⟨rfl,rfl⟩⟩
   obtain ⟨S,s,w,h,W⟩:=a.app (E:=G) (t:=22) (b:=16) (i:=t9) oe nI rfl rfl al al (x:= .A [[.str f g]] true) (aQ:= [[.str f g]]) (dR (.inr ⟨_,rfl⟩) q.len) q (by rw [h6];show _+1<_;omega);rw [<-od k] at h;simp only [go_sem,hF,e.O,D,F,J,j.op,a.O,y _ M z,bH,w,h.O];exact au.next (S,s) rfl h ay
 . rintro ⟨v,o⟩ tm a hF;simp only at a hF;rw [bX] at a;simp only [go_sem,hF,a.O,a.nl,dX,if_true];exact bn.mk (a.gc l (U.refl _) (d:=19) id)
end Go.aj
