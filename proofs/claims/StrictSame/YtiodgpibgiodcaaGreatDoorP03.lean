/- A part of the proof. -/
import Derived.Test.YtiodgpibgiodcaaGreatDoorP00
import Derived.Test.YtiodgpibgiodcaaGreatDoorP02
set_option linter.all false
set_option maxHeartbeats 4000000
namespace Go.aj
def As:TypeDesc->Bool
 | .int _=>true
 |_=>false
section
variable {E:Env} {P:Program} {w:World}
theorem bg {α c:Type} {m:Sem α} {f:α->Sem c} {a:α} {w w':World} (b:m.run P w= .ok a w'):(m>>=f).run P w=(f a).run P w':=by rw [Sem.run_bind,b];rfl
theorem lT {α:Type} {c:Prop} [Decidable c] {a b:Sem α} (d:c):(if c then a else b).run P w=a.run P w:=by rw [if_pos d]
theorem gG {α:Type} {c:Prop} [Decidable c] {a b:Sem α} (d: ¬c):(if c then a else b).run P w=b.run P w:=by rw [if_neg d]
theorem Ap {n:Nat} (a:n<=b7):IntKind.i64.wrap (Int.ofNat n)=Int.ofNat n:=by have b:b7=35184372088832:=rfl;rw [IntKind.wrap_i64];simp;omega
theorem NM {d2:TypeDesc}:(pure (d2 matches .int _):Sem Bool).run P w= .ok (As d2) w:=by cases d2<;>rfl
theorem Om {t1 t2 ty el:Nat} {d2:TypeDesc} {i:TypeInfo} {b:Option Addr} {sLen d n:Nat} {x:Value} {e:Array Value} {w':World}
  (k:P.underlying t1=some (.slice el)) (l:P.underlying t2=some d2) (g:P.info? el=some i)
  (m:As d2=false) (h:(Builtin.lenOf x).run P w= .ok n w) (j:(Builtin.firstCells i.size n x).run P w= .ok e w) (f:sLen+n<=d)
  (c:(match b with|some a=>storeCells (a.add (sLen*i.size)) e.toList|none=>pure ():Sem Unit).run P w= .ok () w'):
  (Builtin.append_ #[t1,t2] ty #[.slice b sLen d,x]).run P w= .ok (.slice b (sLen+n) d) w':=by
 refine (bg (ca k)).trans ?_;refine (bg (gN g)).trans ?_;refine (bg (ca l)).trans ?_;refine (bg (NM (d2:=_))).trans ?_;rw [m];refine (gG al).trans ?_;refine (bg h).trans ?_;refine (lT f).trans ?_;refine (bg ((lT al).trans j)).trans ?_
 cases b with
 | none=>
   simp only [Sem.run_pure,Result.ok.injEq,true_and] at c;subst c;rfl
 |some a=>exact (bg c).trans (Sem.run_pure _ _ _)
theorem On {t1 t2 ty el:Nat} {q:IntKind} {i:TypeInfo} {b:Option Addr} {sLen e n:Nat} {r:Value} {w':World} (o:P.underlying t1=some (.slice el)) (p:P.underlying t2=some (.int q)) (f:P.info? el=some i)
  (t:i.zero=some r) (l:n<=b7) (s:n*i.bytes<=2^48) {g:Array Value}
  (m:(if n*i.size=0 then pure #[] else do pure (Builtin.zeroCells (<-zeroValue el).cells n):Sem (Array Value)).run P w= .ok g w) (k:sLen+n<=e)
  (d:(match b with|some a=>storeCells (a.add (sLen*i.size)) g.toList|none=>pure ():Sem Unit).run P w= .ok () w'):
  (Builtin.append_ #[t1,t2] ty #[.slice b sLen e,.int .i64 (.ofNat n)]).run P w= .ok (.slice b (sLen+n) e) w':=by
 have h: ¬(Int.ofNat n<0):=ai;have j: ¬(Int.ofNat n*(i.bytes:Int)>2^48):=by rw [show Int.ofNat n=(n:Int) from rfl,<-Int.natCast_mul];omega
 refine (bg (ca o)).trans ?_;refine (bg (gN f)).trans ?_;refine (bg (ca p)).trans ?_;refine (bg (a:=true) (w':=w) rfl).trans ?_;refine (lT rfl).trans ?_;refine (bg (a:=Int.ofNat n) (w':=w) rfl).trans ?_;rw [Ap l];refine (gG h).trans ?_;refine (bg (m2 f)).trans ?_;refine (gG j).trans ?_;refine (bg (Sem.run_pure _ _ _)).trans ?_;rw [show (Int.ofNat n).toNat=n from rfl];refine (lT k).trans ?_;refine (bg ((gG (c:=(!true)=true) al).trans m)).trans ?_
 cases b with
 | none=>
   simp only [Sem.run_pure,Result.ok.injEq,true_and] at d;subst d;rfl
 |some a=>exact (bg d).trans (Sem.run_pure _ _ _)
theorem WO (n c:Nat) (a:c<n):Builtin.nextslicecap n c<=2*n+2000:=by
 unfold Builtin.nextslicecap;split
 . omega
 . split
   . omega
   . simp only [Builtin.growBy]
     repeat' split
     all_goals omega
def jd (w:World) (a cap el:Nat):Nat:=(Question.appendCap a cap el).cut (w.tape w.drawn (.appendCap a cap el))
theorem Bn (w:World) (a cap el:Nat):a<=jd w a cap el:=by simp [jd,Question.cut]
theorem LN (a cap el:Nat):(choose (.appendCap a cap el)).run P w= .ok (jd w a cap el) w.drew:=by have b:(Question.appendCap a cap el).forced=false:=rfl;simp only [choose,Sem.run,b,eJ,if_false,jd];rfl
theorem Ln {a n0 b cap:Nat} (c:a*(b+1)<=b7) (k:b<=4096) (h:cap<a) (i:n0<=a):
  a<=35184372088832/\a*b<=35184372088832/\ ¬(Builtin.nextslicecap a cap*b>2^48)/\n0<=b7/\n0*b<=2^48:=by
 have j:b7=35184372088832:=rfl;rw [j] at c|-;have d:a<=35184372088832:=eT (Nat.le_mul_of_pos_right _ ab) c;have g:a*b<=35184372088832:=eT (Nat.mul_le_mul_left _ ab) c;refine ⟨d,g,?_,ab,?_⟩
 . have e:=WO a cap h;have f:Builtin.nextslicecap a cap*b<=(2*a+2000)*b:=fU _ e;rw [iK,Nat.mul_assoc] at f;omega
 . have:=fU b i;omega
theorem Oo {t1 t2 ty el:Nat} {d2:TypeDesc} {i:TypeInfo} {f:Option Addr} {sLen b n:Nat} {x e:Value} {d old:Array Value}
  (s:P.underlying t1=some (.slice el)) (t:P.underlying t2=some d2) (c:P.info? el=some i) (v:i.zero=some e)
  (u:As d2=false) (o:(Builtin.lenOf x).run P w= .ok n w) (g: ¬sLen+n<=b) (r:(sLen+n)*(i.bytes+1)<=b7) (l:i.bytes<=4096)
  (q:(Builtin.firstCells i.size sLen (.slice f sLen b)).run P w.drew= .ok old w.drew) (p:(Builtin.firstCells i.size n x).run P w.drew= .ok d w.drew):
  (Builtin.append_ #[t1,t2] ty #[.slice f sLen b,x]).run P w=
   .ok (.slice (some ⟨w.drew.heap.size,0,none⟩) (sLen+n) (jd w (sLen+n) b el)) (w.drew.alloc (.cells (old++d++Builtin.zeroCells e.cells (jd w (sLen+n) b el-(sLen+n))) el)):=by
 obtain ⟨y,z,j,A,B⟩:=Ln r l (Nat.lt_of_not_le g) (C_ n sLen);have k: ∀h:Prop,¬(((sLen+n:Nat):Int)>IntKind.i64.max/\h):=by have m:IntKind.i64.max=9223372036854775807:=al;rw [m];rintro h ⟨C,_⟩;omega
 refine (bg (ca s)).trans ?_;refine (bg (gN c)).trans ?_;refine (bg (ca t)).trans ?_;refine (bg (NM (d2:=_))).trans ?_;rw [u];refine (gG al).trans ?_;refine (bg o).trans ?_;refine (gG g).trans ?_;refine (bg (m2 c)).trans ?_;refine (gG (k _)).trans ?_;refine (bg (m2 c)).trans ?_;refine (gG j).trans ?_;refine (bg (LN _ _ _)).trans ?_;refine (bg (m2 c)).trans ?_;refine (bg (run_askRoom _ _ _)).trans ?_;refine (bg q).trans ?_;refine (bg ((lT al).trans p)).trans ?_;refine (bg (m3 c v)).trans ?_;refine (bg (a:=⟨w.drew.heap.size,0,none⟩) (w':=w.drew.alloc (.cells (old++d++Builtin.zeroCells e.cells (jd w (sLen+n) b el-(sLen+n))) el)) ?_).trans (Sem.run_pure _ _ _);simp only [newRow,Sem.run_bind,run_newObj,Result.andThen_ok,Sem.run_pure,World.alloc_eq]
theorem Oq {t1 t2 ty el:Nat} {z:IntKind} {i:TypeInfo} {g:Option Addr} {sLen d n:Nat} {f:Value} {old:Array Value}
  (v:P.underlying t1=some (.slice el)) (x:P.underlying t2=some (.int z)) (b:P.info? el=some i) (y:i.zero=some f)
  (h: ¬sLen+n<=d) (u:(sLen+n)*(i.bytes+1)<=b7) (q:i.bytes<=4096) {e:Array Value}
  (s:(if n*i.size=0 then pure #[] else do pure (Builtin.zeroCells (<-zeroValue el).cells n):Sem (Array Value)).run P w.drew= .ok e w.drew)
  (t:(Builtin.firstCells i.size sLen (.slice g sLen d)).run P w.drew= .ok old w.drew):
  (Builtin.append_ #[t1,t2] ty #[.slice g sLen d,.int .i64 (.ofNat n)]).run P w=
   .ok (.slice (some ⟨w.drew.heap.size,0,none⟩) (sLen+n) (jd w (sLen+n) d el)) (w.drew.alloc (.cells (old++e++Builtin.zeroCells f.cells (jd w (sLen+n) d el-(sLen+n))) el)):=by
 obtain ⟨A,B,k,l,C⟩:=Ln u q (Nat.lt_of_not_le h) (C_ n sLen);have p: ∀j:Prop,¬(((sLen+n:Nat):Int)>IntKind.i64.max/\j):=by have r:IntKind.i64.max=9223372036854775807:=al;rw [r];rintro j ⟨D,_⟩;omega
 have m: ¬(Int.ofNat n<0):=ai;have o: ¬(Int.ofNat n*(i.bytes:Int)>2^48):=by rw [show Int.ofNat n=(n:Int) from rfl,<-Int.natCast_mul];omega
 refine (bg (ca v)).trans ?_;refine (bg (gN b)).trans ?_;refine (bg (ca x)).trans ?_;refine (bg (a:=true) (w':=w) rfl).trans ?_;refine (lT rfl).trans ?_;refine (bg (a:=Int.ofNat n) (w':=w) rfl).trans ?_;rw [Ap l];refine (gG m).trans ?_;refine (bg (m2 b)).trans ?_;refine (gG o).trans ?_;refine (bg (Sem.run_pure _ _ _)).trans ?_;rw [show (Int.ofNat n).toNat=n from rfl];refine (gG h).trans ?_;refine (bg (m2 b)).trans ?_;refine (gG (p _)).trans ?_;refine (bg (m2 b)).trans ?_;refine (gG k).trans ?_;refine (bg (LN _ _ _)).trans ?_;refine (bg (m2 b)).trans ?_;refine (bg (run_askRoom _ _ _)).trans ?_;refine (bg t).trans ?_;refine (bg ((gG (c:=(!true)=true) al).trans s)).trans ?_;refine (bg (m3 b y)).trans ?_;refine (bg (a:=⟨w.drew.heap.size,0,none⟩) (w':=w.drew.alloc (.cells (old++e++Builtin.zeroCells f.cells (jd w (sLen+n) d el-(sLen+n))) el)) ?_).trans (Sem.run_pure _ _ _);simp only [newRow,Sem.run_bind,run_newObj,Result.andThen_ok,Sem.run_pure,World.alloc_eq]
end
section
variable {E:Env} {P:Program} (aB:fJ E P) {ae:aF} {w:World} {β:Nat->Option Nat} {tm:List aa} {H:af}
theorem Y1 {d:Type} (l:List d) (n i:Nat):(List.replicate n l).flatten[i]? =if i<n*l.length then l[i%l.length]? else none:=by
 induction n generalizing i with
 |zero=>simp
 | succ n c=>
   rw [rI,iJ,kC];rw [ql];split
   . rename_i b;rw [tE b,if_pos ab]
   . rename_i b;rw [c,<-Nat.mod_eq_sub_mod ab];by_cases a:i<n*l.length+l.length
     . rw [if_pos a,if_pos ab]
     . rw [if_neg a,if_neg ab]
theorem Ar (z:Array Value) (n:Nat):(Builtin.zeroCells z n).size=n*z.size:=by simp [Builtin.zeroCells]
theorem wF {b:Type} (l:List b) (n:Nat):(List.replicate n l).flatten.length=n*l.length:=by
 induction n with
 |zero=>simp
 |succ n a=>rw [rI,iJ,bD,a,ql];omega
theorem NL {a:List aa} {z:Array Value} (b:dU ae a z) (n:Nat):dU ae (List.replicate n a).flatten (Builtin.zeroCells z n):=by
 refine ⟨by rw [wF,Ar,b.1],λe o m c d=> ?_⟩;rw [Y1] at c;split at c
 . rename_i g;have i:0<a.length:=by
    rcases Nat.eq_zero_or_pos a.length with f|f
    . rw [f] at g;omega
    . exact f
   have j:e%a.length<a.length:=tF _ i;have l:e<n*z.size:=by rw [<-b.1];exact g
   have h:e%z.size<z.size:=by rw [<-b.1];exact j
   have k:m=z[e%z.size]! :=by unfold Builtin.zeroCells at d;rw [yF] at d;simp [l] at d;exact d.symm
   subst k;refine b.2 _ _ _ c ?_;rw [b.1];rw [getElem!_pos z _ h,Array.getElem?_eq_getElem h]
 . simp at c
theorem dU.append {as e:List aa} {xs g:Array Value} (d:dU ae as xs) (f:dU ae e g):dU ae (as++e) (xs++g):=by
 refine ⟨by simp [d.1,f.1],λh i j a b=> ?_⟩;rw [kC] at a;rw [yE] at b;rw [d.1] at a;split at a
 . rename_i c;rw [if_pos c] at b;exact d.2 _ _ _ a b
 . rename_i c;rw [if_neg c] at b;exact f.2 _ _ _ a b
def NR (ae:aF) (w:World) (P:Program) (t1 t2 ty el:Nat) (i:TypeInfo) (z:Value) (e:List aa) (n:Nat):Prop:=
 e.length=n*i.size/\
 (∃d,dU ae e d/\ ∀c a b g,a+n<=b->(match c with|some j=>storeCells (j.add (a*i.size)) d.toList|none=>pure ():Sem Unit).run P w= .ok () g->
  (Builtin.append_ #[t1,t2] ty #[.slice c a b,z]).run P w= .ok (.slice c (a+n) b) g)/\
 (∃(d:Array Value) (h:Value),dU ae e d/\h.cells.size=i.size/\ ∀c a b f,¬a+n<=b->(a+n)*(i.bytes+1)<=b7->(Builtin.firstCells i.size a (.slice c a b)).run P w.drew= .ok f w.drew->
  (Builtin.append_ #[t1,t2] ty #[.slice c a b,z]).run P w=
   .ok (.slice (some ⟨w.drew.heap.size,0,none⟩) (a+n) (jd w (a+n) b el)) (w.drew.alloc (.cells (f++d++Builtin.zeroCells h.cells (jd w (a+n) b el-(a+n))) el)))
theorem Q.drew (a:Q ae H w):Q ae H w.drew:=a.rr rfl
include aB in
theorem D5 {t1 t2 ty el:Nat} {d2:TypeDesc} {i:TypeInfo} {x:aa} {z:Value} {new:List aa} {n:Nat} (hw:Q ae H w) (bj:aA ae β tm x z)
  (rz:P.underlying t1=some (.slice el)) (rA:P.underlying t2=some d2) (a8:E.T el=some i) (dg:i.bytes<=4096)
  (h:hx E el i.size d2 x H=some (new,n)):NR ae w P t1 t2 ty el i z new n:=by
 have kv:=aB.T _ _ a8;obtain ⟨eM,iI,Tl,Cy⟩:=aB.Fx _ _ a8;obtain ⟨⟨nQ,lh⟩,_⟩:=uI (ae:=ae) (λF M μ=>Eh F M μ 2 eM) Tl;have vB:eM.cells.size=i.size:=by rw [<-nQ];exact Cy
 unfold hx at h;split at h
 . rename_i CJ;split at h
   . rename_i m ace yz;split at h
     . rename_i bp;obtain ⟨aS,bG,dS⟩:=bp;simp only [N,bz] at h;obtain ⟨rfl,rfl⟩:=h;simp only [aA] at bj;cases bj;have Tk:ace=s 2 eM:=by unfold bN at yz;rw [a8] at yz;simp only [iI,N] at yz;exact yz.symm
       subst Tk;have S0:m*i.bytes<=2^48:=by have:=kF dS dg;omega
       have bh:b7=35184372088832:=rfl;have ld:dU ae (List.replicate m (s 2 eM).cells).flatten (Builtin.zeroCells eM.cells m):=NL ⟨nQ,lh⟩ m;have tj: ∀c5:World,∃bI,(if m*i.size=0 then pure #[] else do pure (Builtin.zeroCells (<-zeroValue el).cells m):Sem (Array Value)).run P c5= .ok bI c5/\dU ae (List.replicate m (s 2 eM).cells).flatten bI:=by
        intro c5;by_cases Co:m*i.size=0
        . refine ⟨#[],(lT Co).trans (Sem.run_pure _ _ _),?_,ai⟩;rw [wF,Cy,Co];rfl
        . exact ⟨_,(gG Co).trans ((bg (m3 kv iI)).trans (Sem.run_pure _ _ _)),ld⟩
       obtain ⟨bI,gF,e5⟩:=tj w;obtain ⟨Fu,Cx,yy⟩:=tj w.drew;exact ⟨by rw [wF,Cy],⟨bI,e5,λbase sLen j6 w' rv nP=>On rz rA kv iI ab S0 gF rv nP⟩,
        Fu,eM,yy,vB,λbase sLen j6 old ku S8 hold=>Oq rz rA kv iI ku S8 dg Cx hold⟩
     . simp at h
   . simp at h
 . rename_i aH;have cq:As d2=false:=by cases d2<;>first|rfl|exact absurd rfl (aH _)
   obtain ⟨cQ,hlen,_,mC⟩:=rb (P:=P) hw bj h;obtain ⟨_,aeI,_,SF⟩:=rb (P:=P) hw.drew bj h;obtain ⟨bI,gF,e5⟩:=mC n (aT _);obtain ⟨Fu,Cx,yy⟩:=SF n (aT _);rw [fT (by rw [cQ];exact aT _)] at e5 yy;exact ⟨cQ,⟨bI,e5,λbase sLen j6 w' rv nP=>Om rz rA kv cq hlen gF rv nP⟩,
    Fu,eM,yy,vB,λbase sLen j6 old ku bh hold=>Oo rz rA kv iI cq hlen ku bh dg hold Cx⟩
theorem Ie (A:Q ae H w) {k sLen n cap el:Nat} {lW a:List aa} {old b zs:Array Value} (h:dU ae lW old) (o:dU ae a b) (i:lW.length=sLen*k) (g:a.length=n*k) (y:0<k)
  (d:sLen+n<=cap) (B:zs.size=(cap-(sLen+n))*k) (g0:Nat) (hty: ∀t,ev g0=t+1->el=t):
  ∃ c,Q c (H.push (.cells g0 g0 0 (lW++a))) (w.drew.alloc (.cells (old++b++zs) el))/\Fr ae.own ae c w (w.drew.alloc (.cells (old++b++zs) el))/\
    aC c (.ref H.n g0 0 k (sLen+n) false) (.slice (some ⟨w.drew.heap.size,0,none⟩) (sLen+n) cap):=by
 have e:=h.append o;have j:(old++b++zs).size=cap*k:=by rw [yG,yG,<-h.1,<-o.1,i,g,B,<-iK,<-iK];congr 1;omega
 have f:(lW++a).length=(sLen+n)*k:=by rw [bD,i,g,iK]
 have z:(sLen+n)*k<=cap*k:=fU k d;obtain ⟨r,s,u⟩:=D7 (w:=w.drew) A.drew (lW++a) (old++b++zs) el (by rw [f,j];exact z) (g0:=g0) (hty:=hty) (λp C D l m=>by refine e.2 p C D l ?_;have x:p<(lW++a).length:=(e6.1 l).1;rw [yE,if_pos (by rw [<-e.1];exact x)] at m;exact m);refine ⟨_,r,(Fr.rr (w:=w) (w':=w.drew) rfl rfl rfl rfl).trans s (λF v=> .inl v),?_⟩;exact .ref _ _ _ _ _ _ _ _ _ _ u (by rw [f];omega) y (λq=>by cases q) (λ_=>by simp only;rw [j];omega) d (fV _)
theorem St (v:Q ae H w) {id g r ro b off k len n cap:Nat} {C:jB} {cs h:List aa} {d:Array Value} (R:H.get id=some (.cells g r ro cs)) (A:ae.μ id g=some (b,C,cs.length)) (an:C.s<=off) (aj:off+len*k=cs.length) (ah:0<k)
  (x:dU ae h d) (al: ∀(i:Nat) (y:Value),d[i]? =some y->y.oneCell'=true) (t:h.length=n*k) (J:len+n<=cap) (Y:off+cap*k=C.c) (aL:ro<=cs.length) (hty:ev (g+1)=ev g):
  ∃ B,(storeCells (⟨b,off-C.s,none⟩:Addr) #[].toList).run P w= .ok () w/\(storeCells ((⟨b,off-C.s,none⟩:Addr).add (len*k)) d.toList).run P w= .ok () (w.setCells b (off-C.s+len*k) d.toList)/\
    Q B (H.set id (.cells (g+1) r ro (cs++h))) (w.setCells b (off-C.s+len*k) d.toList)/\Fr ae.own ae B w (w.setCells b (off-C.s+len*k) d.toList)/\
    aC B (.ref id (g+1) off k (len+n) false) (.slice (some ⟨b,off-C.s,none⟩) (len+n) cap):=by
 obtain ⟨aD,aA,l⟩:=v.obj _ _ R;have j:=l.at_;rw [A] at j;simp only [N,bz] at j;obtain ⟨rfl,rfl,_⟩:=j;have ak:off+(len+n)*k<=C.c:=by rw [<-Y];exact Nat.add_le_add_left (fU k J) _
 rw [iK] at ak;have aM:d.size=n*k:=by rw [<-x.1,t]
 have ai:off-C.s+len*k+C.s+d.size<=C.c:=ab;have T:(ae.ch id (g+1) (b,C,(cs++h).length)).μ id (g+1)=some (b,C,(cs++h).length):=by simp [aF.ch]
 have aq: ∀i a y,ae.μ i a=some y->(ae.ch id (g+1) (b,C,(cs++h).length)).μ i a=some y:=by
  intro i a y e;simp only [aF.ch];rw [if_neg]
  . exact e
  . rintro ⟨rfl,rfl⟩;rw [l.last (g+1) ab] at e;simp at e
 have K: ∀i a y,(ae.ch id (g+1) (b,C,(cs++h).length)).μ i a=some y->(i=id/\a=g+1/\y=(b,C,(cs++h).length))\/ae.μ i a=some y:=by
  intro i a y e;simp only [aF.ch] at e;split at e
  . rename_i I;simp at e;exact .inl ⟨I.1,I.2,by simp [<-e]⟩
  . exact .inr e
 obtain ⟨c,j,ar,ag,G,aH,aI⟩:=l.free;obtain ⟨aE,Z,aJ,ad⟩:=wM b d.toList (off-C.s+len*k) w c j (ar,ag) G;obtain ⟨aO,aw⟩:=l.cont g b C cs.length l.km A;have L: ∀(i:Nat) (m:aa),C.s<=i->i<(cs++h).length->(cs++h)[i]? =some m-> ∃q,cellAt (w.setCells b (off-C.s+len*k) d.toList) b (i-C.s)=some q/\aC ae m q:=by
  intro i m u p f;rw [kC] at f;unfold cellAt;rw [Z];simp only;rw [ad];simp only [vM];split at f
  . rename_i S;rw [if_neg (by rintro ⟨aG,_⟩;omega)];obtain ⟨y,z,ao⟩:=aw i m u S f;unfold cellAt at z;rw [G] at z;exact ⟨y,z,ao⟩
  . rename_i S;have M:i-cs.length<d.size:=by rw [<-x.1];exact (e6.1 f).1
    rw [if_pos ⟨ab,ab,ab⟩];refine ⟨d[i-cs.length],?_,x.2 _ _ _ f (by simp [M])⟩;rw [show i-C.s-(off-C.s+len*k)=i-cs.length by omega];simp [M]
 obtain ⟨ax,X⟩:=Ml (xK:=r) (g':=g+1) (cs':=cs++h) v R l (o:=off-C.s+len*k) (xs:=d) ab ai (ae.ch id (g+1) (b,C,(cs++h).length)) rfl rfl aq
  (λi p a=>by simp only [aF.ch];rw [if_neg (by rintro ⟨j,_⟩;exact p j)])
  (λa y e=>(K _ _ _ e).elim (λav=> .inr ⟨_,av.2.2⟩) .inl)
  T (by rw [bD,t];omega) (Nat.le_succ_of_le l.km) hty
  (λa aK=>by simp only [aF.ch];rw [if_neg (by rintro ⟨_,j⟩;omega)];exact l.last _ ab)
  (λi m p f=>l.nK i m p (by rw [kC,if_pos ab] at f;exact f))
  (λa D U V af e=>by
   rcases K _ _ _ e with ⟨_,_,j⟩|O
   . simp only [bz] at j;obtain ⟨rfl,rfl,rfl⟩:=j;exact ⟨aT _,L⟩
   . obtain ⟨aN,au⟩:=l.cont a D U V af O;refine ⟨uF,λi m u p f=> ?_⟩;by_cases F:D=b
     . subst F;have W:=(v.sep _ _ _ _ _ _ _ _ _ O A).2;rw [W];exact L i m ab uF f
     . rw [kC,if_pos ab] at f;obtain ⟨q,ay,az⟩:=au i m u p f;exact ⟨q,by rw [GG F];exact ay,az⟩)
 refine ⟨_,rfl,?_,ax,X,?_⟩
 . rw [ke];exact EO l.free.lo d ab al
 . exact .ref _ _ _ _ _ _ _ _ _ _ T (by rw [bD,t,<-aj,iK];omega) ah (λa=>by cases a) (λ_=>by omega) J an
end
section
variable {E:Env} {P:Program} (aB:fJ E P) {ae:aF} {w:World} {β:Nat->Option Nat} {tm:List aa} {H:af}
theorem Su (m:Q ae H w) {id g R ro b off k len n cap el:Nat} {C:jB} {cs d:List aa} {old q zs:Array Value} (V:H.get id=some (.cells g R ro cs)) (Y:ae.μ id g=some (b,C,cs.length)) (au:off+len*k=cs.length) (ar:0<k)
  (U:dU ae (cs.drop off) old) (X:dU ae d q) (ax:d.length=n*k) (S:len+n<=cap) (aE:zs.size=(cap-(len+n))*k) (hty:m_ g el=true):
  ∃ L,Q L (H.set id (.cells (g+1) R ro (cs++d))) (w.drew.alloc (.cells (old++q++zs) el))/\Fr ae.own ae L w (w.drew.alloc (.cells (old++q++zs) el))/\
    aC L (.ref id (g+1) off k (len+n) false) (.slice (some ⟨w.drew.heap.size,0,none⟩) (len+n) cap):=by
 obtain ⟨aO,aJ,p⟩:=m.obj _ _ V;have j:=p.at_;rw [Y] at j;simp only [N,bz] at j;obtain ⟨rfl,rfl,_⟩:=j;have aq:=af.gW V;have G:Q ae H w.drew:=m.drew;have az:(old++q++zs).size=cap*k:=by
  rw [yG,yG,<-U.1,<-X.1,oW,<-au,C9,ax,aE,<-iK,<-iK]
  grind
 have aX:(cs++d).length=off+(len+n)*k:=ah;have aY:(len+n)*k<=cap*k:=fU k S;have T:=U.append X;generalize aS:old++q++zs=h at az;have ao: ∀(c:Nat) (e:aa),off<=c->(cs++d)[c]? =some e-> ∃i,h[c-off]? =some i/\aC ae e i:=by
  intro c e a1 l;have u:c<(cs++d).length:=ah;have B:(cs.drop off++d)=(cs++d).drop off:=ah;have aW:c-off<(old++q).size:=by rw [<-T.1,B,oW];omega
  have aA:(cs.drop off++d)[c-off]? =some e:=ah;refine ⟨(old++q)[c-off],?_,T.2 _ _ _ aA ai⟩
  grind
 have W:(ae.ch id (g+1) (w.heap.size,⟨h.size+off,off⟩,(cs++d).length)).μ id (g+1)=some (w.heap.size,⟨h.size+off,off⟩,(cs++d).length):=by simp [aF.ch]
 have I: ∀c a o,ae.μ c a=some o->(ae.ch id (g+1) (w.heap.size,⟨h.size+off,off⟩,(cs++d).length)).μ c a=some o:=by
  intro c a o f;simp only [aF.ch];rw [if_neg]
  . exact f
  . rintro ⟨rfl,rfl⟩;rw [p.last (g+1) ab] at f;grind
 have t: ∀c a o,(ae.ch id (g+1) (w.heap.size,⟨h.size+off,off⟩,(cs++d).length)).μ c a=some o->(c=id/\a=g+1/\o=(w.heap.size,⟨h.size+off,off⟩,(cs++d).length))\/ae.μ c a=some o:=by
  intro c a o f;simp only [aF.ch] at f
  grind
 have Z: ∀e i,aC ae e i->aC (ae.ch id (g+1) (w.heap.size,⟨h.size+off,off⟩,(cs++d).length)) e i:=λe i a=>bt.mono a (λ_ _ _ a=>a) (λ_ _ a=>a) I;have av: ∀c a b C O,ae.μ c a=some (b,C,O)->b<w.heap.size:=λc a b C O f=>m.e3 _ _ _ _ _ f;have x:w.drew.heap.size=w.heap.size:=rfl;refine ⟨ae.ch id (g+1) (w.heap.size,⟨h.size+off,off⟩,(cs++d).length),⟨λb ad e a=>xD (G.aI _ _ _ a),λb ad a=>AS (G.gK _ _ a),m.hR,af.r_ _ _ _ m.len,λa8 ba v=> ?_,λc a o f=> ?_,λc a A y z f=> ?_,?_⟩,?_,?_⟩
 . rw [af.k_ _ m.len _ _ aq] at v;split at v
   . rename_i ag;subst ag;simp only [N] at v;subst v;refine ⟨w.heap.size,⟨h.size+off,off⟩,W,ah,C_ _ _,⟨h,el,0,0,by rw [iC,x,if_pos rfl],ai,ab⟩,?_,?_,λad _ _ _=>aF.Eb m _,?_,Nat.le_succ_of_le p.km,λaH a6=>⟨h,(0,0),by
      have:aH=el:=by simp only [m_,br,mL,lU] at hty;omega
      rw [this,iC,x,if_pos rfl]⟩⟩
     . intro c e u l;have u:c<off:=u;rw [kC,if_pos ab] at l;by_cases ay:c<C.s
       . obtain ⟨i,aD⟩:=p.nK c e ay l
         grind
       . obtain ⟨i,_,aD⟩:=(p.cont g b C cs.length p.km Y).2 c e ab ab l
         grind
     . intro a A y z B f;rcases t _ _ _ f with ⟨_,_,j⟩|aw
       . simp only [bz] at j;obtain ⟨rfl,rfl,rfl⟩:=j;refine ⟨ai,λc e D u l=> ?_⟩;obtain ⟨i,J,K⟩:=ao c e D l;exact ⟨i,by rw [<-x,Bp];exact J,Z _ _ K⟩
       . obtain ⟨bb,aG⟩:=p.cont a A y z B aw;refine ⟨ah,λc e D u l=> ?_⟩;rw [kC,if_pos ab] at l;obtain ⟨i,J,K⟩:=aG c e D u l;exact ⟨i,xD J,Z _ _ K⟩
     . intro a aV;simp only [aF.ch];rw [if_neg (by rintro ⟨_,j⟩;omega)];exact p.last _ ab
   . rename_i aZ;refine (G.obj _ _ v).carry (λ_ _ _ a=>a) (λ_ _ a=>a) I (λa=> ?_) (λa A y z f=> ?_) (λ_ _ _ _ _ _ a=>a) (λ_ _ _ _ _ a=>a)
     . simp only [aF.ch];grind
     . rw [iC,if_neg]
       grind
 . rw [af.m7];rcases t _ _ _ f with ⟨rfl,_,_⟩|r
   . omega
   . exact m.hI _ _ _ r
 . rcases t _ _ _ f with ⟨_,_,j⟩|r
   . simp_all
   . have:=av _ _ _ _ _ r;simp [x];omega
 . intro c a aP aK aM a7 r aL aN aj al;rcases t _ _ _ aj with ⟨aQ,_,bc⟩|ak
   . grind
   . rcases t _ _ _ al with ⟨aR,_,bd⟩|an
     . grind
     . exact m.sep _ _ _ _ _ _ _ _ _ ak an
 . refine ⟨ai,λb aU _=>by rw [iC,x,if_neg ab];rfl,λ_ _ _ a=>a,λ_ _ _ a=> .inl a,λ_ _ a=>a,λ_ _ a=> .inl a,?_,I,rfl,rfl,rfl⟩;rintro A ⟨c,a,y,z,f⟩;rcases t _ _ _ f with ⟨_,_,j⟩|r
   . grind
   . exact .inl ⟨_,_,_,_,r⟩
 . have:=bt.ref (F:=(ae.ch id (g+1) (w.heap.size,⟨h.size+off,off⟩,(cs++d).length)).F) (M:=ae.M) id (g+1) off k (len+n) false w.heap.size ⟨h.size+off,off⟩ _ cap W ab ar ai ah S (aT _);rw [show off-(⟨h.size+off,off⟩:jB).s=0 by simp] at this;exact this
theorem MF (el:Nat):ev (q el)=el+1:=Nat.mul_div_cancel _ al
include aB in
theorem Ol {t1 t2 ty:Nat} {s x v:aa} {y z:Value} {H':af} (hw:Q ae H w) (bB:aA ae β tm s y) (bj:aA ae β tm x z) (h:cI E t1 t2 s x H=some (v,H')):
  ∃cF w' r,(Builtin.append_ #[t1,t2] ty #[y,z]).run P w= .ok r w'/\Q cF H' w'/\Fr ae.own ae cF w w'/\aC cF v r:=by
 unfold cI at h;split at h
 case h_2=>grind
 rename_i el d2 Iq vr;have rz:=b3 aB Iq;have rA:=b3 aB vr;split at h
 case h_2=>grind
 rename_i i a8;split at h
 case isFalse=>grind
 rename_i bp;obtain ⟨dp,dg⟩:=bp;split at h
 case h_3=>grind
 ·
  rename_i new tj;obtain ⟨lf,⟨bI,dh,rv⟩,_⟩:=D5 aB (ty:=ty) hw bj rz rA a8 dg tj;have qb:bI= #[]:=by
   have:bI.size=0:=by rw [<-dh.1,lf];omega
   grind
  subst qb;have fin: ∀base sLen j6,y= .slice base sLen j6->sLen<=j6->aC ae s y->v=s/\H'=H-> ∃cF w' r,(Builtin.append_ #[t1,t2] ty #[y,z]).run P w= .ok r w'/\Q cF H' w'/\Fr ae.own ae cF w w'/\aC cF v r:=by rintro base sLen j6 rfl hle aP ⟨rfl,rfl⟩;refine ⟨ae,w,_,rv base sLen j6 w ab ?_,hw,Fr.refl λ_ h=>h,aP⟩;cases base<;>rfl
  split at h
  . simp only [N,bz] at h;simp only [aA] at bB;have yv:=bB
    cases bB with
    |V=>grind
  . simp only [N,bz] at h;simp only [aA] at bB;have yv:=bB
    cases bB with
    |A _ _ a cap k b o X aS=>grind
  . simp only [N,bz] at h;simp only [aA] at bB;have yv:=bB
    cases bB with
    |ref _ _ _ _ _ _ b C L cap aS bG dS fO kr pY bB=>grind
  grind
 . rename_i new n Iz tj;obtain ⟨lf,⟨ahG,yx,rv⟩,bI,eM,dh,vB,aeE⟩:=D5 aB (ty:=ty) hw bj rz rA a8 dg tj;have bO:n≠0:=ab;split at h
   case isFalse=>grind
   rename_i mG;have D8: ∀(lW:List aa) base sLen j6,y= .slice base sLen j6-> ¬sLen+n<=j6->(sLen+n)*(i.bytes+1)<=b7->lW.length=sLen*i.size->
     (∃old,(Builtin.firstCells i.size sLen (.slice base sLen j6)).run P w.drew= .ok old w.drew/\dU ae lW old)-> ∀g0,(∀t,ev g0=t+1->el=t)->v= .ref H.n g0 0 i.size (sLen+n) false->H'=H.push (.cells g0 g0 0 (lW++new))->
     ∃cF w' r,(Builtin.append_ #[t1,t2] ty #[y,z]).run P w= .ok r w'/\Q cF H' w'/\Fr ae.own ae cF w w'/\aC cF v r:=by
    rintro lW base sLen j6 rfl aeO p6 S4 ⟨old,aeS,S3⟩ g0 hty rfl rfl;obtain ⟨cF,g1,g2,g3⟩:=Ie (el:=el) hw S3 dh S4 lf dp (Bn w (sLen+n) j6 el) (zs:=Builtin.zeroCells eM.cells (jd w (sLen+n) j6 el-(sLen+n))) (by rw [Ar,vB]) g0 hty
    grind
   split at h
   ·
    split at h
    case isFalse=>grind
    rename_i p6;simp only [bu,dn,c8,c1,N,bz] at h;obtain ⟨rfl,rfl⟩:=h;simp only [aA] at bB
    cases bB with
    |V=>exact D8 [] none 0 0 rfl ab ah ai ⟨#[],rfl,by simp [dU]⟩ (q el) (λt lg=>by rw [MF] at lg;grind) ai ai
   ·
    rename_i rows;split at h
    case isFalse=>grind
    rename_i bp;obtain ⟨p6,mC⟩:=bp;simp only [bu,dn,c8,N,bz] at h;obtain ⟨rfl,rfl⟩:=h;obtain ⟨fc,_,_,mu⟩:=rb (P:=P) (k:=i.size) (cs:=rows.flatten) (n:=rows.length) hw.drew bB (by simp only [e4];grind);simp only [aA] at bB
    cases bB with
    | A _ _ a cap k b o X aS bG=>
      have ym:=bG rfl;obtain ⟨old,Ko,tX⟩:=mu rows.length (aT _);rw [fT (by rw [fc];exact aT _)] at tX;exact D8 rows.flatten a rows.length cap rfl ab p6 fc ah 0 (λt lg=>by simp [ev] at lg) rfl rfl
   ·
    rename_i id gen off k len clip;split at h
    case h_2=>grind
    rename_i g u_ ro cs jl;split at h
    case isFalse=>grind
    rename_i bp;obtain ⟨rfl,p6,aH⟩:=bp;split at h
    ·
     rename_i yo;subst yo;split at h
     case h_2=>grind
     rename_i old aeX;simp only [bu,dn,c8,N,bz] at h;obtain ⟨rfl,rfl⟩:=h;obtain ⟨fc,_,_,mu⟩:=rb (P:=P) (k:=i.size) (cs:=old) (n:=len) hw.drew bB (by simp only [e4];grind);simp only [aA] at bB
     cases bB with
     | ref _ _ _ _ _ _ b C L cap aS bG dS fO kr pY p9=>
       have ym:=fO rfl;obtain ⟨XB,Ko,tX⟩:=mu len (aT _);rw [fT (by rw [fc];exact aT _)] at tX;exact D8 old _ len cap rfl ab p6 fc ah 0 (λt lg=>by simp [ev] at lg) rfl rfl
    . rename_i yo;have yo:clip=false:=ah;subst yo;split at h
      ·
       rename_i bp;obtain ⟨rfl,hlen,vz,hty⟩:=bp;simp only [bu,dn,c1,c8,N,bz] at h;obtain ⟨rfl,rfl⟩:=h;have yv:=bB;simp only [aA] at bB
       cases bB with
       | ref _ _ _ _ _ _ b C L cap aS bG dS fO kr pY p9=>
         have nL:=kr rfl;obtain ⟨xt,w_,ld⟩:=hw.obj _ _ jl;have e:=ld.at_;rw [aS] at e;simp only [N,bz] at e;obtain ⟨rfl,rfl,rfl⟩:=e;by_cases cy:len+n<=cap
         . obtain ⟨cF,_,g0,g1,g2,g3⟩:=St (P:=P) hw jl aS p9 hlen dp yx (yx.one mG) lf cy ab vz (by simp only [m_,br,lU] at hty;omega)
           grind
         . obtain ⟨fc,_,_,mu⟩:=rb (P:=P) (k:=i.size) (cs:=cs.drop off) (n:=len) hw.drew yv (by
            simp only [e4];rw [jl];simp only [aH,true_and,if_true];have:sub cs off (len*i.size)=some (cs.drop off):=by unfold sub;rw [if_pos ab,fT ah]
            grind)
           obtain ⟨XB,Ko,tX⟩:=mu len (aT _);rw [fT (by rw [fc];exact aT _)] at tX;obtain ⟨cF,g1,g2,g3⟩:=Su (el:=el) hw jl aS hlen dp tX dh lf (Bn w (len+n) cap el) (zs:=Builtin.zeroCells eM.cells (jd w (len+n) cap el-(len+n))) (by rw [Ar,vB]) hty
           grind
      . split at h
        case isFalse=>grind
        rename_i bp;obtain ⟨rfl,vz,hle⟩:=bp;split at h
        case h_2=>grind
        rename_i cs' hu;simp only [bu,dn,c8,N,bz] at h;obtain ⟨rfl,rfl⟩:=h;simp only [aA] at bB
        cases bB with
        | ref _ _ _ _ _ _ b C L cap aS bG dS fO kr pY p9=>
          have nL:=kr rfl;obtain ⟨xt,w_,ld⟩:=hw.obj _ _ jl;have e:=ld.at_;rw [aS] at e;simp only [N,bz] at e;obtain ⟨rfl,rfl,rfl⟩:=e;have p6:=ld.room;have cy:len+n<=cap:=by have:(len+n)*i.size<=cap*i.size:=ab;exact Nat.le_of_mul_le_mul_right this dp
          have nP:hD id gen (off+len*i.size) cs.length (n*i.size) new tm H= .ok (.av []) tm (H.set id (.cells gen gen ro cs')):=by unfold hD;rw [jl];have:off+len*i.size+n*i.size<=cs.length:=ah;simp only [vz,this,and_self,if_true,hu,bu,c8]
          obtain ⟨_,_,jJ,o',p1,g0,g1,g2⟩:=wO (P:=P) (loc:=λ_=>false) (β:=β) hw (bt.ptr id gen (off+len*i.size) cs.length b C cs.length aS ab ab) yx (yx.one mG) lf nP;simp only [Value.pointer.injEq,N,Addr.mk.injEq] at p1;obtain ⟨rfl,rfl,_⟩:=p1;exact ⟨ae,_,_,rv _ len cap _ cy (by simp only [ke];grind),g1,g2,.ref _ _ _ _ _ _ _ _ _ _ aS ab dp ai (λ_=>nL) cy p9⟩
   grind
end
section
variable {E:Env} {P:Program} (aB:fJ E P) {ae:aF} {w:World} {β:Nat->Option Nat} {tm:List aa} {H:af}
def pb (w:World) (b:Nat) (o:Go.Obj):World:= {w with heap:=w.heap.setIfInBounds b o}
theorem zC (w:World) (b a:Nat) (o:Go.Obj) (c:b<w.heap.size):(pb w b o).heap[a]? =if a=b then some o else w.heap[a]? :=by
 simp only [pb,CM]
 grind
theorem EX (d:Q ae H w) {id b:Nat} {o o':Obj} {l qv:Go.Obj} (v:H.get id=some o) (k:ae.μ id 0=some (b,0,0)) (z:w.heap[b]? =some l) (A: ∀c e f,l≠ .cells c e f) (p:ae.M b=none)
  (B:q1 ae id (pb w b qv) o'):Q ae (H.set id o') (pb w b qv)/\Fr ae.own ae ae w (pb w b qv):=by
 have q:=af.gW v;have r:b<w.heap.size:=ah;have h:=λg=>zC w b g qv r;have hF: ∀g o i,ae.F g o=some i->g≠b:=by
  rintro g o i a rfl;have:=d.aI _ _ _ a;unfold cellAt at this
  grind
 have x:(pb w b qv).heap.size=w.heap.size:=by simp [pb]
 refine ⟨⟨λg o i a=> ?_,λg o a=> ?_,d.hR,af.r_ _ _ _ d.len,λC o a=> ?_,λy j D a=>by rw [af.m7];exact d.hI _ _ _ a,λy j g m n a=>by rw [x];exact d.e3 _ _ _ _ _ a,d.sep⟩,?_⟩
 . unfold cellAt;rw [h,if_neg (hF _ _ _ a)];exact d.aI _ _ _ a
 . rw [h,if_neg (by rintro rfl;rw [p] at a;simp at a)];exact d.gK _ _ a
 . rw [af.k_ _ d.len _ _ q] at a;split at a
   . grind
   . rename_i u;refine (d.obj _ _ a).carry ai ai ai ai (λj g m n s=> ?_) ai ai;rw [h,if_neg];rintro rfl;exact u (d.sep _ _ _ _ _ _ _ _ _ s k).1
 . refine ⟨ab,λg _ t=> ?_,ai,ah,ai,ah,ah,ai,rfl,rfl,rfl⟩;rw [h,if_neg];rintro rfl;exact t ⟨_,_,_,_,k⟩
theorem EM {b:Nat} {o:Go.Obj} (a:w.heap[b]? =some o) (d: ∀c e f,o≠ .cells c e f):(getObj b).run P w= .ok o w:=by simp only [getObj,Sem.run,a]
theorem EN {b:Nat} {o:Go.Obj} (o':Go.Obj) (a:w.heap[b]? =some o) (d: ∀c e f,o≠ .cells c e f):(setObj b o').run P w= .ok () (pb w b o'):=by simp only [setObj,Sem.run,a,pb]
include aB in
theorem u7 {t1:Nat} {ats:Array Nat} {ty:Nat} (yk:ats[0]? =some t1) {s x v:aa} {y z:Value} {H':af} (hw:Q ae H w) (bB:aA ae β tm s y) (bj:aA ae β tm x z) (h:sV E t1 s x H=some (v,H')):
  ∃w' r,(Builtin.copy_ ats ty #[y,z]).run P w= .ok r w'/\Q ae H' w'/\Fr ae.own ae ae w w'/\aC ae v r:=by
 unfold sV at h;split at h
 case h_2=>grind
 rename_i el aH;have hu:=b3 aB aH;split at h
 case h_2=>grind
 rename_i k dp;obtain ⟨i,a8,rfl⟩:=hX aB dp;split at h
 case h_2=>grind
 rename_i dl c oc tf yq;obtain ⟨fc,kn,_,mu⟩:=rb (P:=P) hw bj yq;have SX:(if Nat.ble oc dl then oc else dl)=Nat.min oc dl:=by
  cases dg:Nat.ble oc dl with
  |true=>simp_all
  | false=>
    have: ¬oc<=dl:=λhle=>by rw [h_ hle] at dg;cases dg
    grind
 simp only [SX] at h;obtain ⟨bI,gF,e5⟩:=mu (Nat.min oc dl) (Nat.min_le_left _ _);have run: ∀base cap w',y= .slice base dl cap->(match base with|some a=>storeCells a bI.toList|none=>pure ():Sem Unit).run P w= .ok () w'->
   (Builtin.copy_ ats ty #[y,z]).run P w= .ok (goInt (Nat.min oc dl)) w':=by
  rintro base cap w' rfl nP;unfold Builtin.copy_;rw [yk];refine (bg (ca hu)).trans ?_;refine (bg kn).trans ?_;refine (bg (gN a8)).trans ?_;refine (bg gF).trans ?_
  cases base with
  | none=>
    simp_all
  |some a=>simp_all
 split at h
 . rename_i cq;simp only [N,bz] at h;obtain ⟨rfl,rfl⟩:=h;have qb:bI= #[]:=by apply Array.eq_empty_of_size_eq_zero;rw [<-e5.1,cq];simp
   subst qb;have fin: ∀base cap,y= .slice base dl cap-> ∃w' r,(Builtin.copy_ ats ty #[y,z]).run P w= .ok r w'/\Q ae H w'/\Fr ae.own ae ae w w'/\aC ae (.int .i64 0) r:=by intro base cap dh;refine ⟨w,_,run base cap w dh (by cases base<;>rfl),hw,Fr.refl λ_ h=>h,?_⟩;rw [cq];exact .int _ _
   cases s<;>simp only [zc,N,reduceCtorEq] at tf
   . subst tf;simp only [aA] at bB;cases bB;grind
   . subst tf;simp only [aA] at bB;cases bB;grind
   . subst tf;simp only [aA] at bB;cases bB;grind
 . rename_i cq;split at h
   case h_2=>grind
   rename_i id gen off qf len clip;split at h
   case h_2=>grind
   rename_i g u_ ro cs jl;split at h
   case isFalse=>grind
   rename_i bp;obtain ⟨rfl,rfl,vz,mG⟩:=bp;split at h
   case h_2=>grind
   rename_i cs' Cs;simp only [bu,c1,c8,N,bz] at h;obtain ⟨rfl,rfl⟩:=h;simp only [zc,N] at tf;subst tf;simp only [aA] at bB
   cases bB with
   | ref _ _ _ _ _ _ b C L cap aS bG dS fO kr pY p9=>
     obtain ⟨xt,w_,ld⟩:=hw.obj _ _ jl;have e:=ld.at_;rw [aS] at e;simp only [N,bz] at e;obtain ⟨rfl,rfl,rfl⟩:=e;obtain ⟨aa6,aa7,aa8⟩:=uD Cs;have nP:hD id gen off cs.length (c.take (Nat.min oc len*i.size)).length (c.take (Nat.min oc len*i.size)) tm H= .ok (.av []) tm (H.set id (.cells gen gen ro cs')):=by
      unfold hD
      simp_all
     have Cq:(c.take (Nat.min oc len*i.size)).all J=true:=by grind
     obtain ⟨_,_,jJ,o',p1,g0,g1,g2⟩:=wO (P:=P) (loc:=λ_=>false) (β:=β) hw (bt.ptr id gen off cs.length b C cs.length aS ab p9) e5 (e5.one Cq) rfl nP;simp only [Value.pointer.injEq,N,Addr.mk.injEq] at p1;obtain ⟨rfl,rfl,_⟩:=p1;exact ⟨_,_,run _ cap _ rfl g0,g1,g2,.int _ _⟩
theorem EK {a:List aa} {b:Value} (c:dU ae a b.cells) {k:Nat} (d:a.length=k) (m:Nat):
  dU ae (List.replicate m a).flatten ((Array.range (m*k)).map (b.cells[· %b.cells.size]!)):=by
 have:=NL c m;unfold Builtin.zeroCells at this;rw [<-c.1,d] at this|-;omega
include aB in
theorem Qf {t:Nat} {ats:Array Nat} {ty:Nat} (yk:ats[0]? =some t) {s v:aa} {y:Value} {H':af} (hw:Q ae H w) (bB:aA ae β tm s y) (h:oH E t s H=some (v,H')):
  ∃w' r,(Builtin.clear_ ats ty #[y]).run P w= .ok r w'/\Q ae H' w'/\Fr ae.own ae ae w w'/\aC ae v r:=by
 unfold oH at h;split at h
 case h_2=>cases h
 rename_i el aH;have hu:=b3 aB aH;have MB:aC ae (.av []) (.tuple #[]):=bt.av [] #[] rfl ai;have none_: ∀base cap,y= .slice base 0 cap->H'=H->v= .av []-> ∃w' r,(Builtin.clear_ ats ty #[y]).run P w= .ok r w'/\Q ae H' w'/\Fr ae.own ae ae w w'/\aC ae v r:=by rintro base cap rfl rfl rfl;refine ⟨w,.tuple #[],?_,hw,Fr.refl λ_ h=>h,MB⟩;unfold Builtin.clear_;rw [yk];refine (bg (ca hu)).trans ?_;cases base<;>rfl
 split at h
 . simp only [N,bz] at h;obtain ⟨rfl,rfl⟩:=h;simp only [aA] at bB;cases bB;grind
 . simp only [N,bz] at h;obtain ⟨rfl,rfl⟩:=h;simp only [aA] at bB;cases bB;simp_all
 . rename_i id gen off k len clip;split at h
   . rename_i cq;have cq:=gk cq;subst cq;simp only [N,bz] at h;obtain ⟨rfl,rfl⟩:=h;simp only [aA] at bB;cases bB;grind
   . rename_i cq;have cq:len≠0:=by intro e;simp_all
     split at h
     case h_2=>cases h
     rename_i c9 z g d ro cs fQ Tm jl;obtain ⟨i,a8,rfl⟩:=hX aB fQ;split at h
     case isFalse=>cases h
     rename_i bp;obtain ⟨rfl,rfl,vz,mG,qc⟩:=bp;split at h
     case h_2=>cases h
     rename_i cs' Cs;simp only [bu,c8,N,bz] at h;obtain ⟨rfl,rfl⟩:=h;simp only [aA] at bB
     cases bB with
     | ref _ _ _ _ _ _ b C L cap aS bG dS fO kr pY p9=>
       obtain ⟨xt,w_,ld⟩:=hw.obj _ _ jl;have e:=ld.at_;rw [aS] at e;simp only [N,bz] at e;obtain ⟨rfl,rfl,rfl⟩:=e;obtain ⟨aa6,aa7,aa8⟩:=uD Cs;obtain ⟨i2,eM,mE,iI,mJ⟩:=qV aB Tm;rw [a8] at mE;simp only [N] at mE;subst mE;obtain ⟨oS,_⟩:=uI (ae:=ae) mJ mG;have p7:=EK oS qc len;have nP:hD id gen off cs.length (List.replicate len z.cells).flatten.length (List.replicate len z.cells).flatten tm H= .ok (.av []) tm (H.set id (.cells gen gen ro cs')):=by
        unfold hD
        simp_all
       have Cq:(List.replicate len z.cells).flatten.all J=true:=by grind
       obtain ⟨_,_,jJ,o',p1,g0,g1,g2⟩:=wO (P:=P) (loc:=λ_=>false) (β:=β) hw (bt.ptr id gen off cs.length b C cs.length aS ab p9) p7 (p7.one Cq) rfl nP;simp only [Value.pointer.injEq,N,Addr.mk.injEq] at p1;obtain ⟨rfl,rfl,_⟩:=p1;refine ⟨_,.tuple #[],?_,g1,g2,MB⟩;unfold Builtin.clear_;rw [yk];refine (bg (ca hu)).trans ?_;obtain ⟨n,rfl⟩: ∃n,len=n+1:=⟨len-1,ab⟩;have adC:Builtin.zeroCells eM.cells (n+1)=(Array.range ((n+1)*i.size)).map (eM.cells[· %eM.cells.size]!):=by unfold Builtin.zeroCells;rw [<-oS.1,qc]
       refine Eq.trans (b:=(do
        let z<-zeroValue el
        storeCells ⟨b,off-C.s,none⟩ (Builtin.zeroCells z.cells (n+1)).toList
        pure (.tuple #[]):Sem Value).run P w) rfl ?_
       refine (bg (m3 a8 iI)).trans ?_
       simp_all
 grind
include aB in
theorem Wl {t:Nat} {l c v:aa} {y z:Value} {L:List aa} {H':af} (cQ:aA ae β tm l y) (bp:aA ae β tm c z) (h:mX E t l c tm H= .ok v L H'):
  L =tm/\ ∃(cs:List aa) (k len:Nat) (B:Array Value) (el cap:Nat),v= .ref H.n 0 0 k len false/\H'=H.push (.cells 0 0 0 cs)/\
    (Instr.makeSlice t y z).run P w= .ok (.slice (some ⟨w.heap.size,0,none⟩) len cap) (w.alloc (.cells B el))/\dU ae cs B/\0<k/\len*k<=cs.length/\cap*k=B.size/\len<=cap:=by
 unfold mX at h;split at h
 case h_2=>grind
 rename_i el gZ len CJ cap aH;have hu:=b3 aB aH;split at h
 case h_2=>grind
 rename_i i NK a8 cq;split at h
 case isFalse=>grind
 rename_i SN;obtain ⟨hle,p6,dp,qc,mG⟩:=SN;simp only [mz,dn,bu,c8,bf.ok.injEq] at h;obtain ⟨rfl,rfl,rfl⟩:=h;simp only [aA] at cQ bp;cases cQ;cases bp;have kv:=aB.T _ _ a8;obtain ⟨_,eM,mE,iI,mJ⟩:=qV aB cq;rw [kv] at mE;simp only [N] at mE;subst mE;obtain ⟨oS,_⟩:=uI (ae:=ae) mJ mG;have bh:b7=35184372088832:=rfl;have SL:cap<=b7:=ah;have aeC:cap*i.bytes<=b7:=ah;have Tg:IntKind.i64.wrap (Int.ofNat len)=Int.ofNat len:=Ap ab;have Tf:IntKind.i64.wrap (Int.ofNat cap)=Int.ofNat cap:=Ap SL;have p7:=EK oS qc cap;have SQ: ∃B:Array Value,(Instr.makeSlice t (.int gZ (.ofNat len)) (.int CJ (.ofNat cap))).run P w= .ok (.slice (some ⟨w.heap.size,0,none⟩) len cap) (w.alloc (.cells B el))/\dU ae (List.replicate cap NK.cells).flatten B:=by
  have ln: ¬((decide (Int.ofNat cap<0)||decide ((i.bytes:Int)*Int.ofNat cap>2^48)||decide (Int.ofNat len<0)||decide (Int.ofNat len>Int.ofNat cap))=true):=by grind
  have post: ∀hG:Array Value,(do pure (.slice (some (<-newRow el ((Array.range (cap*i.size)).map (hG[· %hG.size]!)))) len cap):Sem Value).run P w=
    .ok (.slice (some ⟨w.heap.size,0,none⟩) len cap) (w.alloc (.cells ((Array.range (cap*i.size)).map (hG[· %hG.size]!)) el)):=by
   intro hG;refine (bg (a:=⟨w.heap.size,0,none⟩) (w':=w.alloc (.cells _ el)) ?_).trans (Sem.run_pure _ _ _);simp only [newRow,Sem.run_bind,run_newObj,Result.andThen_ok,Sem.run_pure,World.alloc_eq]
  have pre: ∀hG:Array Value,(cap*i.size=0->hG= #[])->(¬cap*i.size=0->hG=eM.cells)->
    (Instr.makeSlice t (.int gZ (.ofNat len)) (.int CJ (.ofNat cap))).run P w= .ok (.slice (some ⟨w.heap.size,0,none⟩) len cap) (w.alloc (.cells ((Array.range (cap*i.size)).map (hG[· %hG.size]!)) el)):=by
   intro hG r4 r5;refine (bg (ca hu)).trans ?_;refine (bg (a:=Int.ofNat len) (w':=w) rfl).trans ?_;refine (bg (a:=Int.ofNat cap) (w':=w) rfl).trans ?_;refine (bg (m2 kv)).trans ?_;rw [Tg,Tf];refine (gG ln).trans ?_;refine (bg (run_askRoom _ _ _)).trans ?_;refine (bg (gN kv)).trans ?_;by_cases bO:cap*i.size=0
   . rw [r4 bO];exact (lT bO).trans ((bg (Sem.run_pure _ _ _)).trans (post #[]))
   . rw [r5 bO];exact (gG bO).trans ((bg (m3 kv iI)).trans de)
  by_cases bO:cap*i.size=0
  . refine ⟨_,pre #[] (λ_=>rfl) (λh=>absurd bO h),?_⟩
    grind
  . exact ⟨_,de,p7⟩
 obtain ⟨B,gY,vp⟩:=SQ;have Sw:B.size=cap*i.size:=by rw [<-vp.1,wF,qc]
 have yn:(List.replicate cap NK.cells).flatten.length=cap*i.size:=de;exact ⟨rfl,_,_,_,B,el,cap,rfl,rfl,gY,vp,dp,by rw [yn];exact fU _ hle,Sw.symm,hle⟩
include aB in
theorem XL {t:Nat} {l c v:aa} {y z:Value} {L:List aa} {H':af} (hw:Q ae H w) (cQ:aA ae β tm l y) (bp:aA ae β tm c z) (h:mX E t l c tm H= .ok v L H'):
  L=tm/\ ∃cF w' r,(Instr.makeSlice t y z).run P w= .ok r w'/\Q cF H' w'/\Fr ae.own ae cF w w'/\aC cF v r:=by
 obtain ⟨rfl,cs,k,len,B,el,cap,rfl,rfl,gY,vp,dp,aeJ,Ce,hle⟩:=Wl aB (w:=w) cQ bp h;obtain ⟨g1,g2,g3⟩:=WM hw cs B el (by rw [vp.1];omega) vp.2;exact ⟨rfl,_,_,_,gY,g1,g2,.ref _ _ _ _ _ _ _ _ _ _ g3 ab dp ai ah hle (fV _)⟩
end
section
variable {E:Env} {P:Program} (aB:fJ E P) {ae:aF} {w:World} {β:Nat->Option Nat} {tm:List aa} {H:af}
theorem XK {t:Nat} {v:aa} {L:List aa} {H':af} (c:Q ae H w) (b:qw tm H= .ok v L H'):
  L=tm/\ ∃a w' r,(Instr.makeMap t none).run P w= .ok r w'/\Q a H' w'/\Fr ae.own ae a w w'/\aC a v r:=by
 simp only [qw,dn,c8,bf.ok.injEq] at b;obtain ⟨rfl,rfl,rfl⟩:=b;obtain ⟨d,e,f⟩:=Ki c (.map false [] []) (.map #[] 0) 0 0
  ⟨w.heap.size, #[],0,by simp [aF.ch],by rw [iC,if_pos rfl],rfl,rfl,ai,ai,λ_=>(aF.Ea c:ae.M w.heap.size=none)⟩
 exact ⟨rfl,_,_,_,by simp [Instr.makeMap],d,e,.map _ _ f⟩
theorem XU {t:Nat} {d:TypeDesc} (m:P.underlying t=some d) {x v:aa} {y:Value} {L:List aa} {H':af} (e:Q ae H w) (f:aA ae β tm x y) (a:mY (some d) x tm H= .ok v L H'):
  L=tm/\ ∃b w' r,(Instr.range t y).run P w= .ok r w'/\Q b H' w'/\Fr ae.own ae b w w'/\aC b v r:=by
 unfold mY at a;split at a
 case h_2=>simp at a
 rename_i n num c;simp only [N] at c;subst c;simp only [dn,c8,bf.ok.injEq] at a;obtain ⟨rfl,rfl,rfl⟩:=a;simp only [aA] at f
 cases f with
 | str g _ _ k l=>
   obtain ⟨h,i,j⟩:=Ki e (.iter n num 0) (.stringIter g 0) 0 0
    ⟨w.heap.size,g,by simp [aF.ch],by rw [iC,if_pos rfl],k,l,(aF.Ea e:ae.M w.heap.size=none)⟩
   refine ⟨rfl,_,_,_,?_,h,i,.it _ _ j⟩;simp [Instr.range,ca m]
theorem Qx {s:ByteArray} {len num a:Nat} (b:s.size=len) (c:et s=num) (j:a<len):pL len num a=Utf8.decode s a:=by
 unfold pL;have f:Go.aj.bytesOf len num=s:=by
  subst b;subst c;unfold Go.aj.bytesOf et;rw [<-size_data,Ff];have:(s.data.toList.map (·.toNat)).map UInt8.ofNat=s.data.toList:=by
   rw [tB]
   conv=>rhs;rw [<-List.map_id s.data.toList]
   congr 1;funext l;simp
  rw [this]
 rw [f];have e:en num a=(s.get! (a+0)).toNat:=by
  subst c;have h:a<s.data.toList.length:=by rw [size_data,b];exact j
  rw [et,Gp _ _ h];have k:a<s.size:=ab;have g:a<s.data.size:=k;have d:s.get! (a+0)=s.data[a]:=by show s.data[a+0]! =s.data[a];simp only [Nat.add_zero];exact getElem!_pos s.data a g
  rw [d];simp
 rw [e];dsimp only;split
 . rename_i i;unfold Utf8.decode;dsimp only;rw [if_pos i]
 . rfl
theorem XO {ty:Nat} {x v:aa} {y:Value} {L:List aa} {H':af} (l:Q ae H w) (a:aA ae β tm x y) (c:rV x tm H= .ok v L H'):
  L=tm/\ ∃w' r,(Instr.next y true ty).run P w= .ok r w'/\Q ae H' w'/\Fr ae.own ae ae w w'/\aC ae v r:=by
 unfold rV at c;split at c
 case h_2=>simp at c
 rename_i id;split at c
 case h_2=>simp at c
 rename_i B num e p;simp only [aA] at a
 cases a with
 | it _ h m=>
   obtain ⟨C,f,d⟩:=l.obj _ _ p;have g:=d.at_;rw [m] at g;simp only [N,bz] at g;obtain ⟨rfl,_⟩:=g;have A:h<w.heap.size:=(qg.1 d.dH).1;have k: ∀s g t,Go.Obj.stringIter f e≠ .cells s g t:=by intros;simp
   have q:(Instr.next (.pointer (some ⟨h,0,none⟩)) true ty).run P w=(if e<f.size then
     (setObj h (.stringIter f (e+(Utf8.decode f e).2))>>=λ_=>pure (.tuple #[.bool true,goInt e,.int .i32 (Utf8.decode f e).1])).run P w else .ok (.tuple #[.bool false]) w):=by
    refine (bg (EM d.dH k)).trans ?_;by_cases i:e<f.size
    . rw [if_pos i];exact (lT i).trans rfl
    . rw [if_neg i];exact (gG i).trans (Sem.run_pure _ _ _)
   unfold wj at c;split at c
   . rename_i j;rw [Qx d.size d.num j] at c;simp only [c1,c8,bf.ok.injEq] at c;obtain ⟨rfl,rfl,rfl⟩:=c;obtain ⟨u,z⟩:=EX l (o':= .iter B num (e+(Utf8.decode f e).2)) (qv:= .stringIter f (e+(Utf8.decode f e).2)) p m d.dH k d.free
      ⟨h,f,m,by rw [zC _ _ _ _ A,if_pos rfl],d.size,d.num,d.free⟩
     refine ⟨rfl,_,.tuple #[.bool true,goInt e,.int .i32 (Utf8.decode f e).1],q.trans ?_,u,z,?_⟩
     . rw [if_pos (by rw [d.size];exact j)];exact (bg (EN _ d.dH k)).trans (Sem.run_pure _ _ _)
     . refine .av _ _ rfl λo v x b a=> ?_
       match o,b,a with
       |0,b,a=>simp at b a;subst b;subst a;exact .bool _
       |1,b,a=>simp at b a;subst b;subst a;exact .int _ _
       |2,b,a=>simp at b a;subst b;subst a;exact .int _ _
       |n+3,b,a=>simp at b
   . rename_i j;simp only [bf.ok.injEq] at c;obtain ⟨rfl,rfl,rfl⟩:=c;refine ⟨rfl,_,.tuple #[.bool false],q.trans (if_neg (by rw [d.size];exact j)),l,Fr.refl λ_ c=>c,?_⟩;refine .av _ _ rfl λo v x b a=> ?_
     match o,b,a with
     |0,b,a=>simp at b a;subst b;subst a;exact .bool _
     |n+1,b,a=>simp at b
end
section
variable {E:Env} {P:Program} (aB:fJ E P) {ae:aF} {w:World} {β:Nat->Option Nat} {tm:List aa} {H:af}
theorem str_inj {s t:ByteArray} (a:s.size=t.size) (b:et s=et t):s=t:=by have:=KP s.data.toList t.data.toList (by rw [size_data,size_data];exact a) b;cases s;cases t;simp only at this;congr 1;exact Array.ext' this
theorem Hi {a b:aa} {x y:Value} (d:aC ae a x) (e:aC ae b y) (c:s0 a b=some true) (n:Nat):Instr.sameBits n x y=true:=by
 unfold s0 at c;split at c
 . cases d;cases e;simp only [N] at c;simpa [Instr.sameBits] using c
 . cases d;cases e;split at c
   . rename_i g;subst g;simp only [N] at c;simpa [Instr.sameBits] using c
   . simp at c
 . cases d with
   | str f _ _ h i=>
     cases e with
     | str l _ _ j k=>
       simp only [N,br,beq_iff_eq] at c;have:f=l:=str_inj (by rw [h,j];exact c.1) (by rw [i,k];exact c.2);subst this;simp only [Instr.sameBits];show ByteArray.beq f f=true;unfold ByteArray.beq;simp
 . simp at c
theorem ZQ {a b :aa} {x y:Value} (s:aC ae a x) (t:aC ae b y) (d:uk (some a) b=true) (n:Nat):Instr.sameBits (n+1) x y=true:=by
 have I: ∀ {r c:aa} {x y:Value},aC ae r x->aC ae c y->(match s0 r c with|some true=>true|_=>false)=true->Instr.sameBits (n+1) x y=true:=by
  intro r c x y D i d;split at d
  . rename_i m;exact Hi D i m _
  . simp at d
 unfold uk at d;split at d
 . rename_i j h m;simp only [N] at m;subst m
   cases s with
   | agg _ f z A=>
     cases t with
     | agg _ g B C=>
       simp only [Instr.sameBits,br];have G: ∀(j h:List aa) (f g:List Value),j.length=f.length->h.length=g.length->(∀(e:Nat) (c:aa) (x:Value),j[e]? =some c->f[e]? =some x->aC ae c x)->(∀(e:Nat) (c:aa) (x:Value),h[e]? =some c->g[e]? =some x->aC ae c x)->
         s3 j h=true->f.length=g.length/\((f.zip g).all λ(x,y)=>Instr.sameBits n x y)=true:=by
        intro j
        induction j with
        | nil=>
          intro h f g k o _ _ d
          cases h with
          |nil=>cases f<;>cases g<;>simp at k o|-
          |cons=>simp [s3] at d
        | cons a j F=>
          intro h f g k o u v d
          cases h with
          |nil=>simp [s3] at d
          | cons b h=>
            cases f with
            |nil=>simp at k
            | cons x f=>
              cases g with
              |nil=>simp at o
              | cons y g=>
                simp only [s3] at d;split at d
                . rename_i m;obtain ⟨p,q⟩:=F h f g (by simpa using k) (by simpa using o) (λe c x i l=>u (e+1) c x (by simpa using i) (by simpa using l)) (λe c x i l=>v (e+1) c x (by simpa using i) (by simpa using l)) d;refine ⟨by simp [p],?_⟩;simp only [List.zip_cons_cons,aO,br];exact ⟨Hi (u 0 _ _ rfl rfl) (v 0 _ _ rfl rfl) m n,q⟩
                . simp at d
       obtain ⟨p,q⟩:=G j h f.toList g.toList (by simpa using z) (by simpa using B) (λe c x i l=>A e c x i (by simpa using l)) (λe c x i l=>C e c x i (by simpa using l)) d;exact ⟨by simpa using p,q⟩
 . rename_i J k o;simp only [N] at k;subst k;exact I s t d
 . simp at d
include aB in
theorem KC {t:Nat} {m k u v:aa} {x y z:Value} {L:List aa} {H':af} (hw:Q ae H w) (hm:aA ae β tm m x) (dp:aA ae β tm k y) (hu:aA ae β tm u z) (h:ih E t m k u tm H= .ok v L H'):
  v= .av []/\L=tm/\ ∃w',(Instr.mapUpdate t x y z).run P w= .ok () w'/\Q ae H' w'/\Fr ae.own ae ae w w':=by
 unfold ih at h;split at h
 case h_2=>simp at h
 rename_i lf;simp only [br] at lf;have dp:=dp.iv lf.1;have hu:=hu.iv lf.2;split at h
 case h_2=>simp at h
 rename_i H1 aS;simp only [bf.ok.injEq] at h;obtain ⟨rfl,rfl,rfl⟩:=h;refine ⟨rfl,rfl,?_⟩;unfold tS at aS;split at aS
 case h_2=>simp at aS
 rename_i amX el id aH;have aH:=b3 aB aH;split at aS
 case h_2=>simp at aS
 rename_i ks vs jl;simp only [aA] at hm
 cases hm with
 | map _ b vC=>
   obtain ⟨jJ,es,clock,eP⟩:=hw.obj _ _ jl;have e:=eP.at_;rw [vC] at e;simp only [N,bz] at e;obtain ⟨rfl,_⟩:=e;have iH:b<w.heap.size:=(qg.1 eP.dH).1;have th: ∀c e f,Go.Obj.map es clock≠ .cells c e f:=by intros;simp
   unfold Fg at aS;split at aS
   case h_2=>simp at aS
   rename_i ry;have Ce:=DE aB (w:=w) false 20 10000 amX k y ab dp ry;obtain ⟨fD,oP⟩:=JF ry;have oP:=b3 aB oP;have Iu:oo ae ks vs es.toList:=⟨by simpa using eP.jt,by simpa using eP.kK,λi v e aP he=>eP.keys i v e aP (by simpa using he),λi v e aP he=>eP.nd i v e aP (by simpa using he)⟩;split at aS
   case h_3=>simp at aS
   . rename_i i Aj cy;obtain ⟨fX,oR,mH⟩:=x7 aB (w:=w) oP dp Iu cy
     cases fX with
     |none=>exact mH.elim
     | some q=>
       obtain ⟨j,ahA⟩:=q;obtain ⟨rfl,_⟩:=mH;split at aS
       case h_2=>simp at aS
       rename_i yw;simp only [bu,c8,N] at aS;subst aS
       cases yr:ks[i]? with
       |none=>rw [yr] at yw;simp [uk] at yw
       | some TY=>
         rw [yr] at yw;have Cj:i<es.size:=by rw [<-eP.jt];exact (e6.1 yr).1
         have It:es[i]? =some es[i]:=by simp [Cj]
         have SJ:=ZQ (eP.keys i TY es[i] yr It) dp yw 9999;obtain ⟨g1,g2⟩:=EX hw (o':= .map false (dM ks i k) (dM vs i u)) (qv:= .map (es.modify i λe=> {e with key:=y,val:=z}) clock) jl vC eP.dH th (eP.free rfl)
          ⟨b,_,clock,vC,by rw [zC _ _ _ _ iH,if_pos rfl],by rw [EV];simpa using eP.jt,by rw [EV];simpa using eP.kK,
           λj v e aP he=>by
            rw [EU _ _ _ _ (by rw [eP.jt];exact Cj)] at aP;rw [vK] at he;split at aP
            . rename_i c;rw [if_pos c] at he;simp only [N] at aP;subst aP;simp only [tH] at he;obtain ⟨ra,_,rfl⟩:=he;exact dp
            . rename_i c;rw [if_neg c] at he;exact eP.keys _ _ _ aP he,
           λj v e aP he=>by
            rw [EU _ _ _ _ (by rw [eP.kK];exact Cj)] at aP;rw [vK] at he;split at aP
            . rename_i c;rw [if_pos c] at he;simp only [N] at aP;subst aP;simp only [tH] at he;obtain ⟨ra,_,rfl⟩:=he;exact hu
            . rename_i c;rw [if_neg c] at he;exact eP.nd _ _ _ aP he,eP.free⟩
         refine ⟨_,?_,g1,g2⟩;refine (bg (ca aH)).trans ?_;refine (bg (EM eP.dH th)).trans ?_;refine (bg Ce).trans ?_;refine (bg oR).trans ?_;refine (bg (a:=y) (w':=w) ?_).trans (EN _ eP.dH th);rw [It];simp only [jV,vX,Instr.keyThatStays];exact (lT SJ).trans (Sem.run_pure _ _ _)
   . rename_i cy;obtain ⟨fX,oR,mH⟩:=x7 aB (w:=w) oP dp Iu cy
     cases fX with
     |some q=>exact mH.elim
     | none=>
       simp only [bu,c8,N] at aS;subst aS;have app: ∀ {l:List aa} {a:aa} {Fs:Value} {f:MapEntry->Value} {ra:MapEntry},l.length=es.size->aC ae a Fs->f ra=Fs->(∀(i:Nat) (v:aa) (e:MapEntry),l[i]? =some v->es[i]? =some e->aC ae v (f e))->
         ∀(i:Nat) (v:aa) (e:MapEntry),(l++ [a])[i]? =some v->(es.push ra)[i]? =some e->aC ae v (f e):=by
        intro l a Fs f ra cQ eO cy mC i v e aP he;rw [kC] at aP;rw [vL] at he;split at aP
        . rename_i c;rw [if_neg ab] at he;exact mC _ _ _ aP he
        . rename_i c;have SS:i=es.size:=by have:=(e6.1 aP).1;simp at this;omega
          rw [if_pos SS] at he;simp only [N] at he;subst he;have:i-l.length=0:=ab;rw [this] at aP;simp only [mM,N] at aP;subst aP;rw [cy];exact eO
       obtain ⟨g1,g2⟩:=EX hw (o':= .map false (ks++ [k]) (vs++ [u])) (qv:= .map (es.push {key:=y,val:=z,born:=clock}) (clock+1)) jl vC eP.dH th (eP.free rfl)
        ⟨b,_,_,vC,by rw [zC _ _ _ _ iH,if_pos rfl],by simp [eP.jt],by simp [eP.kK],app eP.jt dp rfl eP.keys,app eP.kK hu rfl eP.nd,eP.free⟩
       refine ⟨_,?_,g1,g2⟩;refine (bg (ca aH)).trans ?_;refine (bg (EM eP.dH th)).trans ?_;refine (bg Ce).trans ?_;refine (bg oR).trans ?_;exact EN _ eP.dH th
end
section
variable {E:Env} {P:Program} (aB:fJ E P) {ae:aF} {w:World} {β:Nat->Option Nat} {tm:List aa} {H:af}
theorem WJ {el g:Nat} {cs:List aa} {xs:Array Value} {v:aa} {L:List aa} {H':af} (i:Q ae H w) (c:dU ae cs xs) (h: ∀t,ev g=t+1->el=t) (b:o4 g cs tm H= .ok v L H'):
  L=tm/\ ∃a,Q a H' (w.alloc (.cells xs el))/\Fr ae.own ae a w (w.alloc (.cells xs el))/\aC a v (.pointer (some ⟨w.heap.size,0,none⟩)):=by
 simp only [o4,c1,dn,bu,c8,bf.ok.injEq] at b;obtain ⟨rfl,rfl,rfl⟩:=b;obtain ⟨d,e,f⟩:=D7 i cs xs el (by rw [c.1];exact aT _) c.2 g h;exact ⟨rfl,_,d,e,.ptr _ _ _ _ _ _ _ f (aT _) (fV _)⟩
theorem WN (e:Q ae H w) (xs:Array Value) (el:Nat):
  Q {ae with F:=λb o=>if b=w.heap.size then xs[o]? else ae.F b o} H (w.alloc (.cells xs el))/\Fr ae.own ae {ae with F:=λb o=>if b=w.heap.size then xs[o]? else ae.F b o} w (w.alloc (.cells xs el)):=by
 have c:=e.alloc (.cells xs el);have hF: ∀b o d,ae.F b o=some d->(if b=w.heap.size then xs[o]? else ae.F b o)=some d:=by
  intro b o d a;rw [if_neg]
  . exact a
  . have:=aF.FG e a;omega
 refine ⟨⟨λb o d a=> ?_,c.gK,c.hR,c.len,λid o a=> ?_,c.hI,c.e3,c.sep⟩,?_⟩
 . simp only at a;split at a
   . rename_i f;subst f;rw [Bp];exact a
   . exact c.aI _ _ _ a
 . refine (c.obj _ _ a).carry hF (λ_ _ a=>a) (λ_ _ _ a=>a) (λ_=>rfl) (λ_ _ _ _ _=>rfl) (λk b i j g o h=> ?_) (λ_ _ _ _ _ a=>a);simp only;rw [if_neg]
   . exact h
   . have:=e.e3 _ _ _ _ _ g;omega
 . refine ⟨ai,λb l _=>by rw [iC,if_neg ab],hF,λb o d a=> ?_,λ_ _ a=>a,λ_ _ a=> .inl a,λ_ a=> .inl a,λ_ _ _ a=>a,rfl,rfl,rfl⟩;simp only at a;split at a
   . exact .inr (.inr ab)
   . exact .inl a
theorem RH {pl:Nat->Option (Nat×Nat)}: ∀(b:List (Nat×aa)) (cs c:List aa),hn pl cs b=some c->c.length=cs.length:=by
 intro b
 induction b with
 |nil=>intro cs c a;simp [hn] at a;rw [a]
 | cons f b e=>
   intro cs c a;obtain ⟨h,i⟩:=f;simp only [hn] at a;split at a
   . simp at a
   . split at a
     . split at a
       . rename_i g d;simp only [bu] at a;rw [e _ _ a,(uD d).2.1]
       . simp at a
     . simp at a
include aB in
theorem Pc {t len:Nat} {gm:List (Nat×aa)} {l2:Array (Nat×Value)} {v:aa} {H':af} (hw:Q ae H w) (cQ:gm.length=l2.toList.length)
  (yu: ∀(j:Nat) (p:Nat×aa) (q:Nat×Value),gm[j]? =some p->l2.toList[j]? =some q->p.1=q.1/\aA ae β tm p.2 q.2)
  (h:cT E t len gm H=some (v,H')): ∃cF w' r,(Instr.buildSlice t len l2).run P w= .ok r w'/\Q cF H' w'/\Fr ae.own ae cF w w'/\aC cF v r:=by
 unfold cT at h;split at h
 case h_2=>simp at h
 rename_i el aH;have hu:=b3 aB aH;split at h
 case h_2=>simp at h
 rename_i k z dp cq;obtain ⟨i,a8,rfl⟩:=hX aB dp;obtain ⟨i2,eM,mE,iI,mJ⟩:=qV aB cq;rw [a8] at mE;simp only [N] at mE;subst mE;obtain ⟨oS,nQ⟩:=uI (ae:=ae) mJ (Fw aB cq).1;split at h
 case isFalse=>simp at h
 rename_i bp;obtain ⟨aeH,qc,hlen⟩:=bp;split at h
 case h_2=>simp at h
 rename_i cs cy;split at h
 case h_2=>simp at h
 rename_i cs' H1 hm;simp only [rf,N,bz] at h;obtain ⟨rfl,rfl⟩:=h;have p7:=EK oS qc len;have S9: ∃hG:Array Value,(if len*i.size=0 then pure #[] else do pure (<-zeroValue el).cells:Sem (Array Value)).run P w= .ok hG w/\dU ae (List.replicate len z.cells).flatten ((Array.range (len*i.size)).map (hG[· %hG.size]!))/\
   (len*i.size=0->hG= #[])/\(¬len*i.size=0->hG=eM.cells):=by
  by_cases bO:len*i.size=0
  . refine ⟨#[],(lT bO).trans (Sem.run_pure _ _ _),?_,λ_=>rfl,λh=>absurd bO h⟩;rw [show len=0 by rcases Nat.mul_eq_zero.1 bO with h|h<;>omega];simp [dU]
  . exact ⟨eM.cells,(gG bO).trans ((bg (m3 a8 iI)).trans (Sem.run_pure _ _ _)),p7,λh=>absurd h bO,λ_=>rfl⟩
 obtain ⟨hG,ae0,II,lh,Tj⟩:=S9;have S5: ∀(j:Nat) (y:Value),((Array.range (len*i.size)).map (hG[· %hG.size]!))[j]? =some y->y.oneCell'=true:=by refine II.one ?_;rw [ba];intro v aP;rw [kD] at aP;obtain ⟨l,tg,Cl⟩:=aP;rw [List.mem_replicate] at tg;rw [tg.2] at Cl;exact ba.1 (Fw aB cq).1 _ Cl
 obtain ⟨bI,gF,e5,_⟩:=BO (ae:=ae) (β:=β) (tm:=tm) (pl:=λj=>some (j*i.size,i.size)) (wA:=λj=>some (j*i.size,i.size)) (λ_ _ h=>h) gm l2.toList _ cs _ cQ yu II S5 cy;obtain ⟨g1,g2⟩:=WN hw bI el;have yn:cs.length=len*i.size:=by rw [RH _ _ _ cy,wF,qc]
 obtain ⟨Au,Cu,Iv,aeM,SZ,Tc⟩:=nY (r3 bR) cs H cs' H1 hm _ (w.alloc (.cells bI el)) (λj=>(bI[j]?).getD default) g1 (λj v aP=>by
  have gE:j<bI.size:=by rw [<-e5.1];exact (e6.1 aP).1
  have:=e5.2 j v bI[j] aP (by simp [gE]);show aC _ v ((bI[j]?).getD default);rw [show (bI[j]?).getD default=bI[j] by simp [gE]];exact this.aR g2)
 have Ip:cs'.length=len*i.size:=by rw [SZ,yn]
 have qb:bI.size=len*i.size:=by rw [<-e5.1,yn]
 refine ⟨Au,_,.slice (some ⟨w.heap.size,0,none⟩) len len,?_,Cu,g2.trans Iv (λb dg=> .inl dg),?_⟩
 . have post:(do pure (.slice (some (<-newRow el bI)) len len):Sem Value).run P w= .ok (.slice (some ⟨w.heap.size,0,none⟩) len len) (w.alloc (.cells bI el)):=by refine (bg (a:=⟨w.heap.size,0,none⟩) (w':=w.alloc (.cells _ el)) ?_).trans (Sem.run_pure _ _ _);simp only [newRow,Sem.run_bind,run_newObj,Result.andThen_ok,Sem.run_pure,World.alloc_eq]
   refine (bg (ca hu)).trans ?_;refine (bg (gN a8)).trans ?_;refine (gG ab).trans ?_;by_cases bO:len*i.size=0
   . rw [lh bO] at gF;refine (lT bO).trans ((bg (Sem.run_pure _ _ _)).trans ?_);simp only [gF];exact post
   . rw [Tj bO] at gF;refine (gG bO).trans ((bg (m3 a8 iI)).trans ((bg (Sem.run_pure _ _ _)).trans ?_));simp only [gF];exact post
 . have fin:=bt.A (F:=Au.F) (M:=Au.M) (μ:=Au.μ) (chunk i.size len cs') true (some ⟨w.heap.size,0,none⟩) len i.size w.heap.size 0 (λr j=>(bI[r*i.size+j]?).getD default)
    (by rw [oG];exact aT _) (λ_=>by rw [oG]) ai (λ_=>rfl)
    (λr row bh=>(xG Ip bh).2.1)
    (λr j bh gE=>by rw [oG] at bh;have aS:(r+1)*i.size<=len*i.size:=fU i.size bh;rw [ql] at aS;have iH:r*i.size+j<bI.size:=ab;refine Iv.jO _ _ _ ?_;simp only [if_true,gH];simp [iH])
    (λr j row v bh aP=>by
     obtain ⟨a8,vy,p7⟩:=xG Ip bh;rw [p7] at aP;split at aP
     . exact Tc _ _ aP
     . simp at aP)
   rw [oG] at fin;exact fin
end
def below (μ:lE) (n:Nat):lE:=λa b=>if a<n then μ a b else none
def sE {μ:lE} {n i g:Nat} {y:Nat×jB×Nat} (a:below μ n i g=some y):i<n/\μ i g=some y:=by
 unfold below at a;grind
def nt {μ:lE} {n i g:Nat} (a:i<n):below μ n i g=μ i g:=by unfold below;grind
def vE {F:sw} {M:nj} {μ:lE} {n:Nat}: ∀(d:Nat) (v:aa) (x:Value),bt F M μ v x->y n d v=true->bt F M (below μ n) v x:=by
 intro d
 induction d with
 |zero=>intro v x _ e;simp [y] at e
 | succ d O=>
   intro v x N e;have all: ∀ {f:List aa} {g:Array Value},f.all (y n d)=true->(∀(m:Nat) (v:aa) (x:Value),f[m]? =some v->g[m]? =some x->bt F M μ v x)->
     ∀(m:Nat) (v:aa) (x:Value),f[m]? =some v->g[m]? =some x->bt F M (below μ n) v x:=by
    grind
   cases N with
   |bad x=>exact .bad x
   |bool b=>exact .bool b
   |int p T=>exact .int p T
   |str W j b a c=>exact .str W j b a c
   |dz=>exact .dz
   |b5 f q b o t a c=>exact .b5 f q b o t a c
   |V=>exact .V
   |A U z j u p b o t a c h i k B l=>exact .A U z j u p b o t a c h i k B l
   |ef=>exact .ef
   |ck Q Y b J I a c h i k=>exact .ck Q Y b J I a c h i k
   |eA=>exact .eA
   |dj=>exact .dj
   |agg f g a c=>exact .agg f g a (all (by simpa [y] using e) c)
   |av f g a c=>exact .av f g a (all (by simpa [y] using e) c)
   | fn K j G g Z a c h i=>
     simp only [y,br] at e;exact .fn K j G g Z a c (all e.1 h) (all e.2 i)
   |iface X C D L=>exact .iface X C D (O C D L (by simpa [y] using e))
   |ptr id gen q S b r s a c l=>exact .ptr id gen q S b r s (by rw [nt (er (by simpa [y,Nat.blt] using e))];exact a) c l
   |ref id gen q p R z b r s u a c h i k B l=>exact .ref id gen q p R z b r s u (by rw [nt (er (by simpa [y,Nat.blt] using e))];exact a) c h i k B l
   |map id b a=>exact .map id b (by rw [nt (er (by simpa [y,Nat.blt] using e))];exact a)
   |it id b a=>exact .it id b (by rw [nt (er (by simpa [y,Nat.blt] using e))];exact a)
def B5 {ae j:aF} {H H':af} {w w':World} {v:aa} {x:Value} (Z:Q ae H w) (i:Q j H' w') (d:Fr ae.own ae j w w') (Y:aC j v x):
    ∃r,Q r (gc H.n v H') w'/\Fr ae.own ae r w w'/\aC r v x/\(∀b o y,j.F b o=some y->r.F b o=some y):=by
 unfold gc;split
 . grind
 . rename_i V;have V:H.n<H'.n:=by simp_all
   dsimp only;split
   . rename_i G;simp only [br] at G;obtain ⟨N,al⟩:=G;have an:=i.len;have S: ∀id o,af.get ⟨H.n,H'.l.drop (H'.n-H.n)⟩ id=some o->id<H.n/\H'.get id=some o/\gL H.n o=true:=by
      intro id o c;unfold af.get at c;simp only at c;split at c
      . rename_i h;refine ⟨h,?_,ah⟩;unfold af.get
        grind
      grind
     refine ⟨{j with μ:=below j.μ H.n},⟨i.aI,i.gK,i.hR,ah,λid o c=> ?_,λid g y c=>(sE c).1,λid g b m C c=>i.e3 _ _ _ _ _ (sE c).2,
      λid g b m C ao t B D c L=>i.sep _ _ _ _ _ _ _ _ _ (sE c).2 (sE L).2⟩,?_,vE 20 v x Y N,ai⟩
     . obtain ⟨h,W,q⟩:=S _ _ c;have p:=i.obj _ _ W
       cases o with
       | cells g ak av aj=>
         obtain ⟨b,m,a⟩:=p;simp only [gL] at q;refine ⟨b,m,by show below _ _ _ _=_;rw [nt h];exact a.at_,a.room,a.sle,a.free,λe v M u=>let ⟨x,z⟩:=a.nK e v M u;⟨x,vE 20 v x z ah⟩,λt I B D O U=> ?_,a.wr,λt R=>by show below _ _ _ _=_;rw [nt h];exact a.last _ R,a.km,a.pO⟩;obtain ⟨u,z⟩:=a.cont t I B D O (sE U).2;refine ⟨u,λe f X T k=> ?_⟩;obtain ⟨y,ab,ad⟩:=z e f X T k;exact ⟨y,ab,vE 20 f y ad ah⟩
       | map aI aq aw=>
         obtain ⟨b,K,J,a⟩:=p;simp only [gL,br] at q;exact ⟨b,K,J,by show below _ _ _ _=_;rw [nt h];exact a.at_,a.dH,a.jt,a.kK,
          λe f s k A=>vE 20 f _ (a.keys e f s k A) ah,
          λe f s k A=>vE 20 f _ (a.nd e f s k A) ah,a.free⟩
       | iter ar num au=>
         obtain ⟨b,ag,a⟩:=p;exact ⟨b,ag,by show below _ _ _ _=_;rw [nt h];exact a.at_,a.dH,a.size,a.num,a.free⟩
       |gone=>trivial
       | uj=>
         intro g;show below _ _ _ _=_;rw [nt h];exact p g
     . refine ⟨d.size,d.bS,d.jO,d.s6,d.kH,d.tV,λb q=> ?_,λe g y c=> ?_,d.os,d.output,d.tape⟩
       . obtain ⟨e,g,m,C,c⟩:=q;exact d.iP b ⟨_,_,_,_,(sE c).2⟩
       . show below _ _ _ _=_;rw [nt (Z.hI _ _ _ c)];exact d.uC _ _ _ c
   grind
def lC (ae:aF) (v:aa) (c:List PanicEntry):Prop:= ∃b a,c= {v:=b,recovered:=false}::a/\(∀d∈a,d.goexit=false)/\aC ae v b
def AD (ae:aF) (w:World) (e:cY):Ending->World->Prop
 | .returned g,d=> ∃c b a,e= .ret c b/\Q a b d/\Fr ae.own ae a w d/\aC a c g
 | .panicked f,d=> ∃c b a,e= .aK c b/\Q a b d/\Fr ae.own ae a w d/\lC a c f
 | .outgrown,_=>False
def pD (P:Program) (f:Nat) (xs:Array Value) (w:World) (R:Ending->World->Prop):Prop:=
 (∃a d,(callFunc f xs).run P w= .ok (.enter a d) w/\Calls P a d w R)\/ ∃c b,(callFunc f xs).run P w= .ok (.value c) b/\R (.returned c) b
def pD.mono {P:Program} {f:Nat} {xs:Array Value} {w:World} {R c:Ending->World->Prop} (h:pD P f xs w R) (d: ∀e w',R e w'->c e w'):pD P f xs w c:=by
 rcases h with ⟨g,j,a,b⟩|⟨i,w',a,b⟩
 . exact .inl ⟨g,j,a,b.mono d⟩
 . exact .inr ⟨i,w',a,d _ _ b⟩
def e9 (E:Env) (P:Program) (f:Nat) (args:List aa) (H:af) (c:cY):Prop:=
 c ≠ .fail-> ∀ae w (a:Array Value),Q ae H w->jD E ae->args.length=a.size->(∀(b:Nat) (d:aa) (e:Value),args[b]? =some d->a[b]? =some e->aC ae d e)->
   pD P f a w (AD ae w c)
def sx (ae:aF) (w:World) (tm:List aa) (e:bf):Ending->World->Prop
 | .returned g,d=> ∃c b a,e= .ok c tm b/\Q a b d/\Fr ae.own ae a w d/\aC a c g
 | .panicked f,d=> ∃c b a,e= .aK c b/\Q a b d/\Fr ae.own ae a w d/\lC a c f
 | .outgrown,_=>False
section
variable {E:Env} {P:Program} {ae:aF} {w:World} {H:af} {cf:cb} {tm:List aa}
theorem FT {v:aa} {x:Value} (a:aC ae v x):aD v=true:=by cases v<;>first|rfl|(unfold aC at a;cases a)
theorem QB (K: ∀f args H,e9 E P f args H (cf f args H)) {f:Nat} {args:List aa} {xs:Array Value} (e:Q ae H w) (C:jD E ae) (D:args.length=xs.size)
  (B: ∀(i:Nat) (v:aa) (x:Value),args[i]? =some v->xs[i]? =some x->aC ae v x) (d:sX E cf f args H tm≠ .fail):
  pD P f xs w (sx ae w tm (sX E cf f args H tm)):=by
 unfold sX at d|-;have l:=K f args H
 cases F:cf f args H with
 |fail=>grind
 | ret v G=>
   rw [F] at d l;refine (l ai ae w xs e C D B).mono λp y b=> ?_
   cases p with
   |outgrown=>exact b.elim
   |panicked J=>obtain ⟨u,o,k,a,_⟩:=b;grind
   | returned x=>
     obtain ⟨u,o,k,a,n,c,m⟩:=b;simp only [cY.ret.injEq] at a;obtain ⟨rfl,rfl⟩:=a;simp only;split
     . obtain ⟨z,g,h,j,_⟩:=B5 e n c m;exact ⟨_,_,z,ai,g,h,j⟩
     . rename_i L;simp only [L] at d;split
       . rename_i R I q;obtain ⟨z,r,s,N,t⟩:=r3 _ _ _ _ _ q k y x n m;obtain ⟨A,g,h,j,_⟩:=B5 e r (c.trans s c.iP) (t.n4);exact ⟨_,_,A,ai,g,h,j⟩
       grind
 | aK v G=>
   rw [F] at d l;refine (l ai ae w xs e C D B).mono λp y b=> ?_
   cases p with
   |outgrown=>exact b.elim
   |returned x=>obtain ⟨u,o,k,a,_⟩:=b;grind
   | panicked J=>
     obtain ⟨u,o,k,a,n,c,x,O,rfl,M,m⟩:=b;simp only [cY.aK.injEq] at a;obtain ⟨rfl,rfl⟩:=a;simp only at d|-;split
     . rename_i R I q;obtain ⟨z,r,s,N,t⟩:=r3 _ _ _ _ _ q k y x n m;obtain ⟨A,g,h,j,_⟩:=B5 e r (c.trans s c.iP) (t.n4);exact ⟨_,_,A,ai,g,h,x,O,rfl,M,j⟩
     grind
theorem Q.bare (b:Q ae H w):Q ae.bare af.empty w:=
 ⟨b.aI,b.gK,b.hR,rfl,λid k a=>by simp [af.get,af.empty] at a,λid c l a=>by simp [aF.bare,eQ] at a,λid c f d e a=>by simp [aF.bare,eQ] at a,λid c f d e j i g h a=>by simp [aF.bare,eQ] at a⟩
theorem back (d:Q ae H w) {f:aF} {w':World} {n:af} (m:Q f n w') (c:Fr ae.bare.own ae.bare f w w'):
  Q {f with μ:=ae.μ} H w'/\Fr ae.own ae {f with μ:=ae.μ} w w':=by
 have r: ∀a,¬ae.bare.own a:=aF.X9 ae;have q: ∀a,a<w.heap.size->w'.heap[a]? =w.heap[a]? :=λa p=>c.bS a p (r a);refine ⟨⟨m.aI,m.gK,m.hR,d.len,λid e b=> ?_,d.hI,λid k a i j b=>yX (d.e3 _ _ _ _ _ b) c.size,d.sep⟩,?_⟩
 . refine (d.obj _ _ b).carry c.jO c.kH ai ai (λk a i j g=>q a (d.e3 _ _ _ _ _ g)) (λk a i j g e l=> ?_) (λk a i j g l=> ?_)
   . cases hF:f.F a e with
     |none=>rfl
     | some h=>
       rcases c.s6 _ _ _ hF with b|b|b
       . rw [show ae.F a e=some h from b] at l;omega
       . grind
       . have:=d.e3 _ _ _ _ _ g;omega
   . cases o:f.M a with
     |none=>rfl
     | some h=>
       rcases c.tV _ _ o with b|b|b
       . rw [show ae.M a=some h from b] at l;omega
       . grind
       . have:=d.e3 _ _ _ _ _ g;omega
 . exact ⟨c.size,ah,c.jO,λa e h b=>(c.s6 a e h b).imp (λb=>b) ah,c.kH,
    λa e b=>(c.tV a e b).imp (λb=>b) ah,λa b=> .inl b,ai,c.os,c.output,c.tape⟩
theorem G5 (U: ∀f args H,e9 E P f args H (cf f args H)) {f:Nat} {args:List aa} {xs:Array Value} (Y:Q ae H w) (J:jD E ae) (ar:args.length=xs.size)
  (aq: ∀(i:Nat) (v:aa) (x:Value),args[i]? =some v->xs[i]? =some x->aC ae v x) (e:nB cf f args H tm≠ .fail):
  pD P f xs w (sx ae w tm (nB cf f args H tm)):=by
 unfold nB at e|-
 cases L:cD (aZ bR) args H with
 |none=>grind
 | some ak=>
   obtain ⟨l,q⟩:=ak;rw [L] at e;simp only [bu] at e|-;have S: ∀(i:Nat) (v:aa),args[i]? =some v->aC ae v ((λi=>(xs[i]?).getD default) i):=by grind
   obtain ⟨a,F,u,ad,au,D⟩:=nY (r3 bR) args H l q L ae w _ Y S;have K:l.length=xs.size:=ab;have I: ∀(i:Nat) (v:aa) (x:Value),l[i]? =some v->xs[i]? =some x->aC a.bare v x:=by intro i v x X Z;have:=D i v X;simp only [Z,vX] at this;exact this
   have s:=U f l af.empty;have G: ∀ {h:aF} {b:World} {k r:af} {B C:aa} {x:Value},Q h k b->Fr a.bare.own a.bare h w b->aC h B x->aZ bR B k=some (C,r)->
     ∃c,Q c q b/\Fr ae.own ae c w b/\aC c C x:=by
    intro h b k r B C x n j W m;obtain ⟨c,ag,ah,av,aj⟩:=r3 _ _ _ _ _ m h b x n W;obtain ⟨o,p⟩:=back F ag (j.trans ah j.iP);exact ⟨_,o,u.trans p (λO T=> .inl ((zx ad O).1 T)),aj.n4⟩
   cases M:cf f l af.empty with
   |fail=>grind
   | ret v N=>
     rw [M] at e s;refine (s ai a.bare w xs F.bare (show jD E a.bare from λy=>(J.aR u) y) K I).mono λt b g=> ?_
     cases t with
     |outgrown=>exact g.elim
     |panicked R=>obtain ⟨D,q,a,d,_⟩:=g;grind
     | returned x=>
       obtain ⟨an,k,h,d,n,j,z⟩:=g;simp only [cY.ret.injEq] at d;obtain ⟨rfl,rfl⟩:=d;simp only at e|-;split
       . rename_i ao r m;obtain ⟨c,o,p,A⟩:=G n j z m;exact ⟨_,_,c,ai,o,p,A⟩
       grind
   | aK v N=>
     rw [M] at e s;refine (s ai a.bare w xs F.bare (show jD E a.bare from λy=>(J.aR u) y) K I).mono λt b g=> ?_
     cases t with
     |outgrown=>exact g.elim
     |returned x=>obtain ⟨D,q,a,d,_⟩:=g;grind
     | panicked R=>
       obtain ⟨an,k,h,d,n,j,x,al,rfl,V,z⟩:=g;simp only [cY.aK.injEq] at d;obtain ⟨rfl,rfl⟩:=d;simp only at e|-;split
       . rename_i ao r m;obtain ⟨c,o,p,A⟩:=G n j z m;exact ⟨_,_,c,ai,o,p,x,al,rfl,V,A⟩
       grind
theorem G2 (c: ∀f args H,e9 E P f args H (cf f args H)) {f:Nat} {args:List aa} {xs:Array Value} {β:Nat->Option Nat} (g:Q ae H w) (d:jD E ae) (e:args.length=xs.size)
  (h: ∀(i:Nat) (v:aa) (x:Value),args[i]? =some v->xs[i]? =some x->aA ae β tm v x) (a:az E cf f args H tm≠ .fail):
  pD P f xs w (sx ae w tm (az E cf f args H tm)):=by
 unfold az at a|-;split at a
 case h_2=>grind
 rename_i l;have b: ∀(i:Nat) (v:aa) (x:Value),args[i]? =some v->xs[i]? =some x->aC ae v x:=λi v x j k=>(h i v x j k).iv ah;split at a
 . exact G5 c g d e b a
 . exact QB c g d e b a
end
section
variable (E:Env) (loc:Nat->Bool) (bx:aF) (bw:World) (D:aF->Prop)
structure cS (ae:aF) (H:af) (w:World) (β:Nat->Option Nat) (tm:List aa) (c4:Array Value):Prop where
  wr:Q ae H w
  kq:jD E ae
  iU:iY loc ae w β tm c4
  aR:Fr bx.own bx ae bw w
  rO: ∀s b,β s=some b->bw.heap.size<=b
  oI:D ae
  va: ∀own ae cF w w',D ae->Fr own ae cF w w'->D cF
def pG (ae:aF) (w:World) (β:Nat->Option Nat) (tm:List aa) (dst:Option Nat):aa->Value->Prop
 | .W st e,c=> ∃b a,dst=some b/\loc b=true/\(∀d f,tm[b]? =some (.W d f)->d<st)/\c= .pointer (some ⟨a,0,none⟩)/\pF ae w a e/\a<w.heap.size/\ ¬ae.own a/\(∀g,ae.F a g=none)/\ae.M a=none/\
  (∀h,β h≠some a)/\bw.heap.size<=a
 |i,c=>aA ae β tm i c
def uL (dst:Option Nat) (c4:Array Value) (f:bf) (x:Value) (w':World):Prop:=
 ∃c a b e d,f= .ok c a b/\cS E loc bx bw D e b w' d a c4/\pG loc bw e w' d a dst c x
def AJ (tm:List aa) (c4:Array Value) (β:Nat->Option Nat) (e:bf) (d:List PanicEntry) (w':World):Prop:=
 ∃b a c,e= .aK b a/\cS E loc bx bw D c a w' β tm c4/\lC c b d
def lF (P:Program) (dst:Option Nat) (β:Nat->Option Nat) (tm:List aa) (c4:Array Value) (b:bf):Result Next->Prop
 | .ok (.value d) a=>uL E loc bx bw D dst c4 b d a
 | .ok .skip a=>uL E loc bx bw D dst c4 b undef a
 | .ok (.enter f h) a=>Calls P f h a fun
  | .returned d,c=>uL E loc bx bw D dst c4 b d c
  | .panicked e,c=>AJ E loc bx bw D tm c4 β b e c
  | .outgrown,_=>False
 | .halt (.panic g) a=>AJ E loc bx bw D tm c4 β b [{v:=g,recovered:=false}] a
 |_=>False
end
section
variable {E:Env} {P:Program} (aB:fJ E P) {loc:Nat->Bool} {bx ae:aF} {bw w:World} {D:aF->Prop} {β:Nat->Option Nat} {tm:List aa} {H:af} {c4:Array Value} {dst:Option Nat}
theorem pG.lr {v:aa} {x:Value} (a:aA ae β tm v x):pG loc bw ae w β tm dst v x:=by cases v<;>first|exact a|exact a.elim
theorem cS.step {c:aF} {H':af} {w':World} (a:cS E loc bx bw D ae H w β tm c4) (d:Q c H' w') (b:Fr ae.own ae c w w'):cS E loc bx bw D c H' w' β tm c4:=
 ⟨d,a.kq.aR b,a.iU.aR b,a.aR.trans b a.aR.iP,a.rO,a.va _ _ _ _ _ a.oI b,a.va⟩
theorem xT {s:Sem Value} {x:Value} {w':World} (a:s.run P w= .ok x w'):(do pure (.value (<-s)):Sem Next).run P w= .ok (.value x) w':=
 (bg a).trans (Sem.run_pure _ _ _)
theorem BK {s:Sem Unit} {w':World} (a:s.run P w= .ok () w'):(do s;pure .skip:Sem Next).run P w= .ok .skip w':=
 (bg a).trans (Sem.run_pure _ _ _)
theorem im (st:cS E loc bx bw D ae H w β tm c4) {r:Option aa} {m:Sem Next} {s:Sem Value} (d:m=(do pure (.value (<-s)))) (a: ∀v,r=some v-> ∃y,s.run P w= .ok y w/\aA ae β tm v y) (e:bb r tm H≠ .fail):
  lF E loc bx bw D P dst β tm c4 (bb r tm H) (m.run P w):=by
 cases r with
 |none=>exact absurd rfl e
 | some v=>
   obtain ⟨y,b,c⟩:=a v rfl;rw [d,xT b];exact ⟨v,tm,H,ae,β,by simp [bb],st,.lr c⟩
theorem wv (st:cS E loc bx bw D ae H w β tm c4) {m:Sem Next} {s:Sem Value} (i:m=(do pure (.value (<-s)))) {b:bf}
  (c: ∃v H' a w' y,b= .ok v tm H'/\s.run P w= .ok y w'/\Q a H' w'/\Fr ae.own ae a w w'/\aC a v y):
  lF E loc bx bw D P dst β tm c4 b (m.run P w):=by
 obtain ⟨v,H',a,w',y,d,e,f,g,h⟩:=c;rw [i,xT e];exact ⟨v,tm,H',a,β,d,st.step f g,.lr (aA.cA h)⟩
theorem wq (st:cS E loc bx bw D ae H w β tm c4) {m:Sem Next} {s:Sem Value} (g:m=(do pure (.value (<-s)))) {r:Option (aa×af)}
  (b: ∀v H',r=some (v,H')-> ∃a w' y,s.run P w= .ok y w'/\Q a H' w'/\Fr ae.own ae a w w'/\aC a v y) (h:ha r tm≠ .fail):
  lF E loc bx bw D P dst β tm c4 (ha r tm) (m.run P w):=by
 cases r with
 |none=>exact absurd rfl h
 | some i=>
   obtain ⟨v,H'⟩:=i;obtain ⟨a,w',y,c,d,e,f⟩:=b v H' rfl;exact wv st g ⟨v,H',a,w',y,rfl,c,d,e,f⟩
theorem LP {t:Nat} {i:TypeInfo} (d:P.info? t=some i) {b off:Nat} {y:Value} {w':World} (e:y.cells.size=i.size) (c:(storeCells ⟨b,off,none⟩ y.cells.toList).run P w= .ok () w'):
  (Instr.storeAt t (.pointer (some ⟨b,off,none⟩)) y).run P w= .ok () w':=by
 refine (bg (a:=(⟨b,off,none⟩:Addr)) (w':=w) rfl).trans ?_;refine (bg (gN d)).trans ?_;exact (gG (by simp [e])).trans c
include aB in
theorem X1 (st:cS E loc bx bw D ae H w β tm c4) {t:Nat} {p u:aa} {x y:Value} (bc:aA ae β tm p x) (hu:aA ae β tm u y) (j:hd E t p u tm H≠ .fail):
  ∃w' L H',(Instr.storeAt t x y).run P w= .ok () w'/\hd E t p u tm H= .ok (.av []) L H'/\cS E loc bx bw D ae H' w' β L c4:=by
 unfold hd at j|-;split at j
 case h_2=>exact absurd rfl j
 rename_i n bO;obtain ⟨i,a8,rfl⟩:=hX aB bO;unfold hf at j|-;split at j
 case isFalse=>exact absurd rfl j
 rename_i bp;obtain ⟨⟨nu,sH⟩,xy⟩:=xE hu bp.2;have fQ:y.cells.size=i.size:=by rw [<-nu];exact bp.1
 rw [if_pos bp];split at j
 . rename_i id gen off lim
   cases bh:hD id gen off lim i.size u.cells tm H with
   |fail=>exact absurd bh j
   |aK v H'=>unfold hD at bh;split at bh<;>(try split at bh)<;>(try split at bh)<;>simp at bh
   | ok v L H'=>
     simp only [aA] at bc;obtain ⟨rfl,rfl,b,o,rfl,g1,g2,g3⟩:=wO (P:=P) (loc:=loc) (β:=β) st.wr bc ⟨nu,sH⟩ xy bp.1 bh;exact ⟨_,_,_,LP a8 fQ g1,rfl,st.step g2 g3⟩
 . rename_i slot pn off
   cases bh:m9 slot pn off u.cells tm H with
   |fail=>exact absurd bh j
   |aK v H'=>unfold m9 at bh;split at bh<;>(try split at bh)<;>(try split at bh)<;>simp at bh
   | ok v L H'=>
     obtain ⟨rfl,rfl,b,rfl,g1,g2,g3,g4,g5⟩:=aav (P:=P) st.iU st.wr bc ⟨nu,sH⟩ xy bh;refine ⟨_,_,_,LP a8 fQ g1,rfl,g2,st.kq,g3,?_,st.rO,st.oI,st.va⟩;obtain ⟨n_,pc,zE,EB⟩:=zO b y.cells.toList off w;have f1:Fr (λjJ=>jJ=b\/ae.own jJ) ae ae w (w.setCells b off y.cells.toList):=
      ⟨by rw [n_];exact aT _,λjJ _ bO=>g5 jJ (λe=>bO (.inl e)),λ_ _ _ h=>h,λ_ _ _ h=> .inl h,λ_ _ h=>h,λ_ _ h=> .inl h,λ_ h=> .inl (.inr h),λ_ _ _ h=>h,pc,zE,EB⟩
     refine st.aR.trans f1 ?_;rintro jJ (rfl|h)
     . exact .inr (st.rO _ _ g4)
     . exact st.aR.iP _ h
 . exact absurd rfl j
theorem KG (st:cS E loc bx bw D ae H w β tm c4) {m:Sem Next} {s:Sem Value} (J:m=(do pure (.value (<-s)))) {z:Option aa} {lo:Bool} (G: ∀d,dst=some d->lo=true->loc d=true) {el:Nat}
  (A: ∀a,z=some a-> ∃y:Value,s.run P w= .ok (.pointer (some ⟨w.heap.size,0,none⟩)) (w.alloc (.cells y.cells el))/\aA ae β tm a y) (c:fF lo dst el z tm H≠ .fail):
  lF E loc bx bw D P dst β tm c4 (fF lo dst el z tm H) (m.run P w):=by
 unfold fF at c|-;split at c
 case h_2=>exact absurd rfl c
 rename_i a d;obtain ⟨y,M,N⟩:=A a rfl;split at c
 case h_2=>exact absurd rfl c
 rename_i K;obtain ⟨j,V⟩:=xE N K;rw [J,xT M];split at c
 ·
  have F:=G d rfl rfl;have I:pF ae (w.alloc (.cells y.cells el)) w.heap.size a.cells:=
   ⟨y.cells,el,0,0,by rw [iC,if_pos rfl],j.1.symm,j.2,λr _=>by omega⟩
  have e:=st.step (st.wr.alloc (.cells y.cells el)) (Fr.alloc (.cells y.cells el));have B: ∀i,β i≠some w.heap.size:=λi b=>by have:=(st.iU.q6 _ _ b).1;omega
  have L: ¬ae.own w.heap.size:=by rintro ⟨X,U,R,S,b⟩;have:=st.wr.e3 _ _ _ _ _ b;omega
  have n: ∀h,(∀e g,tm[d]? =some (.W e g)->e<h)->
    lF E loc bx bw D P (some d) β tm c4 (bb (some (.W h a.cells)) tm H) (.ok (.value (.pointer (some ⟨w.heap.size,0,none⟩))) (w.alloc (.cells y.cells el))):=by
   intro h C;refine ⟨.W h a.cells,tm,H,ae,β,by simp [bb],e,d,w.heap.size,rfl,F,C,rfl,I,ai,L,λr=>aF.Eb st.wr r,aF.Ea st.wr,B,st.aR.size⟩
  unfold newLocal;have o:=k9 tm d;split
  . rename_i i T f;refine n (i+1) (λe g b=> ?_);rw [o,b] at f;simp only [vX,aa.W.injEq] at f;omega
  . rename_i f;refine n 0 (λe g b=> ?_);rw [o,b] at f;exact absurd rfl (f e g)
 . cases k:o4 (q el) a.cells tm H with
   |fail=>exact absurd k c
   |aK t l=>simp [o4] at k
   | ok t O l=>
     obtain ⟨rfl,Q,u,v,x⟩:=WJ (el:=el) st.wr j (λY p=>by rw [MF] at p;exact Nat.succ.inj p) k;exact ⟨t,O,l,Q,β,rfl,st.step u v,.lr (aA.cA x)⟩
end
section
variable {E:Env} {P:Program} (aB:fJ E P) {loc:Nat->Bool} {bx ae:aF} {bw w:World} {D:aF->Prop} {β:Nat->Option Nat} {tm:List aa} {H:af} {c4:Array Value} {dst:Option Nat} {cf:cb}
theorem zw {a:Act} (b: ∀x,aA ae β tm (B E tm x) (a.eval x)) (xs:Array Operand):
  (xs.toList.map (B E tm)).length=(xs.map a.eval).size/\ ∀(i:Nat) (v:aa) (x:Value),(xs.toList.map (B E tm))[i]? =some v->(xs.map a.eval)[i]? =some x->aA ae β tm v x:=by
 grind
theorem TD (st:cS E loc bx bw D ae H w β tm c4) {f:Nat} {xs:Array Value} {e:bf} (n:pD P f xs w (sx ae w tm e)):lF E loc bx bw D P dst β tm c4 e ((callFunc f xs).run P w):=by
 have o: ∀d c,sx ae w tm e (.returned d) c->uL E loc bx bw D dst c4 e d c:=by rintro d c ⟨j,g,k,a,b,h,i⟩;exact ⟨j,tm,g,k,β,a,st.step b h,.lr (aA.cA i)⟩
 rcases n with ⟨q,r,a,b⟩|⟨d,c,a,b⟩
 . rw [a];refine b.mono λm c l=> ?_
   cases m with
   |outgrown=>exact l.elim
   |returned d=>grind
   | panicked p=>
     obtain ⟨j,g,k,a,b,h,i⟩:=l;exact ⟨j,g,k,a,st.step b h,i⟩
 . rw [a];exact o _ _ b
theorem Eo (st:cS E loc bx bw D ae H w β tm c4) {m:Sem Next} {x:Value} (a:m.run P w= .ok (.value x) w) {v:aa} (b:aA ae β tm v x):
  lF E loc bx bw D P dst β tm c4 (.ok v tm H) (m.run P w):=by
 rw [a];exact ⟨v,tm,H,ae,β,rfl,st,.lr b⟩
theorem Wp (k:IntKind): ∀(l:List aa) (a:Int) (b:List Value) (v:aa),l.length=b.length->(∀(i:Nat) (v:aa) (x:Value),l[i]? =some v->b[i]? =some x->aA ae β tm v x)->
  mR k a l=some v-> ∃z:Value,(b.foldlM Builtin.max2 (.int k a)).run P w= .ok z w/\aC ae v z:=by
 intro l
 induction l with
 | nil=>
   intro a b v d _ c
   match b,d with
   | [],_=>
     simp only [mR,N] at c;subst c;exact ⟨_,ai,.int _ _⟩
 | cons s l p=>
   intro a b v d o c
   match b,d with
   | t ::b,d=>
     have m:=o 0 s t rfl rfl;have n:=λi v x (u:l[i]? =some v) (y:b[i]? =some x)=>o (i+1) v x ah ah;unfold mR at c;split at c
     . grind
     . rename_i h _ _ A j B r;cases r;split at c
       case isFalse=>cases c
       rename_i q;subst q;simp only [aA] at m;cases m;rw [List.foldlM_cons];split at c
       . rename_i e;obtain ⟨z,f,g⟩:=p j b v (by simpa using d) n c;refine ⟨z,?_,g⟩;refine (bg (a:= .int k j) (w':=w) ?_).trans f;simp only [Builtin.max2,if_pos e];simp
       . rename_i e;obtain ⟨z,f,g⟩:=p h b v (by simpa using d) n c;refine ⟨z,?_,g⟩;refine (bg (a:= .int k h) (w':=w) ?_).trans f;simp only [Builtin.max2,if_neg e];simp
     grind
theorem Wy (k:IntKind): ∀(l:List aa) (a:Int) (b:List Value) (v:aa),l.length=b.length->(∀(i:Nat) (v:aa) (x:Value),l[i]? =some v->b[i]? =some x->aA ae β tm v x)->
  tU k a l=some v-> ∃z:Value,(b.foldlM Builtin.min2 (.int k a)).run P w= .ok z w/\aC ae v z:=by
 intro l
 induction l with
 | nil=>
   intro a b v d _ c
   match b,d with
   | [],_=>
     simp only [tU,N] at c;subst c;exact ⟨_,ai,.int _ _⟩
 | cons s l p=>
   intro a b v d o c
   match b,d with
   | t ::b,d=>
     have m:=o 0 s t rfl rfl;have n:=λi v x (u:l[i]? =some v) (y:b[i]? =some x)=>o (i+1) v x ah ah;unfold tU at c;split at c
     . grind
     . rename_i h _ _ A j B r;cases r;split at c
       case isFalse=>cases c
       rename_i q;subst q;simp only [aA] at m;cases m;rw [List.foldlM_cons];split at c
       . rename_i e;obtain ⟨z,f,g⟩:=p j b v (by simpa using d) n c;refine ⟨z,?_,g⟩;refine (bg (a:= .int k j) (w':=w) ?_).trans f;simp only [Builtin.min2,if_pos e];simp
       . rename_i e;obtain ⟨z,f,g⟩:=p h b v (by simpa using d) n c;refine ⟨z,?_,g⟩;refine (bg (a:= .int k h) (w':=w) ?_).trans f;simp only [Builtin.min2,if_neg e];simp
     grind
include aB in
theorem Pj (st:cS E loc bx bw D ae H w β tm c4) {b:Builtin} {ats:Array Nat} {ty:Nat} {cs:Array Bool} {args:List aa} {xs:Array Value} (cQ:args.length=xs.size)
  (eO: ∀(i:Nat) (v:aa) (x:Value),args[i]? =some v->xs[i]? =some x->aA ae β tm v x) (j:hy E b ats.toList args tm H≠ .fail):
  lF E loc bx bw D P dst β tm c4 (hy E b ats.toList args tm H) ((builtin b ats ty cs xs).run P w):=by
 have one: ∀ {v:aa},args= [v]-> ∃x,xs= #[x]/\aA ae β tm v x:=by
  rintro v rfl;have aS:xs.size=1:=ah;obtain ⟨l⟩:=xs
  match l,aS with
  | [x],_=>exact ⟨x,rfl,eO 0 v x rfl rfl⟩
 have two: ∀ {v u:aa},args= [v,u]-> ∃x y,xs= #[x,y]/\aA ae β tm v x/\aA ae β tm u y:=by
  rintro v u rfl;have aS:xs.size=2:=ah;obtain ⟨l⟩:=xs
  match l,aS with
  | [x,y],_=>exact ⟨x,y,rfl,eO 0 v x rfl rfl,eO 1 u y rfl rfl⟩
 have cons: ∀ {v:aa} {l:List aa},args=v::l-> ∃x bI,xs=(x::bI).toArray/\aA ae β tm v x/\l.length=bI.length/\(∀(i:Nat) (v:aa) (x:Value),l[i]? =some v->bI[i]? =some x->aA ae β tm v x):=by
  rintro v l rfl;obtain ⟨m⟩:=xs
  match m,cQ with
  |x::bI,cQ=>exact ⟨x,bI,rfl,eO 0 v x rfl rfl,ah,λi v x aP bj=>eO (i+1) v x ah ah⟩
 have zg: ∀ {l:List Nat},ats.toList=l->ats=l.toArray:=by simp
 unfold hy at j|-;split at j
 ·
  split at j
  case h_2=>grind
  rename_i v;obtain ⟨x,rfl,bj⟩:=one rfl;unfold qz at j|-;split at j
  case h_2=>grind
  rename_i t u;simp only [aA] at bj;have mI:=bj
  cases bj with
  | iface _ _ y hu=>
    have e:(builtin .panic ats ty cs #[.iface t y]).run P w= .halt (.panic (.iface t y)) w:=rfl;rw [e];exact ⟨_,H,ae,rfl,st,_,[],rfl,ai,mI⟩
 . rename_i dg;unfold kj at j|-;split at j
   . rename_i t x qa;obtain ⟨y,rfl,dh⟩:=one rfl;rw [zg qa];refine im st rfl (λv aP=> ?_) j;obtain ⟨z,gP,z2⟩:=V3 aB (ty:=ty) st.wr dh aP;exact ⟨z,gP,aA.cA z2⟩
   . rename_i t x qa;obtain ⟨y,rfl,dh⟩:=one rfl;rw [zg qa];refine im st rfl (λv aP=> ?_) j;obtain ⟨z,gP,z2⟩:=PH aB (ty:=ty) dh aP;exact ⟨z,gP,aA.cA z2⟩
   . rename_i t1 t2 s x qa;obtain ⟨y,z,rfl,dh,cq⟩:=two rfl;rw [zg qa];exact wq st rfl (λv H' aP=>Ol aB st.wr dh cq aP) j
   . rename_i t1 iU s x qa;obtain ⟨y,z,rfl,dh,cq⟩:=two rfl;refine wq st rfl (λv H' aP=> ?_) j;obtain ⟨w',r,g1,g2,g3,g4⟩:=u7 aB (ats:=ats) (t1:=t1) (ty:=ty) (by rw [zg qa];rfl) st.wr dh cq aP
     grind
   . rename_i t x qa;obtain ⟨y,rfl,dh⟩:=one rfl;refine wq st rfl (λv H' aP=> ?_) j;obtain ⟨w',r,g1,g2,g3,g4⟩:=Qf aB (ats:=ats) (t:=t) (ty:=ty) de st.wr dh aP
     grind
   . rename_i k a l;obtain ⟨y,bI,rfl,dh,Ck,qb⟩:=cons rfl;simp only [aA] at dh;cases dh;refine im st rfl (λv aP=> ?_) j;obtain ⟨z,gP,z2⟩:=Wy (P:=P) (ae:=ae) (w:=w) (tm:=tm) (β:=β) k l a bI v Ck qb aP;exact ⟨z,gP,aA.cA z2⟩
   . rename_i k a l;obtain ⟨y,bI,rfl,dh,Ck,qb⟩:=cons rfl;simp only [aA] at dh;cases dh;refine im st rfl (λv aP=> ?_) j;obtain ⟨z,gP,z2⟩:=Wp (P:=P) (ae:=ae) (w:=w) (tm:=tm) (β:=β) k l a bI v Ck qb aP;exact ⟨z,gP,aA.cA z2⟩
   grind
include aB in
theorem Hq (gh: ∀f args H,e9 E P f args H (cf f args H)) {a:Act} {fid:Nat} (gi:loc=E.loc fid) {o:Oper} (Cg:dst=o.dst) (st:cS E loc bx bw D ae H w β tm a.tmps)
  (j:evalOp E cf fid o tm H≠ .fail):lF E loc bx bw D P dst β tm a.tmps (evalOp E cf fid o tm H) ((execOp a.eval o).run P w):=by
 have b6: ∀x,aA ae β tm (B E tm x) (a.eval x):=zv st.iU st.kq;have aeK: ∀d,dst=some d->nW E fid o.dst=true->loc d=true:=by rintro d rfl h;rw [<-Cg] at h;rw [gi];exact h
 have tn: ∀x:Option Operand,fH ae β tm (x.map (B E tm)) (x.map a.eval):=by
  intro x
  cases x with
  |none=>trivial
  |some x=>exact b6 x
 have qt: ∀x:Operand,bb (some (B E tm x)) tm H≠ .fail->lF E loc bx bw D P dst β tm a.tmps (bb (some (B E tm x)) tm H) ((pure (.value (a.eval x)):Sem Next).run P w):=by intro x _;rw [show bb (some (B E tm x)) tm H= .ok (B E tm x) tm H by simp [bb]];exact Eo st ai (b6 x)
 unfold evalOp at j|-;unfold execOp
 cases b9:o.op with
 |move x=>simp only [b9] at j|-;grind
 |assign x=>simp only [b9] at j|-;grind
 | pick c x y=>
   simp only [b9] at j|-;have bp:=b6 c;unfold lY at j|-;split at j
   . rename_i e;rw [e] at bp;simp only [aA] at bp;generalize a.eval c=Qv at bp|-;cases bp;exact qt x j
   . rename_i e;rw [e] at bp;simp only [aA] at bp;generalize a.eval c=Qv at bp|-;cases bp;exact qt y j
   grind
 | alloc el=>
   simp only [b9] at j|-;rw [<-Cg] at j|-;refine KG st rfl ah (el:=el) (λz cq=> ?_) j;obtain ⟨i,y,a8,dh,bh⟩:=qV aB cq;refine ⟨y,?_,aA.cA (bh _ _ _)⟩;refine (bg (m3 a8 dh)).trans ?_;refine (bg (a:=⟨w.heap.size,0,none⟩) (w':=w.alloc (.cells y.cells el)) ?_).trans ai;simp only [newVar,newRow,Sem.run_bind,run_newObj,Result.andThen_ok,Sem.run_pure,World.alloc_eq]
 | box el x=>
   simp only [b9] at j|-;rw [<-Cg] at j|-;refine KG st rfl ah (el:=el) (λz cq=> ?_) j;simp only [N] at cq;subst cq;refine ⟨a.eval x,?_,b6 x⟩;refine (bg (a:=⟨w.heap.size,0,none⟩) (w':=w.alloc (.cells (a.eval x).cells el)) ?_).trans ai;simp only [newVar,newRow,Sem.run_bind,run_newObj,Result.andThen_ok,Sem.run_pure,World.alloc_eq]
 | build t parts=>
   simp only [b9] at j|-;refine im st rfl (λv aP=> ?_) j;obtain ⟨rX,rY⟩:=KR b6 parts;obtain ⟨z,gP,z2⟩:=Pa aB (w:=w) rX rY (λz cq=>(Fw aB cq).1) aP;exact ⟨z,gP,aA.cA z2⟩
 | buildSlice t len parts=>
   simp only [b9] at j|-;refine wq st rfl (λv H' aP=> ?_) j;obtain ⟨rX,rY⟩:=KR b6 parts;exact Pc aB st.wr rX rY aP
 | load t x=>
   simp only [b9] at j|-;refine im st rfl (λv aP=> ?_) j;obtain ⟨z,gP,z2⟩:=JZ aB st.wr st.iU (b6 x) aP;exact ⟨z,gP,aA.cA z2⟩
 | store t x y=>
   simp only [b9] at j|-;obtain ⟨w',L,H',g1,g2,g3⟩:=X1 aB st (b6 x) (b6 y) j;rw [BK g1,g2];exact ⟨_,L,H',ae,β,rfl,g3,.lr (aA.cA (.av [] #[] rfl ai))⟩
 | nilCheck x=>
   simp only [b9] at j|-;have bj:=b6 x;unfold j1 at j|-;split at j
   . grind
   . grind
   . grind
   . grind
   . rename_i f aeb aec e;rw [e] at bj;simp only [aA] at bj;generalize a.eval x=Ft at bj|-;have mI:=bj;cases bj;exact ⟨_,tm,H,ae,β,by simp [bb],st,.lr (aA.cA mI)⟩
   . grind
   . rename_i ln nZ tW zj wi zi;rw [show bb (some (B E tm x)) tm H= .ok (B E tm x) tm H by simp [bb]];refine Eo st ?_ bj;generalize B E tm x=u at bj ln nZ tW wi zi zj;generalize a.eval x=Ft at bj|-
     cases u with
     |cR s eL off=>obtain ⟨⟨b,rfl,_⟩,_⟩:=bj;rfl
     |W=>exact bj.elim
     |bad=>grind
     |_=>simp only [aA] at bj;cases bj<;>first|rfl|grind|grind|grind|grind
 | binOp op t x y p=>
   simp only [b9] at j|-;refine im st rfl (λv aP=> ?_) j;obtain ⟨z,gP,z2⟩:=ON aB (w:=w) x y (b6 x) (b6 y) aP;exact ⟨z,gP,aA.cA z2⟩
 | unOp op t x=>
   simp only [b9] at j|-;refine im st rfl (λv aP=> ?_) j;obtain ⟨z,gP,z2⟩:=abG (P:=P) (w:=w) (b6 x) aP;exact ⟨z,gP,aA.cA z2⟩
 | convert s d x=>
   simp only [b9] at j|-;refine im st rfl (λv aP=> ?_) j;obtain ⟨z,gP,z2⟩:=Qs aB st.wr (b6 x) aP;exact ⟨z,gP,aA.cA z2⟩
 | makeInterface t x=>
   simp only [b9] at j|-;unfold n5 at j|-;split at j
   . grind
   . rename_i d Iq aH;have hu:=b3 aB aH;split at j
     . rename_i bO;simp only [dn,bO,if_true];refine Eo st (xT ?_) (aA.cA (.iface t _ _ ((b6 x).iv bO)));refine (bg (ca hu)).trans ?_;simp
     grind
   grind
 | makeMap t r=>
   simp only [b9] at j|-;unfold qx at j|-;split at j
   . cases bh:qw tm H with
     |fail=>grind
     |aK v H'=>simp [qw] at bh
     | ok v L H'=>
       obtain ⟨rfl,cF,w',y,g1,g2,g3,g4⟩:=XK (P:=P) (t:=t) st.wr bh;exact wv st rfl ah
   grind
 | makeSlice t l c=>
   simp only [b9] at j|-
   cases bh:mX E t (B E tm l) (B E tm c) tm H with
   |fail=>grind
   |aK v H'=>unfold mX at bh;split at bh<;>(try split at bh)<;>(try split at bh)<;>simp at bh
   | ok v L H'=>
     obtain ⟨rfl,cF,w',y,g1,g2,g3,g4⟩:=XL aB st.wr (b6 l) (b6 c) bh;exact wv st rfl ah
 | slice t x l h m=>
   simp only [b9] at j|-;unfold ij at j|-;split at j
   . grind
   . grind
   . rename_i r4 r5;refine im st rfl (λv aP=> ?_) j;have tp: ∃z,(Instr.slice t (a.eval x) (l.map a.eval) (h.map a.eval) (m.map a.eval)).run P w= .ok z w/\aC ae v z:=by
      unfold kL at aP;split at aP
      . rename_i Aj tp;simp only [N] at aP;subst aP;exact Z8 aB (w:=w) (b6 x) (tn l) (tn h) (tn m) tp
      . exact Z7 aB (w:=w) st.wr (b6 x) (tn l) (tn h) (tn m) aP
     obtain ⟨z,gP,z2⟩:=tp;refine ⟨z,?_,aA.cA z2⟩
     cases aH:aW E t with
     |none=>simp [kL,gO,hC,aH] at aP
     | some d=>
       refine (bg (ca (b3 aB aH))).trans ?_
       simp_all
 | fieldAddr s x f=>
   simp only [b9] at j|-;exact im st rfl (λv aP=>RD aB (b6 x) aP) j
 | field t x f=>
   simp only [b9] at j|-;exact im st rfl (λv aP=>RE aB (b6 x) aP) j
 | indexAddr t x i=>
   simp only [b9] at j|-;exact im st rfl (λv aP=>Tu aB (b6 x) (b6 i) aP) j
 | index t x i=>
   simp only [b9] at j|-;exact im st rfl (λv aP=>Tw aB (b6 x) (b6 i) aP) j
 | lookup t m k ok=>
   simp only [b9] at j|-;refine im st rfl (λv aP=> ?_) j;obtain ⟨z,gP,z2⟩:=Wj aB st.wr (b6 m) (b6 k) aP;exact ⟨z,gP,aA.cA z2⟩
 | mapUpdate t m k v=>
   simp only [b9] at j|-
   cases bh:ih E t (B E tm m) (B E tm k) (B E tm v) tm H with
   |fail=>grind
   |aK v H'=>unfold ih at bh;grind
   | ok u L H'=>
     obtain ⟨rfl,rfl,w',g1,g2,g3⟩:=KC aB st.wr (b6 m) (b6 k) (b6 v) bh;rw [BK g1];exact ⟨_,_,H',ae,β,rfl,st.step g2 g3,.lr (aA.cA (.av [] #[] rfl ai))⟩
 | insert t m k v=>
   simp only [b9] at j|-
   cases bh:ih E t (B E tm m) (B E tm k) (B E tm v) tm H with
   |fail=>grind
   |aK v H'=>unfold ih at bh;grind
   | ok u L H'=>
     obtain ⟨rfl,rfl,w',g1,g2,g3⟩:=KC aB st.wr (b6 m) (b6 k) (b6 v) bh;rw [BK g1];exact ⟨_,_,H',ae,β,rfl,st.step g2 g3,.lr (aA.cA (.av [] #[] rfl ai))⟩
 | range t x=>
   simp only [b9] at j|-
   cases aH:aW E t with
   |none=>rw [aH] at j;exact absurd rfl j
   | some d=>
     rw [aH] at j
     cases bh:mY (some d) (B E tm x) tm H with
     |fail=>grind
     |aK v H'=>unfold mY at bh;split at bh<;>simp at bh
     | ok v L H'=>
       obtain ⟨rfl,cF,w',y,g1,g2,g3,g4⟩:=XU (b3 aB aH) st.wr (b6 x) bh;exact wv st rfl ah
 | next x s=>
   simp only [b9] at j|-;unfold qy at j|-;split at j
   . cases bh:rV (B E tm x) tm H with
     |fail=>grind
     |aK v H'=>unfold rV wj at bh;split at bh<;>(try split at bh)<;>(try split at bh)<;>simp at bh
     | ok v L H'=>
       obtain ⟨e,w',y,g1,g2,g3,g4⟩:=XO (ty:=o.type) st.wr (b6 x) bh;exact wv st rfl ⟨v,H',ae,w',y,by rw [e],g1,g2,g3,g4⟩
   grind
 | typeAssert x ss t ok=>
   simp only [b9] at j|-;refine im st rfl (λv aP=> ?_) j;obtain ⟨z,gP,z2⟩:=Ow aB (w:=w) (b6 x) aP;exact ⟨z,gP,aA.cA z2⟩
 | extract x i=>
   simp only [b9] at j|-;have bj:=b6 x;unfold lX at j|-;split at j
   . rename_i vs e;rw [e] at bj;simp only [aA] at bj;generalize a.eval x=Ft at bj|-
     cases bj with
     | av _ xs aS bG=>
       refine im st rfl (λv aP=> ?_) j;have a8:i<xs.size:=ah;have IH:xs[i]? =some xs[i]:=ai;refine ⟨xs[i],?_,aA.cA (bG i v _ aP IH)⟩;simp only [Instr.extract,IH,Sem.run_pure]
   grind
 | panic x=>
   simp only [b9] at j|-;have bj:=b6 x;unfold qz at j|-;split at j
   . rename_i t u e;rw [e] at bj;simp only [aA] at bj;generalize a.eval x=Ft at bj|-;have mI:=bj
     cases bj with
     | iface _ _ y hu=>
       exact ⟨_,H,ae,rfl,st,_,[],rfl,ai,mI⟩
   grind
 | makeFunc f xs bI=>
   simp only [b9] at j|-;obtain ⟨ix,iy⟩:=zw b6 xs;obtain ⟨qT,qU⟩:=zw b6 bI;unfold lu at j|-;split at j
   case h_2=>grind
   rename_i f;unfold t_ at j|-;have bO:((xs.toList.map (B E tm)).all aD&&(bI.toList.map (B E tm)).all aD)=true:=by grind
   rw [if_pos bO] at j|-;simp only [br] at bO;have aP:aC ae (.fn (.func f) (xs.toList.map (B E tm)) (bI.toList.map (B E tm))) (.func (.func f) (xs.map a.eval) (bI.map a.eval)):=
    .fn _ _ _ _ _ ix qT (λi v x aS bG=>(iy i v x aS bG).iv ah) (λi v x aS bG=>(qU i v x aS bG).iv ah)
   have gY:(Instr.makeFunc (.func f) (xs.map a.eval) (bI.map a.eval)).run P w= .ok (.func (.func f) (xs.map a.eval) (bI.map a.eval)) w:=Sem.run_pure _ _ _;by_cases cq:E.aI f=true
   . rw [if_pos cq] at j|-;refine wq st rfl (λv H' bc=> ?_) j;obtain ⟨cF,rX,rY,agr,X_⟩:=r3 _ _ _ _ _ bc ae w _ st.wr aP;exact ⟨cF,w,_,gY,rX,rY,X_.n4⟩
   . rw [if_neg cq] at j|-;exact im st rfl (λv tp=>by simp only [N] at tp;subst tp;exact ⟨_,gY,aA.cA aP⟩) j
 | call c =>
   simp only [b9] at j|-;obtain ⟨ix,iy⟩:=zw b6 c.args;unfold o7 at j|-;unfold resolve
   cases bp:c.callee with
   |invoke r n=>grind
   | builtin b=>
     rw [bp] at j;simp only at j|-;have e: ∀cs:Array Bool,(do let d<-(pure {target:=Target.builtin b c.argTypes o.type cs,args:=c.args.map a.eval}:Sem Deferred);invoke d.target d.args:Sem Next).run P w=(builtin b c.argTypes o.type cs (c.args.map a.eval)).run P w:=by intro cs;refine (bg (Sem.run_pure _ _ _)).trans rfl
     rw [e];exact Pj aB st ix iy j
   | value f=>
     rw [bp] at j;simp only at j|-;have cy:=b6 f;unfold cx at j|-;split at j
     . rename_i g first cap e
       rw [e] at cy;simp only [aA] at cy;generalize a.eval f=fv at cy|-
       cases cy with
       | fn _ _ _ ee bI aS bG dS fO=>
         simp only [bu] at j|-;have app: ∀ {l m:List aa} {xs bI:Array Value},l.length=xs.size->m.length=bI.size->(∀(i:Nat) (v:aa) (x:Value),l[i]? =some v->xs[i]? =some x->aA ae β tm v x)->(∀(i:Nat) (v:aa) (x:Value),m[i]? =some v->bI[i]? =some x->aA ae β tm v x)->
           (l++m).length=(xs++bI).size/\ ∀(i:Nat) (v:aa) (x:Value),(l++m)[i]? =some v->(xs++bI)[i]? =some x->aA ae β tm v x:=by
          grind
         obtain ⟨rX,rY⟩:=app ix bG iy (λi v x aP bj=>aA.cA (fO i v x aP bj));obtain ⟨n_,pc⟩:=app aS rX (λi v x aP bj=>aA.cA (dS i v x aP bj)) rY;have he:(do let d<-Deferred.ofValue (.func (.func g) ee bI) (c.args.map a.eval);invoke d.target d.args:Sem Next).run P w=(callFunc g (ee++(c.args.map a.eval++bI))).run P w:=by refine (bg (a:=({target:= .fn (.func g) bI,args:=ee++c.args.map a.eval}:Deferred)) (w':=w) (Sem.run_pure _ _ _)).trans ?_;show (callFunc g ((ee++c.args.map a.eval)++bI)).run P w=_;simp
         rw [he];exact TD st (G2 gh st.wr st.kq n_ pc j)
     grind
 |_=>simp only [b9] at j|-;grind
end
section
variable {E:Env} {P:Program} (aB:fJ E P) {loc:Nat->Bool} {bx ae:aF} {bw w:World} {D:aF->Prop} {β:Nat->Option Nat} {tm:List aa} {H:af} {dst:Option Nat} {cf:cb}
theorem ZY (tm:List aa) (d:Nat) (v:aa) (a:tm.length<=d):r tm d v=tm:=by
 induction tm generalizing d with
 |nil=>rfl
 | cons e c b=>
   cases d with
   |zero=>simp at a
   |succ d=>simp only [r];rw [b d (by simpa using a)]
theorem ue {c:Array Value} (st:cS E loc bx bw D ae H w β tm c) {v:aa} {x:Value} (f:pG loc bw ae w β tm dst v x) {fid:Nat} (u:loc=E.loc fid) {L:List aa} (a:cH E fid dst v tm=some L):
  ∃z,cS E loc bx bw D ae H w z L (dst.elim c (c.setIfInBounds · x)):=by
 unfold cH at a
 cases dst with
 |none=>simp only [N] at a;subst a;exact ⟨β,st⟩
 | some e=>
   simp only [Option.elim_some] at a|-;split at a
   . rename_i g;simp only [bu,N] at a;subst a;rw [<-u] at g;by_cases h: ∃i d,v= .W i d
     . obtain ⟨i,d,rfl⟩:=h;obtain ⟨B,j,b,t,s,rfl,p,q,k,l,m,n,o⟩:=f;simp only [N] at b;subst b;by_cases r:e<tm.length
       . refine ⟨_,st.wr,st.kq,st.iU.YD t r s p q k l m n,st.aR,λC A b=> ?_,st.oI,st.va⟩;split at b
         . simp only [N] at b;subst b;exact o
         . exact st.rO _ _ b
       . rw [ZY _ _ _ ab];have:c.setIfInBounds e (.pointer (some ⟨j,0,none⟩))=c:=by have:=st.iU.len;exact Array.setIfInBounds_eq_of_size_le ab
         rw [this];exact ⟨β,st⟩
     . have y:aA ae β tm v x:=by cases v<;>first|exact f|exact absurd ⟨_,_,rfl⟩ h
       exact ⟨β,st.wr,st.kq,st.iU.put y g,st.aR,st.rO,st.oI,st.va⟩
   . simp at a
def j_ (ae:aF):List (Nat×List aa)->List Deferred->Prop
 | [],[]=>True
 |(g,c)::ds,b::k4=>(∃a,b.target= .fn (.func g) a/\c.length=(b.args++a).size/\ ∀(d:Nat) (e:aa) (f:Value),c[d]? =some e->(b.args++a)[d]? =some f->aC ae e f)/\j_ ae ds k4
 |_,_=>False
theorem j_.aR {c:aF} {n:Nat->Prop} {w w':World} (f:Fr n ae c w w'): ∀(ds:List (Nat×List aa)) (a:List Deferred),j_ ae ds a->j_ c ds a:=by
 intro ds
 induction ds with
 |nil=>intro a b;cases a<;>exact b
 | cons r ds m=>
   intro a b
   cases a with
   |nil=>exact b
   | cons q a=>
     obtain ⟨⟨d,e,g,h⟩,i⟩:=b;exact ⟨⟨d,e,g,λl o p j k=>(h l o p j k).aR f⟩,m _ i⟩
def gA (E:Env) (loc:Nat->Bool) (bx:aF) (bw:World) (ae:aF) (H:af) (w:World) (β:Nat->Option Nat) (tm:List aa) (ds:List (Nat×List aa)) (a:Act):Prop:=
 cS E loc bx bw (λae=>j_ ae ds a.defers) ae H w β tm a.tmps
def sy (E:Env) (loc:Nat->Bool) (bx:aF) (bw:World):bP->Exit->Act->World->Prop
 | .normal tm H b,c,a,w=>c= .normal/\ ∃ae β,gA E loc bx bw ae H w β tm b a
 | .exit id tm H b,c,a,w=>c= .exit id/\ ∃ae β,gA E loc bx bw ae H w β tm b a
 | .ret tm H b,c,a,w=>c= .ret/\ ∃ae β,gA E loc bx bw ae H w β tm b a
 | .aK e tm H b,c,a,w=> ∃d,c= .panic d/\ ∃ae β,gA E loc bx bw ae H w β tm b a/\lC ae e d
 | .fail,_,_,_=>True
theorem NC {ops:Array Oper} {c:Array Value} (j:iY loc ae w β tm c) {o:Oper} {r:Bool} (a:cJ ops tm o=some r):Region.wanted o (yielded ops c)=r:=by
 unfold cJ at a;unfold Region.wanted;split at a
 . rename_i g;rw [g];simpa using a
 . rename_i m l g;rw [g];simp only;unfold yielded;split at a
   . rename_i n i;rw [i];split at a
     . rename_i b h;simp only [nT,h];rw [k9] at a;by_cases d:b<tm.length
       . have e:b<c.size:=by rw [<-j.len];exact d
         have f:=j.val b tm[b] c[b] (by simp [d]) (by simp [e]);rw [show tm[b]? =some tm[b] by simp [d],vX] at a;rw [show c[b]? =some c[b] by simp [e]];generalize tm[b]=p at a f;generalize c[b]=q at f|-;unfold lb at a;split at a
         . cases f;simp only [N] at a;subst a;cases l<;>rename_i k<;>cases k<;>rfl
         . cases f;simp only [N] at a;subst a;rfl
         . simp at a
       . have e: ¬b<c.size:=by rw [<-j.len];exact d
         rw [show tm[b]? =none by simp [d],Option.getD_none] at a;rw [show c[b]? =none by simp [e]];simp only [lb,N] at a;subst a;rfl
     . rename_i h;simp only [nT,h,N] at a|-;subst a;rfl
   . rename_i i;rw [i];simp only [N] at a;subst a;rfl
end
section
variable {E:Env} {P:Program} (aB:fJ E P) {loc:Nat->Bool} {bx ae:aF} {bw w:World} {D:aF->Prop} {β:Nat->Option Nat} {tm:List aa} {H:af} {dst:Option Nat} {cf:cb}
theorem uf (a:Act) (d:Option Nat) (x:Value):(a.put d x).tmps=d.elim a.tmps (a.tmps.setIfInBounds · x):=by cases d<;>rfl
theorem put_defers (a:Act) (d:Option Nat) (x:Value):(a.put d x).defers=a.defers:=by cases d<;>rfl
theorem M3 {a:Act} {o:Oper} {f:bf} {next:Act->World->Prop} {Q:Exit->Act->World->Prop} {r:Result Next} (b:lF E loc bx bw D P o.dst β tm a.tmps f r)
  (e: ∀x w',uL E loc bx bw D o.dst a.tmps f x w'->next (a.put o.dst x) w') (g: ∀c w',AJ E loc bx bw D tm a.tmps β f c w'->Q (.panic c) a w'):o.upon P a next Q r:=by
 unfold lF at b;split at b
 . exact e _ _ b
 . exact e _ _ b
 . refine Calls.mono b λh w' d=> ?_
   cases h with
   |returned x=>exact e _ _ d
   |panicked c=>exact g _ _ d
   |outgrown=>exact d.elim
 . exact g _ _ b
 . exact b.elim
theorem xR {fid:Nat} {ops:Array Oper} {o:Oper} {rest:List Oper} {ds:List (Nat×List aa)} (b: ∀c,o.op≠ .defer c) (d:cJ ops tm o=some true):
  dv E cf fid ops (o::rest) tm H ds=(match evalOp E cf fid o tm H with
       | .ok v L H'=>match cH E fid o.dst v L with
         |some e=>dv E cf fid ops rest e H' ds
         |none=> .fail
       | .aK v H'=> .aK v tm H' ds
       | .fail=> .fail):=by
 simp only [dv,d];cases a:o.op<;>first|rfl|exact absurd a (b _)
include aB in
theorem BI (gh : ∀ f args H,e9 E P f args H (cf f args H)) {fid:Nat} (gi:loc=E.loc fid) {ops:Array Oper} {Q:Exit->Act->World->Prop}:
  ∀ (l:List Nat) (ae:aF) (w:World) (β:Nat->Option Nat) (tm:List aa) (H:af) (ds:List (Nat×List aa)) (a:Act),gA E loc bx bw ae H w β tm ds a->
    dv E cf fid ops (l.filterMap (ops[·]?)) tm H ds≠ .fail->(∀e a w,sy E loc bx bw (dv E cf fid ops (l.filterMap (ops[·]?)) tm H ds) e a w->Q e a w)->wpOps P ops Q l a w:=by
 intro l
 induction l with
 | nil=>
   intro ae w β tm H ds a st _ k;exact k _ _ _ ⟨rfl,ae,β,st⟩
 | cons i l ff =>
   intro ae w β tm H ds a st j k;simp only [wpOps]
   cases b9:ops[i]? with
   | none=>
     simp only [tw,b9] at j k;exact ff ae w β tm H ds a st j k
   | some o =>
     simp only [tw,b9] at j k
     cases hw:cJ ops tm o with
     |none=>simp only [dv,hw] at j;exact absurd rfl j
     | some r =>
       have vA:=NC st.iU hw
       cases r with
       | false=>
         simp only [dv,hw] at j k;dsimp only at j k|-;rw [vA,if_neg ai]
         cases bc:cH E fid o.dst (.av []) tm with
         |none=>rw [bc] at j;exact absurd rfl j
         | some L=>
           rw [bc] at j k;obtain ⟨kT,eL⟩:=ue st (pG.lr (aA.cA (.av [] #[] rfl ai))) gi bc;refine ff ae w kT L H ds (a.put o.dst undef) ?_ j k;unfold gA;rw [uf,put_defers];exact eL
       | true =>
         dsimp only at j k|-;rw [vA,if_pos rfl];left
         have plain: ∀(res:bP),res=(match evalOp E cf fid o tm H with
           | .ok v L H'=>match cH E fid o.dst v L with
             |some sl=>dv E cf fid ops (l.filterMap (ops[·]?)) sl H' ds
             |none=> .fail
           | .aK v H'=> .aK v tm H' ds
           | .fail=> .fail)->res≠ .fail->(∀e a w,sy E loc bx bw res e a w->Q e a w)->o.wp P a w (wpOps P ops Q l) Q:=by
          intro res bh j k;subst bh;have lR:evalOp E cf fid o tm H≠ .fail:=by intro e;rw [e] at j;exact absurd rfl j
          have b6:=Hq aB gh gi (dst:=o.dst) rfl st lR;refine M3 b6 (λx w' Cf=> ?_) (λchain w' vx=> ?_)
          . obtain ⟨v,L,H',cF,kT,fc,eL,Cp⟩:=Cf;rw [fc] at j k;dsimp only at j k
            cases bc:cH E fid o.dst v L with
            |none=>rw [bc] at j;exact absurd rfl j
            | some sl=>
              rw [bc] at j k;obtain ⟨FC,Ma⟩:=ue eL Cp gi bc;refine ff cF w' FC sl H' ds (a.put o.dst x) ?_ j k;unfold gA;rw [uf,put_defers];exact Ma
          . obtain ⟨v,H',cF,fc,eL,oO⟩:=vx;rw [fc] at k;exact k _ _ _ ⟨chain,rfl,cF,β,eL,oO⟩
         by_cases yt: ∀c,o.op≠ .defer c
         . exact plain _ (xR yt hw) j k
         . obtain ⟨c,bp⟩:=Classical.not_forall.1 yt;have bp:=Classical.not_not.1 bp;simp only [dv,hw,bp] at j k;have b6: ∀x,aA ae β tm (B E tm x) (a.eval x):=zv st.iU st.kq;obtain ⟨ix,iy⟩:=zw b6 c.args
           cases yl:c.callee with
           |builtin b=>rw [yl] at j;exact absurd rfl j
           |invoke r n=>rw [yl] at j;exact absurd rfl j
           | value f=>
             rw [yl] at j k;dsimp only at j k;have cy:=b6 f;split at j
             case h_2=>exact absurd rfl j
             rename_i g cap SP;rw [SP] at cy k;simp only [aA] at cy
             cases Ch:a.eval f with
             | func fn ee bI=>
               rw [Ch] at cy
               cases cy with
               | fn _ _ _ _ _ aS bG dS fO=>
                 have SR:ee= #[]:=by apply Array.eq_empty_of_size_eq_zero;rw [<-aS];rfl
                 subst SR;split at j
                 case isFalse=>exact absurd rfl j
                 rename_i lf;dsimp only at k;rw [if_pos lf] at k
                 cases bc:cH E fid o.dst (.av []) tm with
                 |none=>rw [bc] at j;exact absurd rfl j
                 | some L=>
                   rw [bc] at j k;simp only [bu] at j k;have gY:(execOp a.eval o).run P w= .ok (.defer {target:= .fn (.func g) bI,args:= #[]++c.args.map a.eval}) w:=by unfold execOp;simp only [bp,resolve,yl,Ch,Deferred.ofValue];rfl
                   unfold Oper.wp;rw [gY,Oper.upon_defer];obtain ⟨kT,eL⟩:=ue st (pG.lr (aA.cA (.av [] #[] rfl ai))) gi bc;refine ff ae w kT L H _ _ ?_ j k;unfold gA;rw [uf,put_defers];refine ⟨eL.wr,eL.kq,eL.iU,eL.aR,eL.rO,⟨⟨bI,rfl,by simp [bG],λi v x aP bj=> ?_⟩,st.oI⟩,λown ae cF w w' aH cy=>j_.aR cy _ _ aH⟩;have Td:=ba.1 lf v (aV aP);rw [kC] at aP;rw [Array.empty_append,yE] at bj;rw [ix] at aP;split at aP
                   . rename_i iH;rw [if_pos iH] at bj;exact (iy _ _ _ aP bj).iv Td
                   . rename_i iH;rw [if_neg iH] at bj;exact fO _ _ _ aP bj
             |_=>rw [Ch] at cy;cases cy
end
def hs (q:Nat->Bool):Nat->Nat
 |0=>0
 |k+1=>if q k then k+1 else hs q k
def qp {q q':Nat->Bool}: ∀ {n:Nat},(∀j,j<n->q j=q' j)->hs q n=hs q' n
 |0,_=>rfl
 |n+1,a=>by simp only [hs];rw [a n (Nat.lt_succ_self n),qp λj b=>a j (Nat.lt_succ_of_lt b)]
def DN (q:Nat->Bool) (i:Nat): ∀ {n:Nat},i<=n->hs (λk=>decide (k<i)&&q k) n=hs q i
 | 0, b => by have:i=0:=ab
              subst this;rfl
 | n+1,b=>by
   by_cases a:i=n+1
   . subst a;exact qp λd c=>by simp [c]
   . simp only [hs];rw [if_neg da,DN q i ab]
def DO {q:Nat->Bool} {i:Nat}: ∀ {n:Nat},i<n->q i=true->(∀j,i<j->j<n->q j=false)->hs q n=i+1
 |0,d,_,_=>by omega
 | n+1,d,b,a=>by
   simp only [hs];by_cases c:i=n
   . subst c;rw [if_pos b]
   . rw [if_neg (by rw [a n ab ab];simp),DO ab b λj e g=>a j e ab]
def JP (q:Nat->Bool): ∀n,hs q n=0/\(∀j,j<n->q j=false)\/ ∃j,j<n/\q j=true/\hs q n=j+1/\ ∀k,j<k->k<n->q k=false
 |0=> .inl ⟨rfl,λj i=>by omega⟩
 | n + 1=>by
   simp only [hs]
   cases d:q n with
   |true=>exact .inr ⟨n,ab,d,ai,λk c a=>by omega⟩
   | false=>
     rw [if_neg ai];rcases JP q n with ⟨c,a⟩|⟨j,c,a,e,g⟩
     . refine .inl ⟨c,λj l=> ?_⟩;by_cases b:j=n
       . subst b;exact d
       . exact a j ab
     . refine .inr ⟨j,ab,a,e,λk h m=> ?_⟩;by_cases b:k=n
       . subst b;exact d
       . exact g k h ab
inductive ou where
  |free
  |heap
  |read (ks:List Nat)
  deriving Inhabited
def ou.hM:ou->Bool
 | .heap=>true
 |_=>false
structure jF (n len:Nat) (f:Nat->bK->Option bK) (σ:Nat->bK) (R W:Nat->List Nat) (dq:Nat->ou) (e2:Nat->Nat->Bool):Prop where
  V2:(σ 0).1.length=len
  low: ∀i j,e2 i j=true->i<j
  loc: ∀i,i<n-> ∀tm H,tm.length=len->(∀s,s∈R i->tm[s]? =(σ i).1[s]?)->
    (match dq i with| .free=>True| .heap=>H=(σ i).2| .read ks=> ∃k,k∈ks/\H=(σ k).2)->
    ∃L,f i (tm,H)=some (L,if (dq i).hM then (σ (i+1)).2 else H)/\L.length=len/\(∀s,s∈W i->L[s]? =(σ (i+1)).1[s]?)/\ ∀s,s∉W i->L[s]? =tm[s]?
  MD: ∀i,i<n->(∀s,s∉W i->(σ (i+1)).1[s]? =(σ i).1[s]?)/\((dq i).hM=false->(σ (i+1)).2=(σ i).2)
  ww: ∀i j s,i<j->j<n->s∈W i->s∈W j->e2 i j=true
  wr: ∀i j s,i<j->j<n->s∈W i->s∈R j->e2 i j=true
  Zz: ∀i j s,i<j->j<n->s∈R i->s∈W j->e2 i j=true
  nN: ∀i j,i<j->j<n->(dq i).hM=true->(dq j).hM=true->e2 i j=true
  rd: ∀i ks,i<n->dq i= .read ks->
    (0∈ks\/ ∃j,(dq j).hM=true/\e2 j i=true)/\ ∀j,j<n->(dq j).hM=true->j+1∈ks\/e2 i j=true\/ ∃tt,j<tt/\tt<n/\(dq tt).hM=true/\e2 tt i=true
section
variable {n len:Nat} {f:Nat->bK->Option bK} {σ:Nat->bK} {R W:Nat->List Nat} {dq:Nat->ou} {e2:Nat->Nat->Bool}
def l1 (W:Nat->List Nat) (s:Nat) (k:Nat):Bool:=decide (s∈W k)
def l0 (dq:Nat->ou) (k:Nat):Bool:=(dq k).hM
structure sB (n len:Nat) (σ:Nat->bK) (W:Nat->List Nat) (dq:Nat->ou) (p:Nat->Bool) (s:bK):Prop where
  len:s.1.length=len
  slot: ∀t,s.1[t]? =(σ (hs (λk=>p k&&l1 W t k) n)).1[t]?
  heap:s.2=(σ (hs (λk=>p k&&l0 dq k) n)).2
theorem jF.E6 (a:jF n len f σ R W dq e2) (s:Nat): ∀i,i<=n->(σ (hs (l1 W s) i)).1[s]? =(σ i).1[s]?
 |0,_=>rfl
 | i +1,c=>by
   simp only [hs]
   cases b:l1 W s i with
   |true=>simp
   | false=>
     rw [if_neg ai,a.E6 s i ab,(a.MD i ab).1 s (by simpa [l1] using b)]
theorem jF.E5 (a:jF n len f σ R W dq e2): ∀i,i<=n->(σ (hs (l0 dq) i)).2=(σ i).2
 |0,_=>rfl
 | i +1,c=>by
   simp only [hs]
   cases b:l0 dq i with
   |true=>simp
   | false=>
     rw [if_neg ai,a.E5 i ab,(a.MD i ab).2 b]
theorem jF.step (c:jF n len f σ R W dq e2) {p:Nat->Bool} {s:bK} (r:sB n len σ W dq p s) {i:Nat} (h:i<n) (v:p i=false)
  (w: ∀j,e2 j i=true->p j=true) (O: ∀j k,p k=true->e2 j k=true->p j=true):
  ∃s',f i s=some s'/\sB n len σ W dq (λk=>p k||decide (k=i)) s':=by
 obtain ⟨J,y⟩:=s;have t: ∀j,e2 i j=true->p j=false:=λj P=>by
  cases S:p j with
  |false=>rfl
  |true=>rw [O i j S P] at v;cases v
 have N: ∀a,a∈R i->J[a]? =(σ i).1[a]? :=by
  intro a g;have b:=r.slot a;simp only at b;rw [b,<-c.E6 a i ab,<-DN (n:=n) (l1 W a) i ab];congr 2;refine congrArg σ (qp λk m=> ?_)
  cases e:l1 W a k with
  |false=>simp
  | true=>
    simp only [nR];have x:a∈W k:=by simpa [l1] using e
    rcases vV k i with q|B|C
    . rw [w k (c.wr k i a q h x g)];simp [q]
    . subst B;rw [v];simp
    . rw [t k (c.Zz i k a C m g x)];simp;omega
 have M:match dq i with| .free=>True| .heap=>y=(σ i).2| .read F=> ∃k,k∈F/\y=(σ k).2:=by
  have b:=r.heap;simp only at b
  cases m:dq i with
  |free=>trivial
  | heap=>
    simp only;rw [b,<-c.E5 i ab,<-DN (n:=n) (l0 dq) i ab];refine congrArg (λu=>(σ u).2) (qp λk Q=> ?_)
    cases e:l0 dq k with
    |false=>simp
    | true=>
      simp only [nR];have I:(dq i).hM=true:=by rw [m];rfl
      rcases vV k i with q|B|C
      . rw [w k (c.nN k i q h e I)];simp [q]
      . subst B;rw [v];simp
      . rw [t k (c.nN i k C Q I e)];simp;omega
  | read F=>
    simp only;obtain ⟨H,aa⟩:=c.rd i F h m;rcases JP (λk=>p k&&l0 dq k) n with ⟨z,A⟩|⟨j,l,d,T,U⟩
    . rcases H with H|⟨j,l,d⟩
      . exact ⟨0,H,by rw [b,z]⟩
      . have:=A j (Nat.lt_trans (c.low _ _ d) h);simp only [w j d,aiF] at this;rw [show l0 dq j=true from l] at this;cases this
    . simp only [br] at d;rcases aa j l d.2 with G|G|⟨E,V,X,Y,Z⟩
      . exact ⟨j+1,G,by rw [b,T]⟩
      . rw [t j G] at d;cases d.1
      . have:=U E V X;simp only [w E Z,aiF] at this;rw [show l0 dq E=true from Y] at this;cases this
 obtain ⟨ad,z,A,K,L⟩:=c.loc i h J y r.len N M;refine ⟨_,z,A,λa=> ?_,?_⟩
 . simp only;by_cases g:a∈W i
   . rw [K a g];congr 2;refine congrArg σ (Eq.symm (DO h ?_ λj l d=> ?_))
     . simp [l1,g]
     . cases e:l1 W a j with
       |false=>simp
       | true=>
         have x:a∈W j:=by simpa [l1] using e
         rw [t j (c.ww i j a l d g x)];simp;omega
   . rw [L a g];have b:=r.slot a;simp only at b;rw [b];congr 2;refine congrArg σ (qp λk m=> ?_);by_cases o:k=i
     . subst o;simp [l1,g]
     . simp [o]
 . simp only
   cases D:(dq i).hM with
   | true=>
     simp only [if_true];refine congrArg (λu=>(σ u).2) (Eq.symm (DO h ?_ λj l d=> ?_))
     . simp [l0,D]
     . cases e:l0 dq j with
       |false=>simp
       |true=>rw [t j (c.nN i j l d D e)];simp;omega
   | false=>
     simp only [eJ,if_false];have b:=r.heap;simp only at b;rw [b];refine congrArg (λu=>(σ u).2) (qp λk m=> ?_);by_cases o:k=i
     . subst o;simp [l0,D]
     . simp [o]
theorem jF.start (d:jF n len f σ R W dq e2):sB n len σ W dq (λ_=>false) (σ 0):=by
 have c: ∀(b:Nat->Bool) a,hs (λg=>false&&b g) a=0:=by
  intro b a
  induction a with
  |zero=>rfl
  |succ a e=>simp only [hs,yH,eJ,if_false];simpa using e
 exact ⟨d.V2,λh=>by rw [c],by rw [c]⟩
theorem jF.lens (e:jF n len f σ R W dq e2) {p:Nat->Bool} {s:bK} (h:sB n len σ W dq p s) (g: ∀k,k<n->p k=true):s=σ n:=by obtain ⟨j,i⟩:=s;have a:=h.heap;simp only at a;rw [qp (q':=l0 dq) (λk c=>by simp [g k c]),e.E5 n (aT _)] at a;refine Prod.ext ?_ a;refine CT λd=> ?_;have b:=h.slot d;simp only at b;rw [qp (q':=l1 W d) (λk c=>by simp [g k c]),e.E6 d n (aT _)] at b;exact b
end
end Go.aj
