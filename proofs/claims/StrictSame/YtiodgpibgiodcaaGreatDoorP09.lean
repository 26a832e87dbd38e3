/- A part of the proof. -/
import Derived.Laws.Externs
import Derived.Sort.Grow
import Derived.Test.YtiodgpibgiodcaaGreatDoorP00
import Derived.Test.YtiodgpibgiodcaaGreatDoorP02
import Derived.Test.YtiodgpibgiodcaaGreatDoorP03
import Derived.Test.YtiodgpibgiodcaaGreatDoorP06
import Derived.Test.YtiodgpibgiodcaaGreatDoorP07
import Derived.Test.YtiodgpibgiodcaaGreatDoorP08
set_option linter.all false
set_option maxHeartbeats 4000000
namespace Go.aj
noncomputable section
variable {R:Type} (E:Env) (g:bU) (fid d n:Nat) (aG:x (H d)) (st:x (Set d))
def y7 (o:Oper) (k:Option (Set d)->R) (e:R):R:=match o.dst with
 |none=>k none
 | some a=>match Nat.blt a n&& !E.loc fid a with
   |true=>jW d st a λb=>k (some b)
   |false=>e
def y4 (ops:Array Oper) (j:Nat) (k:H d->R) (e:R):R:=match ops[j]? with
 | some o=>match o.dst with
   | some a=>match Nat.blt a n with
     |true=>v7 d aG a k
     |false=>e
   |none=>e
 |none=>e
def y6 (ops:Array Oper):List Oper->Option (fo d)
 | []=>some .nil
 | o ::os=>match tr o with
   |true=>none
   | false=>match y6 ops os with
     |none=>none
     | some b=>match o.guard with
       |none=>tJ E fid d n aG st o λa=>some (.op a b)
       |some (e,h)=>y4 d n aG ops e (λc=>y7 E fid d n st o (λf=>tJ E fid d n aG st o λa=>some (.B7 c h f a b)) none) none
def vY (l:Option Operand) (k:Option (H d)->R):R:=match l with
 |some b=>eU E fid d aG b λa=>k (some a)
 |none=>k none
def Df (o:Oper) (a:bV) (k:(bq d->Bool)->R) (e:R):R:=match a with
 | .plain=>match o.op with
   | .slice z f p l q=>match v E n f&&((p.toList++(l.toList++q.toList)).all (v E n)) with
     |true=>eU E fid d aG f λb=>vY E fid d aG p λx=>vY E fid d aG l λw=>vY E fid d aG q λy=>
      k λc=>(gO E z (b c) (x.map λb=>b c) (w.map λb=>b c) (y.map λb=>b c)).isSome
     |false=>e
   |_=>k λ_=>true
 | .aI =>match o.op with
   | .call h=>match h.callee with
     | .value i=>match v E n i&&h.args.toList.all (v E n) with
       |true=>eU E fid d aG i λb=>nU E fid d aG h.args.toList λj=>k λc=>s8 E (b c) (j.map λb=>b c)
       |false=>e
     |_=>e
   | .buildSlice _ _ r=>match (r.toList.map (·.2)).all (v E n) with
     |true=>nU E fid d aG (r.toList.map (·.2)) λj=>k λc=>(j.map λb=>b c).all (D bR)
     |false=>e
   | .makeFunc i a h=>match a.toList.all (v E n)&&h.toList.all (v E n) with
     |true=>nU E fid d aG a.toList λt=>nU E fid d aG h.toList λu=>k λc=>D bR (.fn i (t.map λb=>b c) (u.map λb=>b c))
     |false=>e
   |_=>e
 | .loc s=>match o.op with
   | .load _ f=>match v E n f with
     |true=>eU E fid d aG f λb=>k λc=>lS s (b c)
     |false=>e
   | .store _ f _=>match v E n f with
     |true=>eU E fid d aG f λb=>k λc=>lS s (b c)
     |false=>e
   |_=>e
 | .heap=>match o.op with
   | .load _ f=>match v E n f with
     |true=>eU E fid d aG f λb=>k λc=>fh (b c)
     |false=>e
   | .store _ f _=>match v E n f with
     |true=>eU E fid d aG f λb=>k λc=>fh (b c)
     |false=>e
   |_=>k λ_=>true
 | .m _=>match o.op with
   | .load _ f=>match v E n f with
     |true=>eU E fid d aG f λb=>k λc=>fh (b c)
     |false=>e
   |_=>e
 | .read _=>e
def tK (ops:Array Oper):List Oper->List bV->Option (fo d)
 | [],_=>some .nil
 | o::os,e::as=>match tK ops os as with
   |none=>none
   |some c=>Df E fid d n aG o e (λb=>match o.guard with
    |none=>tJ E fid d n aG st o λa=>some (.GO b a c)
    |some (h,j)=>y4 d n aG ops h (λf=>y7 E fid d n st o (λi=>tJ E fid d n aG st o λa=>some (.B6 f j i b a c)) none) none) none
 |_::_,[]=>none
def I1 (id:Nat) (ops:Array Oper):Option (fo d):=match g fid id with
 | some a=>match a.rs with
   | []=>tK E fid d n aG st ops ops.toList a.dV
   |_::_=>none
 |none=>none
def kG:Code->fo d
 | .skip=> .nil
 | .region id c f=>match f with
   |false=>wx d (y6 E fid d n aG st c c.toList) (.region id c false)
   |true=>wx d (I1 E g fid d n aG st id c) (.region id c true)
 | .seq a e=> .seq (kG a) (kG e)
 | .cond b a e=>match v E n b with
   |true=>eU E fid d aG b λh=> .cond h (kG a) (kG e)
   |false=> .bE (.cond b a e)
 | .block id a=> .block id (kG a)
 | .loop a=> .loop (kG a)
 | .exit id=> .exit id
 | .label _=> .nil
 | .ret=> .ret
 |b=> .bE b
def Dn (r:ResultVar) (k:nh d->R) (e:R):R:=match r with
 | .tmp a=>match Nat.blt a n with
   |true=>v7 d aG a λb=>k (.tmp b)
   |false=>e
 | .cell c a=>match v E n (.tmp c) with
   | true=>match bZ E a,aW E a with
     |some h,some f=>eU E fid d aG (.tmp c) λb=>k (.cell b h (jS f))
     |_,_=>e
   |false=>e
def v8:List ResultVar->Option (List (nh d))
 | []=>some []
 | a::rs=>match v8 rs with
   |some c=>Dn E fid d n aG a (λb=>some (b::c)) none
   |none=>none
theorem I2 (o:Oper) (k:Option (Set d)->R) (e:R):y7 E fid d n st o k e=(match sM E fid d n (dN d aG st) o with|some s=>k s|none=>e):=by
 unfold y7 sM
 cases o.dst with
 |none=>rfl
 |some a=>simp only;cases Nat.blt a n&& !E.loc fid a<;>simp only [tL d aG st]
theorem IX (ops:Array Oper) (j:Nat) (k:H d->R) (e:R):y4 d n aG ops j k e=(match sL d n (dN d aG st) ops j with|some s=>k s|none=>e):=by
 unfold y4 sL
 cases ops[j]? with
 |none=>rfl
 | some o=>
   simp only
   cases o.dst with
   |none=>rfl
   |some a=>simp only;cases Nat.blt a n<;>simp only [Dg d aG st]
theorem IZ (ops:Array Oper): ∀a,y6 E fid d n aG st ops a=nw E fid d n (dN d aG st) ops a
 | []=>rfl
 | o ::a=>by
   simp only [y6,nw,IZ ops a]
   cases tr o with
   |true=>rfl
   | false=>
     simp only
     cases nw E fid d n (dN d aG st) ops a with
     |none=>rfl
     | some e=>
       simp only
       cases o.guard with
       |none=>simp only [y5]
       | some b=>
         obtain ⟨c,f⟩:=b;simp only [IX d n aG st,I2 E fid d n aG st,y5]
         grind
theorem T7 (l:Option Operand) (k:Option (H d)->R):vY E fid d aG l k=k (l.map (h E fid d (dN d aG st))):=by unfold vY;cases l<;>simp only [ia E fid d aG st,jV,Option.map_none]
theorem T5 (o:Oper) (a:bV) (k:(bq d->Bool)->R) (e:R):Df E fid d n aG o a k e=(match nv E fid d n (dN d aG st) o a with|some c=>k c|none=>e):=by
 unfold Df nv
 cases a with
 | plain=>
   simp only;cases o.op<;>try rfl
   rename_i f b j i l;simp only
   cases v E n b&&((j.toList++(i.toList++l.toList)).all (v E n)) with
   |false=>rfl
   |true=>simp only [ia E fid d aG st,T7 E fid d aG st,Option.map_map];rfl
 | aI=>
   simp only;cases o.op<;>try rfl
   . rename_i f s p;simp only
     cases (p.toList.map (·.2)).all (v E n) with
     |false=>rfl
     |true=>simp only [vZ E fid d aG st]
   . rename_i h a c;simp only
     cases a.toList.all (v E n)&&c.toList.all (v E n) with
     |false=>rfl
     |true=>simp only [vZ E fid d aG st]
   . rename_i c;simp only;cases c.callee<;>try rfl
     rename_i h;simp only
     cases v E n h&&c.args.toList.all (v E n) with
     |false=>rfl
     |true=>simp only [ia E fid d aG st,vZ E fid d aG st]
 | loc u=>
   simp only;cases o.op<;>try rfl
   . rename_i f b;simp only;cases v E n b<;>simp only [ia E fid d aG st]
   . rename_i f b q;simp only;cases v E n b<;>simp only [ia E fid d aG st]
 | heap=>
   simp only;cases o.op<;>try rfl
   . rename_i f b;simp only;cases v E n b<;>simp only [ia E fid d aG st]
   . rename_i f b q;simp only;cases v E n b<;>simp only [ia E fid d aG st]
 | m t=>
   simp only;cases o.op<;>try rfl
   rename_i f b;simp only;cases v E n b<;>simp only [ia E fid d aG st]
 |read r=>rfl
theorem IY (ops:Array Oper): ∀a as,tK E fid d n aG st ops a as=lM E fid d n (dN d aG st) ops a as
 | [],as=>by simp only [tK,lM]
 |o::a,[]=>by simp only [tK,lM]
 | o ::a,b::as=>by
   simp only [tK,lM,IY ops a as]
   cases lM E fid d n (dN d aG st) ops a as with
   |none=>rfl
   | some h=>
     simp only [T5 E fid d n aG st]
     cases nv E fid d n (dN d aG st) o b with
     |none=>rfl
     | some e=>
       simp only
       cases o.guard with
       |none=>simp only [y5]
       | some c=>
         obtain ⟨f,i⟩:=c;simp only [IX d n aG st,I2 E fid d n aG st,y5]
         grind
theorem T6: ∀c,kG E g fid d n aG st c=dK E g fid d n (dN d aG st) c:=by
 intro c
 induction c with
 | region id j i=>
   cases i with
   |false=>simp only [kG,dK,IZ]
   |true=>simp only [kG,dK,I1,xA,IY]<;>rfl
 |seq a h e f=>simp only [kG,dK,e,f]
 | cond c a h e f=>
   simp only [kG,dK,e,f];cases v E n c<;>simp only [ia E fid d aG st]
 |block id a b=>simp only [kG,dK,b]
 |loop a b=>simp only [kG,dK,b]
 |_=>rfl
theorem Uc (r:ResultVar) (k:nh d->R) (e:R):Dn E fid d n aG r k e=(match u3 E fid d n (dN d aG st) r with|some c=>k c|none=>e):=by
 unfold Dn u3
 cases r with
 |tmp a=>simp only;cases Nat.blt a n<;>simp only [Dg d aG st]
 | cell b a=>
   simp only
   cases v E n (.tmp b) with
   |false=>rfl
   |true=>simp only;cases bZ E a<;>cases aW E a<;>simp only [ia E fid d aG st]
theorem I0: ∀rs,v8 E fid d n aG rs=q9 E fid d n (dN d aG st) rs
 | []=>rfl
 | a::rs=>by
   simp only [v8,q9,I0 rs,Uc E fid d n aG st]
   grind
def De (fn:Func):fo d:=match fn.body with
 |some a=>kG E g fid d n aG st a
 |none=> .nil
def Dm (fn:Func):List (nh d):=match v8 E fid d n aG fn.results.toList with
 |some a=>a
 |none=> []
def oX (fn:Func):Bool:=match fn.body,v8 E fid d n aG fn.results.toList with
 |some _,some _=>Nat.beq n fn.ntmps&&Nat.ble n (8^d)
 |_,_=>false
theorem T4 (fn:Func) (a:oX E fid d n aG fn=true):n=fn.ntmps/\n<=8^d/\sJ E g fid d (dN d aG st) fn=some (De E g fid d n aG st fn,Dm E fid d n aG fn):=by
 unfold oX at a;split at a
 . rename_i h i f c;simp only [br] at a;have b:=gk a.1;refine ⟨b,de,?_⟩;subst b;have e:=c;rw [I0 E fid d fn.ntmps aG st] at e;simp only [sJ,De,Dm,f,c,e,T6]
 grind
def y8 (fn:Func):iW:= .oL ⟨d,n,De E g fid d n aG st fn,Dm E fid d n aG fn⟩ fn
theorem Dp {P:Program} (h:x.k0 (ye d) 0 (8^d) aG) (j:x.k0 (zM d) 0 (8^d) st) (fn:Func) (i:E.cL fid=none) (f:E.fns fid=some fn) (a:oX E fid d n aG fn=true):
  pU E P g fid (y8 E g fid d n aG st fn):=by
 obtain ⟨b,c,e⟩:=T4 E g fid d n aG st fn a;exact ⟨i,f,b,dN d aG st,aaS h j c,e⟩
end
def AX:Nat->Nat->List Nat
 |0,_=> []
 |n+1,a=>if a%2=1 then (AX n (a/2)).map (· +1)|>.cons 0 else (AX n (a/2)).map (· +1)
def AU (c:Nat):bV:=match c%8 with
 |0=> .plain
 |1=> .aI
 |2=> .heap
 |3=> .loc (c/8)
 |4=> .m (c/8)
 |5=> .read (AX 64 (c/8))
 |_=> .plain
def akF (k:Nat) (c:Nat->List bV) (m:Nat):List bV:=match Nat.beq k 31 with
 |true=>AU (m%1073741824)::c (m/1073741824)
 |false=> .m k::c m
def akE:Nat->(Nat->List bV)->Nat->List bV
 |0,b,a=> .plain::b a
 |1,b,a=> .heap::b a
 |2,b,a=> .loc (a%32)::b (a/32)
 |_,b,a=>akF (a%32) b (a/32)
def akD:Nat->Nat->List bV
 |0=>λ_=> []
 |k+1=>λa=>akE (a%4) (akD k) (a/4)
def akC (x:Nat):List bV:=akD (x/4%256) (x/1024)
def akA (r:Nat):List (Nat×Nat)->Nat
 | []=>3
 | (a,b)::l=>match Nat.beq r a with
   |true=>b
   |false=>akA r l
def IN (x:Nat) (l:List Nat):List Nat:=match hv x l with
 |true=>l
 |false=>x::l
def Ex:List Oper->List (List Nat)->List (List Nat)
 | [],a=>a.reverse
 | o::os,a=>Ex os ((o.after.toList.foldl (λb c=>match Region.binds .any c with
   |true=>((a.reverse[c.on]?).getD []).foldl (λb d=>IN d b) (IN c.on b)
   |false=>b) [])::a)
def rowsOf (f:Oper->bV->List Nat):List Oper->List bV->List (List Nat)
 |o::os,a::as=>f o a::rowsOf f os as
 |_,_=> []
def Ym (ops:Array Oper) (M:List (List Nat)):Bool:=match ops.back?,M.getLast? with
 | some o,some c=>(match o.op with
   | .call a=>(match a.callee with
     | .value (.func _)=>true
     |_=>false)
   |_=>false)&&((match o.guard with|none=>true|some _=>false)&&(List.range (ops.size-1)).all λb=>c.contains b)
 |_,_=>false
def Wz (ops:Array Oper) (a:List bV):e0:=
 ⟨a,Ex ops.toList [],rowsOf (kb ops) ops.toList a,rowsOf iZ ops.toList a,[],0,Ym ops (Ex ops.toList [])⟩
def X4 (fn:Func) (id:Nat):Array Oper:=match YX fn id with
 | .region _ a _=>a
 |_=> #[]
def Xy (b:Nat->Option Func) (t:Nat->List (Nat×Nat)):bU:=λa id=>match Nat.beq (akA id (t a)) 3 with
 |true=>none
 | false=>match b a with
   |some fn=>some (Wz (X4 fn id) (akC (akA id (t a))))
   |none=>none
abbrev lJ (A R:Type):=aa->A->(A->R)->R
section
variable {A R:Type} (s:lJ A R) (v:aa) (F:t A) (k:t A->R)
noncomputable def K0:R:=t.rec (λa b c d e f g h=>s v a λi=>k ⟨i,b,c,d,e,f,g,h⟩) F
noncomputable def r4:R:=t.rec (λa b c d e f g h=>s v b λi=>k ⟨a,i,c,d,e,f,g,h⟩) F
noncomputable def r5:R:=t.rec (λa b c d e f g h=>s v c λi=>k ⟨a,b,i,d,e,f,g,h⟩) F
noncomputable def K1:R:=t.rec (λa b c d e f g h=>s v d λi=>k ⟨a,b,c,i,e,f,g,h⟩) F
noncomputable def K2:R:=t.rec (λa b c d e f g h=>s v e λi=>k ⟨a,b,c,d,i,f,g,h⟩) F
noncomputable def K3:R:=t.rec (λa b c d e f g h=>s v f λi=>k ⟨a,b,c,d,e,i,g,h⟩) F
noncomputable def K4:R:=t.rec (λa b c d e f g h=>s v g λi=>k ⟨a,b,c,d,e,f,i,h⟩) F
noncomputable def K5:R:=t.rec (λa b c d e f g h=>s v h λi=>k ⟨a,b,c,d,e,f,g,i⟩) F
end
def aa1 {α:Type} (lo w:Nat) (f:Nat->Nat->x α):x α:=
 .node (lo+4*w) (.node (lo+2*w) (.node (lo+1*w) (f 0 (lo+0*w)) (f 1 (lo+1*w))) (.node (lo+3*w) (f 2 (lo+2*w)) (f 3 (lo+3*w))))
  (.node (lo+6*w) (.node (lo+5*w) (f 4 (lo+4*w)) (f 5 (lo+5*w))) (.node (lo+7*w) (f 6 (lo+6*w)) (f 7 (lo+7*w))))
def Mz {α:Type} {p:Nat->α->Prop} {lo w:Nat} {f:Nat->Nat->x α} (a: ∀c,c<8->x.k0 p (lo+c*w) (lo+(c+1)*w) (f c (lo+c*w))):x.k0 p lo (lo+8*w) (aa1 lo w f):=by
 have b:=a 0 ab;rw [show lo+0*w=lo by omega] at b;refine ⟨⟨⟨?_,a 1 ab⟩,a 2 ab,a 3 ab⟩,⟨a 4 ab,a 5 ab⟩,a 6 ab,a 7 ab⟩;rw [show lo+0*w=lo by omega];exact b
noncomputable def Ec {A:Type} (c:Nat):t A->A:=match c with
 |0=>t.a0
 |1=>t.kY
 |2=>t.a2
 |3=>t.a3
 |4=>t.a4
 |5=>t.a5
 |6=>t.xm
 |_=>t.xn
noncomputable def Ed {A R:Type} (c:Nat):lJ A R->lJ (t A) R:=match c with
 |0=>K0
 |1=>r4
 |2=>r5
 |3=>K1
 |4=>K2
 |5=>K3
 |6=>K4
 |_=>K5
noncomputable def aa2 {α A:Type} (lo w:Nat) (f:(t A->A)->Nat->x α):x α:=
 .node (lo+4*w) (.node (lo+2*w) (.node (lo+1*w) (f t.a0 (lo+0*w)) (f t.kY (lo+1*w))) (.node (lo+3*w) (f t.a2 (lo+2*w)) (f t.a3 (lo+3*w))))
  (.node (lo+6*w) (.node (lo+5*w) (f t.a4 (lo+4*w)) (f t.a5 (lo+5*w))) (.node (lo+7*w) (f t.xm (lo+6*w)) (f t.xn (lo+7*w))))
noncomputable def aa3 {α A R:Type} (lo w:Nat) (f:(lJ A R->lJ (t A) R)->Nat->x α):x α:=
 .node (lo+4*w) (.node (lo+2*w) (.node (lo+1*w) (f K0 (lo+0*w)) (f r4 (lo+1*w))) (.node (lo+3*w) (f r5 (lo+2*w)) (f K1 (lo+3*w))))
  (.node (lo+6*w) (.node (lo+5*w) (f K2 (lo+4*w)) (f K3 (lo+5*w))) (.node (lo+7*w) (f K4 (lo+6*w)) (f K5 (lo+7*w))))
noncomputable def z6:(d:Nat)-> {B:Type}->((bq d->aa)->B->aa)->Nat->x (B->aa)
 |0,_,b,_=> .leaf (some (b λF=>F))
 |d+1,_,b,a=>aa2 (A:=bq d) a (8^d) λc a=>z6 d (λe=>b λF=>e (c F)) a
noncomputable def z7 (R:Type):(d:Nat)-> {B:Type}->(lJ (bq d) R->lJ B R)->Nat->x (lJ B R)
 |0,_,b,_=> .leaf (some (b λv _ k=>k v))
 |d+1,_,b,a=>aa3 (A:=bq d) (R:=R) a (8^d) λc a=>z7 R d (λs=>b (c s)) a
def G0 {d c i:Nat} (a:i<8^d):(c*8^d+i)/8^d=c/\(c*8^d+i)%8^d=i:=by
 have b:0<8^d:=Nat.pow_pos ab;rw [rK,Nat.mul_add_div b,Nat.mul_add_mod,aiJ a,tE a];exact ⟨rfl,rfl⟩
def J5 {d c i:Nat} (a:c<8) (b:i<8^d):c*8^d+i<8^(d+1):=by
 have:c*8^d<=7*8^d:=fU _ ab;rw [rL];omega
theorem Xb {A:Type} (F:t A) {c:Nat} (a:c<8):Ec c F=t.get F c:=by
 match c,a with
 |0,_=>rfl
 |1,_=>rfl
 |2,_=>rfl
 |3,_=>rfl
 |4,_=>rfl
 |5,_=>rfl
 |6,_=>rfl
 |7,_=>rfl
def Xc {A R:Type} (s:lJ A R) (v:aa) (F:t A) (k:t A->R) (f:A->A) (a: ∀F k,s v F k=k (f F)) {c:Nat} (b:c<8):Ed c s v F k=k (t.set F c (f (t.get F c))):=by
 match c,b with
 |0,_=>exact a ..
 |1,_=>exact a ..
 |2,_=>exact a ..
 |3,_=>exact a ..
 |4,_=>exact a ..
 |5,_=>exact a ..
 |6,_=>exact a ..
 |7,_=>exact a ..
def Mu: ∀(d:Nat) {B:Type} (b:(bq d->aa)->B->aa) (lo:Nat) (p:Nat->(B->aa)->Prop),(∀i g,i<8^d->(∀F,g F=fN d i F)->p (lo+i) (b g))->x.k0 p lo (lo+8^d) (z6 d b lo)
 |0,B,b,lo,p,e=>Ga (e 0 _ ai λ_=>rfl)
 |d+1,B,b,lo,p,e=>by rw [show lo+8^(d+1)=lo+8*8^d by rw [rL];omega];refine Mz (f:=λa lo=>z6 d (λg=>b λ(F:t (bq d))=>g (Ec a F)) lo) λa h=> ?_;rw [show lo+(a+1)*8^d=lo+a*8^d+8^d by rw [iK];omega];refine Mu d _ _ _ λi g j n=> ?_;rw [show lo+a*8^d+i=lo+(a*8^d+i) by omega];refine e _ _ (J5 h j) λF=> ?_;obtain ⟨l,m⟩:=G0 (c:=a) j;show g (Ec a F)=fN d ((a*8^d+i)%8^d) (t.get F ((a*8^d+i)/8^d));rw [l,m,n,Xb F h]
def Mv (R:Type): ∀(d:Nat) {B:Type} (b:lJ (bq d) R->lJ B R) (lo:Nat) (p:Nat->lJ B R->Prop),(∀i s,i<8^d->(∀v F k,s v F k=k (eK d i v F))->p (lo+i) (b s))->x.k0 p lo (lo+8^d) (z7 R d b lo)
 |0,B,b,lo,p,e=>Ga (e 0 _ ai λ_ _ _=>rfl)
 |d+1,B,b,lo,p,e=>by rw [show lo+8^(d+1)=lo+8*8^d by rw [rL];omega];refine Mz (f:=λa lo=>z7 R d (λs=>b (Ed (A:=bq d) a s)) lo) λa g=> ?_;rw [show lo+(a+1)*8^d=lo+a*8^d+8^d by rw [iK];omega];refine Mv R d _ _ _ λi s h m=> ?_;rw [show lo+a*8^d+i=lo+(a*8^d+i) by omega];refine e _ _ (J5 g h) λv F k=> ?_;obtain ⟨j,l⟩:=G0 (c:=a) h;show Ed a s v F k=k (t.set F ((a*8^d+i)/8^d) (eK d ((a*8^d+i)%8^d) v (t.get F ((a*8^d+i)/8^d))));rw [j,l];exact Xc s v F k (eK d i v) (λF k=>m v F k) g
noncomputable def la (d:Nat):x (H d):=z6 d (λa=>a) 0
noncomputable def sf (d:Nat):x (Set d):=z7 (b0 d) d (λs=>s) 0
def B9 (d:Nat):x.k0 (ye d) 0 (8^d) (la d):=by
 have:=Mu d (λa=>a) 0 (ye d) λc a _ b=>by rw [gH];exact b
 rwa [gH] at this
def E1 (d:Nat):x.k0 (zM d) 0 (8^d) (sf d):=by
 have:=Mv (b0 d) d (λs=>s) 0 (zM d) λb s _ a=>by rw [gH];exact a
 rwa [gH] at this
abbrev o {α:Type} (x:α):Option α:=some x
noncomputable def x.eB {α:Type}:Nat->Nat->List (Option α)->x α
 |0,_,b=> .leaf (match b with|d::_=>d| []=>none)
 |a+1,c,b=> .node (c+2^a) (x.eB a c b) (x.eB a (c+2^a) (b.drop (2^a)))
def mK (b:Nat):Nat->Nat->Nat->Option Nat
 |0,_,_=>none
 | n+1,num,a=>match Nat.beq (num%256) b with
   |true=>some a
   |false=>mK b n (num/256) (a+1)
def r0:List aa->af->cY:=λd b=>match d with
 | [.str e n,.int .u8 (.ofNat c)]=>match Nat.blt c 256 with
   | true=>match mK c e n 0 with
     |some a=>bC a λa=> .ret (.int .i64 (.ofNat a)) b
     |none=> .ret (.int .i64 (.negSucc 0)) b
   |false=> .fail
 |_=> .fail
def GI (r:cY):Option aa:=match r with
 | .ret a b=>match aZ bR a b with
   |some (a,_)=>some a
   |none=>none
 |_=>none
def iD (args:List aa) (v:aa) (r:cY):Bool:=args.all (D bR)&&(match GI r with
 |some a=>cN a v
 |none=>false)
def rZ (args:List aa) (v:aa):List aa->af->cY:=λas a=>match eu as args with
 |true=> .ret v a
 |false=> .fail
def Ya {E:Env} {P:Program} {cf:cb} (r: ∀f args H,e9 E P f args H (cf f args H)) {f:Nat} {args:List aa} {v:aa} (d:iD args v (cf f args af.empty)=true):
    ∀as H,e9 E P f as H (rZ args v as H):=by
 intro as H h O J M z t k i;unfold rZ at h|-;split at h
 case h_2=>exact absurd rfl h
 rename_i x;rw [ob _ _ x] at k i;unfold iD at d;simp only [br] at d;obtain ⟨s,e⟩:=d;split at e
 case h_2=>cases e
 rename_i G a;have:=zN _ _ e;subst this;have c:=qs (f:=aZ bR) (vs:=args) λv y=>ya _ v (ba.1 s v y);unfold GI at a;split at a
 case h_2=>cases a
 rename_i I C w;split at a
 case h_2=>cases a
 rename_i A D u;simp only [N] at a;subst a;have j:nB cf f args H []= .ok A [] H:=by unfold nB;simp only [c,bu,w,u,dn]
 have l:=G5 (tm:= []) r z t k i (by rw [j];simp);rw [j] at l;refine l.mono λc K g=> ?_
 cases c with
 |outgrown=>exact g.elim
 | returned L=>
   obtain ⟨B,n,m,b,o,p,q⟩:=g;simp only [bf.ok.injEq] at b;obtain ⟨rfl,_,rfl⟩:=b;exact ⟨_,_,m,rfl,o,p,q⟩
 | panicked F=>
   obtain ⟨B,n,m,b,_⟩:=g;cases b
def JW {α β:Type} (f:α->β) (p:β->Bool): ∀l:List α,(l.map f).find? p=(l.find? (λx=>p (f x))).map f
 | []=>rfl
 | x::l=>by
   simp only [fS,yK]
   cases p (f x) with
   |true=>rfl
   |false=>exact JW f p l
def find_congr {α:Type} (p q:α->Bool): ∀l:List α,(∀x,x∈l->p x=q x)->l.find? p=l.find? q
 | [],_=>rfl
 | x::l,a=>by
   simp only [yK,a x ai]
   cases q x with
   |true=>rfl
   |false=>exact find_congr p q l λc b=>a c (by simp [b])
def IL (b:Nat): ∀(l:List UInt8) (i:Nat),b<256->mK b l.length (cV l) i=((List.range l.length).find? λj=>decide ((l[j]?.map UInt8.toNat)=some b)).map (· +i)
 | [],i,_=>rfl
 | a::l,i,h=>by
   simp only [cl,mK,cV];have k:a.toNat<256:=a.toNat_lt;have d:(a.toNat+256*cV l)%256=a.toNat:=ab;have e:(a.toNat+256*cV l)/256=cV l:=ab;rw [d,e,List.range_succ_eq_map,yK];simp only [mM,jV,N];by_cases c:a.toNat=b
   . subst c;rw [show Nat.beq a.toNat a.toNat=true from Nat.beq_refl _];simp
   . rw [show Nat.beq a.toNat b=false from aon.2 (λg=>c (gk g)),show decide (a.toNat=b)=false by simp [c]];dsimp only;rw [IL b l (i+1) h,JW];simp only [tA,Option.map_map];congr 1;funext j;show j+(i+1)=j.succ+i;omega
section
variable {E:Env} {P:Program} {f:Nat} {fn:Func}
theorem Yb (y:P.funcs[f]? =some fn) (F:(fn.name== "runtime.NumGoroutine")=false) (w:fn.body.isNone=true) (D:Extern.findNext fn=none) (x:Extern.find fn=some Extern.BytealgIndexByte.indexByte):
  ∀args H,e9 E P f args H (r0 args H):=by
 intro args H e r l q p O C o;unfold r0 at e|-;split at e
 case h_2=>exact absurd rfl e
 rename_i K M c;split at e
 case h_2=>exact absurd rfl e
 rename_i j;have j:c<256:=er j;have I: ∃h i,q= #[h,i]:=by
  obtain ⟨L⟩:=q
  match L,C with
  | [h,i],_=>exact ⟨h,i,rfl⟩
 obtain ⟨h,i,rfl⟩:=I;have m:=o 0 _ _ rfl rfl;have n:=o 1 _ _ rfl rfl;unfold aC at m n;cases n
 cases m with
 | str a _ _ s t=>
   have G:(callFunc f #[.string a,.int .u8 (Int.ofNat c)]).run P l= .ok (.value (.int .i64 (firstIdx a (Int.ofNat c).toNat.toUInt8))) l:=by rw [run_callFunc_extern y F w D x,run_indexByte_string];rfl
   refine .inr ⟨_,l,G,?_⟩;have k:a.data.toList.length=a.size:=size_data a;have z:(List.range a.size).find? (λb=>a[b]! ==(Int.ofNat c).toNat.toUInt8)=(List.range a.data.toList.length).find? λJ=>decide ((a.data.toList[J]?.map UInt8.toNat)=some c):=by
    rw [k];refine find_congr _ _ _ λb g=> ?_;have g:b<a.size:=by simpa using g
    have B:b<a.data.toList.length:=by rw [k];exact g
    rw [lj B,jV];have u:a[b]! =a.data.toList[b]:=by rw [getElem!_pos a b g];rfl
    rw [u];have v:(Int.ofNat c).toNat.toUInt8=UInt8.ofNat c:=rfl;rw [v,jU];simp only [beq_iff_eq,decide_eq_true_eq,N];constructor
    . intro d;rw [d];simp;omega
    . intro d;rw [<-d];simp
   have A:mK c K M 0=(List.range a.size).find? (λb=>a[b]! ==(Int.ofNat c).toNat.toUInt8):=by rw [z,<-s,<-t,<-k];have:=IL c a.data.toList 0 j;unfold et;rw [this];cases (List.range a.data.toList.length).find? _<;>simp
   rw [A] at e|-;unfold firstIdx
   cases (List.range a.size).find? (λb=>a[b]! ==(Int.ofNat c).toNat.toUInt8) with
   |none=>exact ⟨_,_,r,rfl,p,Fr.refl λ_ d=>d,.int _ _⟩
   |some b=>exact ⟨_,_,r,by simp only [c1];rfl,p,Fr.refl λ_ d=>d,.int _ _⟩
end
open Go
def sN:List aa:= [.str 115 3512734084378088553325630052870886529947517021185620958981523755477882644105126609146903663803857763560802802188787210184475362562191644466193523421000569059751419629829605841330256231361608756107532437428240172945737778236111716152556591854596622006402719568366399295079081057]
def sW:aa:= .A [[.str 3 6579297],[.str 3 6452595],[.str 3 7107949],[.str 3 7760228],[.str 3 6582125],[.str 3 6776174],[.str 2 29804],[.str 2 25964],[.str 2 29799],[.str 2 25959],[.str 2 29029],[.str 2 25966],[.str 3 6581857],[.str 2 29295],[.str 3 7630702],[.str 4 1801677168],[.str 3 7627107],[.str 6 114849160783212],[.str 4 1954047348],[.str 4 1852403562],[.str 3 7628135],[.str 3 7632240],[.str 3 7561576],[.str 3 7103844],[.str 4 1937335659],[.str 4 1702521203],[.str 2 29545],[.str 7 28558080999846761]] false
open Go.Sort
def Ss (w:World) (a:Array Go.Obj) (b:Nat) (c:b<w.heap.size):(grow w a).heap[b]? =w.heap[b]? :=by
 show (w.heap++a)[b]? =_
 grind
def Q.grow {ae:aF} {H:af} {w:World} (c:Q ae H w) (b:Array Go.Obj):Q ae H (Go.Sort.grow w b):=by
 obtain ⟨a⟩:=b
 induction a generalizing w with
 |nil=>simp_all
 | cons o a d=>
   have:=d (c.alloc o);rw [alloc_eq_grow,grow_grow] at this
   grind
def Fr.grow {ae:aF} {w:World} (a:Array Go.Obj):Fr ae.own ae ae w (Go.Sort.grow w a):=
 ⟨ai,λb c _=>Ss w a b c,ai,ah,ai,ah,ah,ai,rfl,rfl,rfl⟩
def YF {α:Type} [Inhabited α] (enc:α->Value) (w:World) (b o:Nat) (d:Array α) (c:Array Value) (e:TypeId) (f:Nat×Nat) (g:w.heap[b]? =some (.cells c e f)) (m:o+d.size<=c.size):
    (putRow enc w b o d).heap=(w.setCells b o (d.map enc).toList).heap:=by
 obtain ⟨k,i,l,j⟩:=wM b (d.map enc).toList o w c e f g;apply Array.ext_getElem?;intro a;by_cases h:a=b
 . subst h;rw [i];show (w.heap.modify a _)[a]? =_;rw [vK,if_pos rfl,g];show some (Go.Obj.cells (putCells enc o d c) e f)=_;congr 2;apply Array.ext_getElem?;intro n;rw [j];unfold putCells
   grind
 . rw [um _ _ _ _ _ h];show (w.heap.modify b _)[a]? =_
   grind
section
variable {ae:aF} {H:af} {w:World}
theorem aam (P:Program) {α:Type} [Inhabited α] (u:Q ae H w) {id c off len d ro b o cap:Nat} {cs cs':List aa} (r:aC ae (.ref id c off 1 len false) (.slice (some ⟨b,o,none⟩) len cap)) (C:H.get id=some (.cells c d ro cs)) (aq:ro<=off)
  {vs:List aa} (enc:α->Value) (a:Array α) (D:a.size=len) (q:dU ae vs (a.map enc)) (I: ∀(i:Nat) (y:Value),(a.map enc)[i]? =some y->y.oneCell'=true) (ar:cB cs off vs=some cs') (n:Nat) (f:Array Go.Obj):
  Q ae (H.set id (.cells c c ro cs')) (Go.Sort.grow (putRow enc (Go.Sort.ahead w n) b o a) f)/\Fr ae.own ae ae w (Go.Sort.grow (putRow enc (Go.Sort.ahead w n) b o a) f):=by
 unfold aC at r
 cases r with
 | ref _ _ _ _ _ _ X e v ad p af ag ai aj ak A=>
   have L:vs.length=len:=by rw [q.1,Array.size_map,D]
   have J:aC ae (.ptr id c off (off+len)) (.pointer (some ⟨b,off-e.s,none⟩)):= .ptr id c off (off+len) b e v p ab A;have K:hD id c off (off+len) len vs [] H= .ok (.av []) [] (H.set id (.cells c c ro cs')):=by
    unfold hD
    simp_all
   obtain ⟨-,-,Z,au,m,-,M,E⟩:=wO (P:=P) (loc:=λ_=>false) (β:=λ_=>none) (tm:= []) u J q I L K;simp only [Value.pointer.injEq,N,Addr.mk.injEq,and_true] at m;obtain ⟨rfl,rfl⟩:=m;obtain ⟨Y,W,l⟩:=u.obj _ _ C;have j:=l.at_;rw [p] at j;simp only [N,bz] at j;obtain ⟨rfl,rfl,rfl⟩:=j;obtain ⟨x,z,S,G,B,al,an⟩:=l.free;have ao:=l.room;have t:(putRow enc (Go.Sort.ahead w n) b (off-e.s) a).heap=(w.setCells b (off-e.s) (a.map enc).toList).heap:=by
    rw [YF enc (Go.Sort.ahead w n) b (off-e.s) a x z (S,G) B ab];have: ∀(vs:List Value) (o:Nat) (g h:World),g.heap=h.heap->(g.setCells b o vs).heap=(h.setCells b o vs).heap:=by
     intro vs
     induction vs with
     |nil=>intro o g h k;exact k
     |cons ax vs R=>intro o g h k;exact R _ _ _ (by simp only [World.setCell,k])
    exact this _ _ _ _ rfl
   obtain ⟨aw,T,U,V⟩:=zO b (a.map enc).toList (off-e.s) w;have O:=M.rr (w':=putRow enc (Go.Sort.ahead w n) b (off-e.s) a) t;have F:Fr ae.own ae ae w (putRow enc (Go.Sort.ahead w n) b (off-e.s) a):=
    E.trans (Fr.rr (ae:=ae) t T.symm U.symm V.symm) ah
   exact ⟨O.grow f,F.trans (Fr.grow f) ah⟩
end
section
variable {ae:aF} {H:af} {w:World}
theorem Ic (a:Q ae H w) (id:Nat) (d:id<H.n):Q ae (H.set id .gone) w:=by
 refine ⟨a.aI,a.gK,a.hR,af.r_ _ _ _ a.len,λg h b=> ?_,λf e i c=>by rw [af.m7];exact a.hI _ _ _ c,a.e3,a.sep⟩;rw [af.k_ _ a.len _ _ d] at b;split at b
 . cases b;exact trivial
 . exact a.obj _ _ b
theorem YA (a:Q ae H w):Q ae (H.push .gone) w:=by
 refine ⟨a.aI,a.gK,a.hR,af.KY _ _ a.len,λf g b=> ?_,λe d h c=>by have:=a.hI _ _ _ c;simp only [af.push];omega,a.e3,a.sep⟩;rw [af.Ia _ a.len] at b;split at b
 . cases b;exact trivial
 . exact a.obj _ _ b
theorem Rn (j:Q ae H w) {id g d ro:Nat} {cs:List aa} {b:Nat} {C:jB} (O:H.get id=some (.cells g d ro cs)) (y:ae.μ id g=some (b,C,cs.length)) (m:Nat) (ah:cs.length+m<=C.c) (hty:ev (g+1)=ev g):
  Q (ae.ch id (g+1) (b,C,cs.length+m)) (H.set id (.cells (g+1) d ro (cs++List.replicate m .bad))) w/\Fr ae.own ae (ae.ch id (g+1) (b,C,cs.length+m)) w w:=by
 have P:=af.gW O;obtain ⟨aw,ao,h⟩:=j.obj _ _ O;have t:=h.at_;rw [y] at t;simp only [N,bz] at t;obtain ⟨rfl,rfl,-⟩:=t;have ag:ae.μ id (g+1)=none:=h.last _ ab;have J: ∀e a f,ae.μ e a=some f->(ae.ch id (g+1) (b,C,cs.length+m)).μ e a=some f:=by
  intro e a f q;simp only [aF.ch];rw [if_neg]
  . exact q
  . rintro ⟨rfl,rfl⟩;rw [ag] at q;cases q
 have aj:(ae.ch id (g+1) (b,C,cs.length+m)).μ id (g+1)=some (b,C,cs.length+m):=by simp [aF.ch]
 have v: ∀e a f,(ae.ch id (g+1) (b,C,cs.length+m)).μ e a=some f->(e=id/\a=g+1/\f=(b,C,cs.length+m))\/ae.μ e a=some f:=by
  intro e a f i;simp only [aF.ch] at i;split at i
  . rename_i M;simp at i;exact .inl ⟨M.1,M.2,i.symm⟩
  . exact .inr i
 have K: ∀o p,aC ae o p->aC (ae.ch id (g+1) (b,C,cs.length+m)) o p:=λo p a=>bt.mono a (λ_ _ _ a=>a) (λ_ _ a=>a) J;obtain ⟨c,ay,aJ,x,U,aA,aB⟩:=h.free;refine ⟨⟨j.aI,j.gK,j.hR,af.r_ _ _ _ j.len,λaG aK z=> ?_,λe a f q=> ?_,λe a D r B q=> ?_,?_⟩,?_⟩
 . rw [af.k_ _ j.len _ _ P] at z;split at z
   . rename_i S;subst S;cases z;refine ⟨b,C,by rw [aj];simp,by simpa using ah,h.sle,h.free,λe o u l=> ?_,?_,h.wr,λF aD=> ?_,by have:=h.km;omega,h.pO.Xh hty⟩
     . by_cases x:e<cs.length
       . rw [yN x] at l;obtain ⟨p,ak⟩:=h.nK e o u l;exact ⟨p,K _ _ ak⟩
       . rw [vP ab,yP] at l;split at l
         . cases l;exact ⟨default,.bad _⟩
         . cases l
     . intro F D r B V i;rcases v _ _ _ i with ⟨-,rfl,f⟩|X
       . simp only [bz] at f;obtain ⟨rfl,rfl,rfl⟩:=f;refine ⟨ai,λe o u l n=> ?_⟩;by_cases x:e<cs.length
         . rw [yN x] at n;obtain ⟨p,G,I⟩:=(h.cont g D r _ h.km y).2 e o u x n;exact ⟨p,G,K _ _ I⟩
         . rw [vP ab,yP] at n;split at n
           . cases n;have W:e-r.s<c.size:=ab;exact ⟨c[e-r.s],by unfold cellAt;rw [U];simp [W],.bad _⟩
           . cases n
       . obtain ⟨az,T⟩:=h.cont F D r B V X;refine ⟨da,λe o u l n=> ?_⟩;rw [yN ab] at n;obtain ⟨p,G,I⟩:=T e o u l n;exact ⟨p,G,K _ _ I⟩
     . simp only [aF.ch];rw [if_neg (by rintro ⟨_,t⟩;omega)];exact h.last _ ab
   . rename_i ad;refine (j.obj _ _ z).carry (λ_ _ _ a=>a) (λ_ _ a=>a) J (λF=> ?_) (λ_ _ _ _ _=>rfl) (λ_ _ _ _ _ _ a=>a) (λ_ _ _ _ _ a=>a);simp only [aF.ch];rw [if_neg (by rintro ⟨t,_⟩;exact ad t)]
 . rw [af.m7];rcases v _ _ _ q with ⟨rfl,_,_⟩|k
   . exact P
   . exact j.hI _ _ _ k
 . rcases v _ _ _ q with ⟨_,_,f⟩|k
   . simp only [bz] at f;obtain ⟨rfl,-,-⟩:=f;exact j.e3 _ _ _ _ _ y
   . exact j.e3 _ _ _ _ _ k
 . intro e a ax aq au aE k ar av Y Z;have conv: ∀e a E A L,(ae.ch id (g+1) (b,C,cs.length+m)).μ e a=some (E,A,L)-> ∃k R,ae.μ e k=some (E,A,R):=λe a E A L i=>by
    rcases v _ _ _ i with ⟨rfl,_,f⟩|k
    . simp only [bz] at f;obtain ⟨rfl,rfl,-⟩:=f;exact ⟨_,_,y⟩
    . exact ⟨_,_,k⟩
   obtain ⟨aL,aN,al⟩:=conv _ _ _ _ _ Y
   obtain ⟨aM,aO,an⟩:=conv _ _ _ _ _ Z
   exact j.sep _ _ _ _ _ _ _ _ _ al an
 . refine ⟨aT _,λ_ _ _=>rfl,λ_ _ _ a=>a,λ_ _ _ a=> .inl a,λ_ _ a=>a,λ_ _ a=> .inl a,?_,J,rfl,rfl,rfl⟩;rintro aH ⟨e,a,r,B,i⟩;rcases v _ _ _ i with ⟨_,_,f⟩|k
   . simp only [bz] at f;obtain ⟨rfl,-,-⟩:=f;exact .inl ⟨_,_,_,_,y⟩
   . exact .inl ⟨_,_,_,_,k⟩
end
abbrev hj:=List (Nat×List aa×aa)
def Ik (f:Nat):hj->Bool
 | []=>false
 | (a,_)::l=>match Nat.beq f a with
   |true=>true
   |false=>Ik f l
def ua (f:Nat):hj->List aa->af->cY
 | [],_,_=> .fail
 | (d,c,e)::l,b,a=>match Nat.beq f d with
   | true=>match eu b c with
     |true=> .ret e a
     |false=>ua f l b a
   |false=>ua f l b a
noncomputable def iq (l:hj) (s5:Nat->Option iW) (f:Nat):Option iW:=match Ik f l with
 |true=>some (.cL (ua f l))
 |false=>s5 f
section
variable {E:Env} {P:Program} {R:bU} {ad m:Nat} {s5:Nat->Option iW} {l k:hj}
def gy (E:Env) (P:Program) (l:hj):Prop:= ∀b c a,e9 E P b c a (ua b l c a)
theorem gy.nil:gy E P []:=λ_ _ _ a=>absurd rfl a
theorem Wk (c:uN E P R s5) (e:gy E P l):uN E P R (iq l s5) where
 tab:=c.tab
 oL:=λb g d a=>by
  unfold iq at a;split at a
  . cases a
  . exact c.oL b g d a
 cL:=λb f a=>by
  unfold iq at a;split at a
  . cases a;exact e b
  . exact c.cL b f a
theorem gy.cons {f:Nat} {a:List aa} {v:aa} (p:gy E P l) (o:gy E P k) (n:uN E P R s5) (j:iD a v (hJ E R ad (iq k s5) m f a af.empty)=true):gy E P ((f,a,v)::l):=λi d b=>by
 have c:=Ya (λf g b=>Q_ (ad:=ad) (Wk n o) m f g b) j d b;have e:=p i d b;unfold ua;split
 . rename_i h;cases gk h;unfold rZ at c
   cases q:eu d a with
   |true=>simp only [q] at c|-;exact c
   |false=>exact e
 . exact e
end
abbrev a (n:Nat):aa:= .int .i64 (.ofNat n)
abbrev S (n m:Nat):aa:= .str n m
def bJ:aa:=S 4 1936553331
def lB:aa:=S 4 1937075312
def Fj:aa:=S 4 1953720652
def Ak:aa:=S 6 54045510560880
def uE:aa:=S 6 55145022188656
def sn:aa:=S 7 28558080999846761
def Nk:aa:=S 7 32776920301204851
def Nl:aa:= .agg [a 0,S 0 0,a 0,a 0]
def Nn:aa:= .A [[S 3 7630409]] false
def No:aa:= .A [[S 3 7370821]] false
def Np:List aa:= [a 1,a 1,S 0 0,S 0 0,.V,.V]
def sq:List aa:= [a 1,a 3,S 0 0,S 0 0,.V,.V]
def Nr:aa:= .A [[S 3 7370821],[S 3 7169872]] false
def Ns:aa:= .A [[S 3 7370821],[S 3 7370821]] false
def l8:List aa:= [a 6,a 0,S 1 86,S 3 7370821,.V,.V]
def wX:List aa:= [a 6,a 0,S 2 12632,S 3 7370821,.V,.V]
def wY:List aa:= [a 6,a 0,S 2 12888,S 3 7370821,.V,.V]
def sr:Y:= [[a 6,a 0,S 1 75,Fj,.V,.V]]
def vs:aa:= .A sr true
def Am:aa:= .A [[S 3 7630409,S 3 7370821],[S 3 7370821,S 3 7169872]] false
def Nv:aa:= .A [[S 0 0,S 3 7370821],[S 1 43,S 0 0],[S 0 0,S 3 7370821]] false
def Nw:Y:= [Np,[a 1,a 2,S 0 0,S 0 0,.V,.V]]
def Nx:List aa:= [Ak,No,S 3 7370821,.V,a 0,a 0,.V]
def Ny:List aa:= [uE,No,S 3 7370821,.V,a 0,a 0,.V]
def NA:aa:= .A [[a 6,a 0,S 1 88,S 3 7630409,.V,.V],[a 6,a 0,S 1 89,S 3 7630409,.V,.V]] false
def M7:List aa:= [a 5,a 0,Ak,S 0 0,.A [wY] false,.V]
def M8:List aa:= [a 5,a 0,uE,S 0 0,.A [wX] false,.V]
def M9:List aa:= [a 5,a 0,sn,S 0 0,.A [wX] true,.V]
def M_:aa:= .A [[a 5,a 0,sn,S 0 0,.A [l8] true,.V]] true
def Na:List aa:= [a 5,a 0,lB,S 0 0,.A Nw false,.V]
def Nb:aa:= .A [[S 1 107,Fj,a 7,a 0,S 0 0,S 0 0,.A [[a 6,a 0,S 1 36,S 3 7958081,.V,.V]] false,.V,a 1,a 140]] false
def Nc:aa:= .A [[a 5,a 0,S 3 6579297,S 0 0,NA,.V]] false
def Nd:aa:= .A [[a 5,a 0,lB,S 0 0,NA,.V]] false
def Nf:aa:= .A [[a 5,a 0,lB,S 0 0,.A [wX,wY] false,.V]] true
def Ng:aa:= .agg [a 7,a 0,S 0 0,S 0 0,.A [Na,[a 5,a 0,Ak,S 0 0,.A [sq] false,.V]] false,.V]
def Nh:List aa:= [S 242 1127240392803746107508510013010670707745768731159951344054146684706911140389963118250577718883990078145754107048271509873595420844061662419240857027934109468981621429589867445830373222961670832922504093644710406202750159002373276325792846263117912204933118535022647080057074043883919694993542765746507607943088275128446190121856256056995953893810341626552942422758263897828832775969614578793476288167154734976063544341763006048146791409110543590307745238175710985776749403743263109357135579630911477123924014890835619994730889817548092373573813066683010160898103535559937642692764012]
def val:aa:= .agg [bJ,Nr,Am,.A [[lB,Ns,S 3 7370821,Nv,a 5,a 1,.A [[a 1],[a 2]] false]] false,.V,Nn,.V,Nb,S 0 0,.V,.A [[S 3 6579297,.A [[S 1 107,S 0 0,a 7,a 0,S 0 0,S 0 0,Nd,vs,.A [[a 7,a 0,S 0 0,S 0 0,Nc,vs]] true,a 1,a 187]] false,.V,.V,.V,a 1,a 176]] false,S 3 7169872,S 1 107]
def xC:List aa:= [S 115 3512734084378088553325630052870886529947517021185620958981523755477882644105126609146903663803857763560802802188787210184475362562191644466193523421000569059751419629829605841330256231361608756107532437428240172945737778236111716152556591854596622006402719568366399295079081057]
def By:aa:= .A [[S 3 6579297],[S 3 6452595],[S 3 7107949],[S 3 7760228],[S 3 6582125],[S 3 6776174],[S 2 29804],[S 2 25964],[S 2 29799],[S 2 25959],[S 2 29029],[S 2 25966],[S 3 6581857],[S 2 29295],[S 3 7630702],[S 4 1801677168],[S 3 7627107],[S 6 114849160783212],[S 4 1954047348],[S 4 1852403562],[S 3 7628135],[S 3 7632240],[S 3 7561576],[S 3 7103844],[S 4 1937335659],[S 4 1702521203],[S 2 29545],[sn]] false
def Bd:List aa:=Nh
def GU:aa:= .av [.A [[a 1,S 8 7306916077306274156,a 0,a 1,a 1],[a 1,bJ,a 0,a 1,a 10],[a 4,S 1 46,a 0,a 1,a 14],[a 1,S 4 1953656691,a 0,a 1,a 16],[a 1,S 3 7370821,a 0,a 1,a 21],[a 4,S 1 44,a 0,a 1,a 24],[a 1,S 3 7169872,a 0,a 1,a 26],[a 4,S 1 46,a 0,a 1,a 29],[a 1,Nk,a 0,a 1,a 31],[a 1,S 3 7630409,a 0,a 1,a 39],[a 4,S 1 60,a 0,a 1,a 43],[a 1,S 3 7370821,a 0,a 1,a 45],[a 4,S 1 46,a 0,a 1,a 48],[a 1,Nk,a 0,a 1,a 50],[a 1,S 3 7370821,a 0,a 1,a 58],[a 4,S 1 60,a 0,a 1,a 62],[a 1,S 3 7169872,a 0,a 1,a 64],[a 4,S 1 46,a 0,a 1,a 67],[a 1,S 5 435761734006,a 0,a 1,a 69],[a 1,S 3 7630409,a 0,a 1,a 75],[a 4,S 1 46,a 0,a 1,a 78],[a 1,S 2 28783,a 0,a 1,a 80],[a 1,lB,a 0,a 1,a 83],[a 4,S 1 58,a 0,a 1,a 88],[a 1,S 3 7370821,a 0,a 1,a 90],[a 3,S 1 43,a 0,a 1,a 94],[a 1,S 3 7370821,a 0,a 1,a 98],[a 4,S 2 15917,a 0,a 1,a 102],[a 1,S 3 7370821,a 0,a 1,a 105],[a 1,S 4 1667592816,a 0,a 1,a 109],[a 2,S 0 0,a 5,a 1,a 114],[a 1,S 4 1952867692,a 0,a 1,a 116],[a 1,S 6 127970319692915,a 0,a 1,a 121],[a 4,S 1 40,a 0,a 1,a 127],[a 2,S 0 0,a 1,a 1,a 128],[a 4,S 1 44,a 0,a 1,a 129],[a 2,S 0 0,a 2,a 1,a 131],[a 4,S 1 41,a 0,a 1,a 132],[a 4,S 1 46,a 0,a 1,a 133],[a 1,S 4 1819043171,a 0,a 1,a 135],[a 1,S 1 107,a 0,a 1,a 140],[a 4,S 1 58,a 0,a 1,a 142],[a 1,Fj,a 0,a 1,a 144],[a 4,S 1 61,a 0,a 1,a 149],[a 4,S 1 91,a 0,a 1,a 151],[a 4,S 1 36,a 0,a 1,a 152],[a 4,S 1 93,a 0,a 1,a 153],[a 4,S 1 46,a 0,a 1,a 154],[a 1,S 5 500135195763,a 0,a 1,a 156],[a 1,S 3 7169872,a 0,a 1,a 162],[a 4,S 1 46,a 0,a 1,a 165],[a 1,S 5 448345170295,a 0,a 1,a 167],[a 1,S 1 107,a 0,a 1,a 173],[a 4,S 1 46,a 0,a 1,a 174],[a 1,S 4 1701606770,a 0,a 1,a 176],[a 1,S 3 6579297,a 0,a 1,a 181],[a 4,S 1 58,a 0,a 1,a 185],[a 1,S 1 107,a 0,a 1,a 187],[a 4,S 1 58,a 0,a 1,a 189],[a 4,S 1 91,a 0,a 1,a 191],[a 1,lB,a 0,a 1,a 192],[a 4,S 1 40,a 0,a 1,a 196],[a 1,S 1 88,a 0,a 1,a 197],[a 4,S 1 58,a 0,a 1,a 198],[a 1,S 3 7630409,a 0,a 1,a 199],[a 4,S 1 44,a 0,a 1,a 202],[a 1,S 1 89,a 0,a 1,a 204],[a 4,S 1 58,a 0,a 1,a 205],[a 1,S 3 7630409,a 0,a 1,a 206],[a 4,S 1 41,a 0,a 1,a 209],[a 4,S 1 124,a 0,a 1,a 211],[a 1,S 1 75,a 0,a 1,a 213],[a 4,S 1 93,a 0,a 1,a 214],[a 4,S 2 15933,a 0,a 1,a 216],[a 4,S 1 91,a 0,a 1,a 219],[a 1,S 3 6579297,a 0,a 1,a 220],[a 4,S 1 40,a 0,a 1,a 223],[a 1,S 1 88,a 0,a 1,a 224],[a 4,S 1 58,a 0,a 1,a 225],[a 1,S 3 7630409,a 0,a 1,a 226],[a 4,S 1 44,a 0,a 1,a 229],[a 1,S 1 89,a 0,a 1,a 231],[a 4,S 1 58,a 0,a 1,a 232],[a 1,S 3 7630409,a 0,a 1,a 233],[a 4,S 1 41,a 0,a 1,a 236],[a 4,S 1 124,a 0,a 1,a 238],[a 1,S 1 75,a 0,a 1,a 240],[a 4,S 1 93,a 0,a 1,a 241],[a 4,S 1 46,a 0,a 1,a 242]] false,Nl]
def Bj:List aa:=Nh
def GY:aa:= .av [val,Nl]
def Bh:List aa:= []
def nA:aa:=val
def Nz:List aa:= [nA,.agg [a 7,a 0,S 0 0,S 0 0,.A [Np] true,.V]]
def Bg:List aa:= [nA]
def GX:aa:= .bool true
def Bi:List aa:= [nA]
def Bz:aa:= .av [.agg [bJ,Nr,Am,.A [[lB,Ns,S 3 7370821,Nv,a 5,a 1,.V],Nx,Ny] false,.V,Nn,.V,Nb,S 0 0,.V,.A [[S 3 6579297,.A [[S 1 107,S 0 0,a 7,a 0,S 0 0,S 0 0,Nd,.A sr false,.A [[a 7,a 0,S 0 0,S 0 0,Nc,.A sr false]] false,a 1,a 187]] false,.V,.V,.V,a 1,a 176],[S 11 59688136817432349658934384,.A [[S 1 107,S 0 0,a 7,a 0,S 0 0,S 0 0,Nf,vs,.A [[a 7,a 0,S 0 0,S 0 0,.A [wX,M7] true,vs]] true,a 0,a 0]] true,.A [[a 5,a 0,S 3 7630702,S 0 0,.A [M9] true,.V]] false,.V,.V,a 0,a 0],[S 11 59687990255095328722480240,.A [[S 1 107,S 0 0,a 7,a 0,S 0 0,S 0 0,.A [l8,M7] true,vs,.A [[a 7,a 0,S 0 0,S 0 0,.A [[a 5,a 0,lB,S 0 0,.A [l8,wY] false,.V]] true,vs]] true,a 0,a 0]] true,M_,.V,.V,a 0,a 0],[S 11 60897062637046978833640560,.A [[S 1 107,S 0 0,a 7,a 0,S 0 0,S 0 0,Nf,vs,.A [[a 7,a 0,S 0 0,S 0 0,.A [wY,M8] true,vs]] true,a 0,a 0]] true,.A [M9,[a 5,a 0,S 3 7630702,S 0 0,.A [[a 5,a 0,sn,S 0 0,.A [wY] true,.V]] true,.V]] false,.V,.V,a 0,a 0],[S 11 60896916074709957897186416,.A [[S 1 107,S 0 0,a 7,a 0,S 0 0,S 0 0,.A [l8,M8] true,vs,.A [[a 7,a 0,S 0 0,S 0 0,.A [[a 5,a 0,lB,S 0 0,.A [wX,l8] false,.V]] true,vs]] true,a 0,a 0]] true,M_,.V,.V,a 0,a 0]] false,S 3 7169872,S 1 107],a 0]
def Bk:List aa:= [nA]
def GZ:aa:=Bz
def Bf:List aa:= [nA]
def GW:aa:= .av [.A [Nx,Ny] false,a 0]
def A_:List aa:= [nA,.agg [a 7,a 0,S 0 0,S 0 0,.A [[a 5,a 0,lB,S 0 0,.A [[a 5,a 0,lB,S 0 0,.A Nw true,.V],sq] true,.V]] true,.V]]
def GQ:aa:= .av [Ng,a 0]
def Ba:List aa:=Nz
def Bx:aa:= .av [.agg [a 0,a 0,S 0 0,S 0 0,.V,.V],a 4]
def Be:List aa:= [nA,.agg [a 7,a 0,S 0 0,S 0 0,.A [sq,[a 5,a 0,Ak,S 0 0,.A [sq] true,.V]] true,.V]]
def GV:aa:= .av [.agg [a 7,a 0,S 0 0,S 0 0,.A [[a 5,a 0,lB,S 0 0,.A [sq,sq] false,.V]] false,.V],a 0]
def Bb:List aa:= [nA,Ng]
def GR:aa:= .av [.agg [a 7,a 0,S 0 0,S 0 0,.A [[a 5,a 0,lB,S 0 0,.A [Na,sq] false,.V]] false,.V],a 0]
def Bc:List aa:=Nz
def GS:aa:=Bx
end Go.aj
