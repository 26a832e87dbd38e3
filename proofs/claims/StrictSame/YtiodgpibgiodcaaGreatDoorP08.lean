/- A part of the proof. -/
import Derived.Test.YtiodgpibgiodcaaGreatDoorP00
import Derived.Test.YtiodgpibgiodcaaGreatDoorP01
import Derived.Test.YtiodgpibgiodcaaGreatDoorP06
set_option linter.all false
set_option maxHeartbeats 4000000
namespace Go.aj
structure t (α:Type) where
  a0:α
  kY:α
  a2:α
  a3:α
  a4:α
  a5:α
  xm:α
  xn:α
abbrev bq:Nat->Type
 |0=>aa
 |d+1=>t (bq d)
def t.get {α:Type} (o:t α) (i:Nat):α:=match i with
 |0=>o.a0
 |1=>o.kY
 |2=>o.a2
 |3=>o.a3
 |4=>o.a4
 |5=>o.a5
 |6=>o.xm
 |_=>o.xn
def t.set {α:Type} (o:t α) (i:Nat) (x:α):t α:=match o with
 | ⟨a,b,c,e,f,h,j,k⟩=>match i with
   |0=>⟨x,b,c,e,f,h,j,k⟩
   |1=>⟨a,x,c,e,f,h,j,k⟩
   |2=>⟨a,b,x,e,f,h,j,k⟩
   |3=>⟨a,b,c,x,f,h,j,k⟩
   |4=>⟨a,b,c,e,x,h,j,k⟩
   |5=>⟨a,b,c,e,f,x,j,k⟩
   |6=>⟨a,b,c,e,f,h,x,k⟩
   |_=>⟨a,b,c,e,f,h,j,x⟩
def t.list {α:Type} (o:t α):List α:= [o.a0,o.kY,o.a2,o.a3,o.a4,o.a5,o.xm,o.xn]
def fN:(d:Nat)->Nat->bq d->aa
 |0,_,a=>a
 |d+1,b,a=>fN d (b%8^d) (t.get a (b/8^d))
def eK:(d:Nat)->Nat->aa->bq d->bq d
 |0,_,b,_=>b
 |d+1,a,b,c=>t.set c (a/8^d) (eK d (a%8^d) b (t.get c (a/8^d)))
def iT:(d:Nat)->bq d->List aa
 |0,a=> [a]
 |d+1,a=>((t.list a).map (iT d)).flatten
def lP:(d:Nat)->bq d
 |0=>aa.av []
 |d+1=>(⟨lP d,lP d,lP d,lP d,lP d,lP d,lP d,lP d⟩:t (bq d))
def zn {α:Type} (f:List aa->α×List aa) (l:List aa):t α×List aa:=match f l with
 | (a, l) => match f l with
   | (b, l) => match f l with
     | (c, l)=>match f l with
       | (e, l)=>match f l with
         | (h, l)=>match f l with
           | (i,l)=>match f l with
             | (j,l)=>match f l with
               |(k,l)=>(⟨a,b,c,e,h,i,j,k⟩,l)
def eB:(d:Nat)->List aa->bq d×List aa
 |d,[]=>(lP d,[])
 |0,a::l=>(a,l)
 |d+1,a::l=>zn (eB d) (a::l)
inductive b0 (d:Nat) where
  |normal (F:bq d) (H:af) (ds:List (Nat×List aa))
  |exit (id:Nat) (F:bq d) (H:af) (ds:List (Nat×List aa))
  |ret (F:bq d) (H:af) (ds:List (Nat×List aa))
  |aK (v:aa) (F:bq d) (H:af) (ds:List (Nat×List aa))
  |fail
abbrev H (d:Nat):=bq d->aa
abbrev Set (d:Nat):=aa->bq d->(bq d->b0 d)->b0 d
def oK {R:Type} (v:aa) (e:R) (k:aa->R):R:=match v with
 | .W _ _=>e
 |v=>ed v k
inductive cX (d:Nat) where
  |qt (g:H d) (s:Set d)
  |pick (c a b:H d) (s:Set d)
  |un (g:H d) (f:aa->b0 d->(aa->b0 d)->b0 d) (s:Set d)
  |bi (g h:H d) (f:aa->aa->b0 d->(aa->b0 d)->b0 d) (s:Set d)
  |DQ (g:H d) (n:Nat) (cK:Bool) (s:Set d)
  |st (n:Nat) (p v:H d) (dst:Option Nat)
  |call (f:Nat) (args:List (H d)) (s:Option (Set d))
  |Bm (f:H d) (args:List (H d)) (s:Option (Set d))
  |D6 (z:List aa) (i:Nat)
  |A1 (g:H d) (i:Nat)
  |D4 (e:Nat) (z:List aa) (s:Set d)
  |A0 (e:Nat) (g:H d) (s:Set d)
  |gen (gs:List (H d)) (f:List aa->af->bf) (s:Option (Set d))
  |bE (o:Oper)
inductive fo (d:Nat) where
  |nil
  |op (i:cX d) (wk:fo d)
  |B7 (g:H d) (w:Bool) (Z2:Option (Set d)) (i:cX d) (wk:fo d)
  |GO (c:bq d->Bool) (i:cX d) (wk:fo d)
  |B6 (g:H d) (w:Bool) (Z2:Option (Set d)) (c:bq d->Bool) (i:cX d) (wk:fo d)
  |seq (a b:fo d)
  |cond (g:H d) (a b:fo d)
  |block (id:Nat) (a:fo d)
  |loop (a:fo d)
  |exit (id:Nat)
  |ret
  |bE (c:Code)
section
variable (E:Env) (cf:cb) (g:bU) (ad fid:Nat) (d n:Nat)
def r9 (s:Option (Set d)) (v:aa) (F:bq d) (k:bq d->b0 d):b0 d:=match s with
 |some s=>s v F k
 |none=>k F
def zo (v:aa):Bool:=match v with
 | .agg a=>a.all J
 |v=>J v
def ui (F:bq d) (H:af):aa->Option (List aa×Nat×Nat)
 | .b5 a b=>some (a,b,a.length)
 | .ptr id gen b f=>match H.get id with
   |some (.cells _ e _ a)=>if e<=gen then some (a,b,f) else none
   |_=>none
 | .cR c st b=>match Nat.blt c n with
   | true=>match fN d c F with
     | .W h a=>if st=h then some (a,b,a.length) else none
     |_=>none
   |false=>none
 |_=>none
def okF (r:bf) (F:bq d) (s:Option (Set d)) (k:bq d->af->b0 d) (c:aa->af->b0 d):b0 d:=match r with
 | .ok a _ b=>oK a .fail λa=>r9 d s a F λF=>k F b
 | .aK a b=>c a b
 | .fail=> .fail
def zT (dst:Option Nat) (v:aa):Bool:=match dst with
 |some a=>E.loc fid a||(match v with| .W _ _=>false|_=>true)
 |none=>true
def ve (o:Oper) (F:bq d) (H:af) (k:bq d->af->b0 d) (c:aa->af->b0 d):b0 d:=
 match evalOp E cf fid o ((iT d F).take n) H with
 | .ok a b H=>match zT E fid o.dst a with
   | true=>match cH E fid o.dst a b with
     |some b=>k (eB d b).1 H
     |none=> .fail
   |false=> .fail
 | .aK a H=>c a H
 | .fail=> .fail
def Mi (b st off:Nat) (vs:List aa) (F:bq d) (k:bq d->b0 d):b0 d:=match Nat.blt b n with
 | true=>match fN d b F with
   | .W e c=>if st=e then (match cB c off vs with
    |some a=>w a λa=>k (eK d b (.W st a) F)
    |none=> .fail) else .fail
   |_=> .fail
 |false=> .fail
def Hy (m:Nat) (p v:aa) (F:bq d) (H:af) (k:bq d->af->b0 d):b0 d:=
 match Nat.beq v.cells.length m&&v.cells.all J with
 | true=>match p with
   | .ptr id gen a b=>match hD id gen a b m v.cells [] H with
     | .ok _ _ H=>k F H
     |_=> .fail
   | .cR c st a=>Mi d n c st a v.cells F λF=>k F H
   |_=> .fail
 |false=> .fail
def xU (z:List aa) (i:Nat) (F:bq d) (k:bq d->b0 d):b0 d:=match fN d i F with
 | .W a _=>bC (a+1) λa=>k (eK d i (.W a z) F)
 |_=>k (eK d i (.W 0 z) F)
abbrev jC (d:Nat):=bq d->af->(bq d->af->b0 d)->(aa->af->b0 d)->b0 d
def ab8 (g:H d) (s:Set d):jC d:=λa b c _=>s (g a) a λa=>c a b
def w5 (c a b:H d) (s:Set d):jC d:=λe f h _=>match c e with
 | .bool i=>match i with
   |true=>s (a e) e λe=>h e f
   |false=>s (b e) e λe=>h e f
 |_=> .fail
def acb (g:H d) (f:aa->b0 d->(aa->b0 d)->b0 d) (s:Set d):jC d:=λa b c _=>f (g a) .fail λe=>s e a λa=>c a b
def ab4 (g c:H d) (f:aa->aa->b0 d->(aa->b0 d)->b0 d) (s:Set d):jC d:=λa b e _=>f (g a) (c a) .fail λh=>s h a λa=>e a b
def w4 (g:H d) (m:Nat) (cK:Bool) (s:Set d):jC d:=λa c e _=>match jY m cK (ui d n a c (g a)) with
 |some b=>oK b .fail λb=>s b a λa=>e a c
 |none=> .fail
def w6 (m:Nat) (p v:H d) (dst:Option Nat):jC d:=λa b c _=>Hy d n m (p a) (v a) a b λa b=>match dst with
 |none=>c a b
 |some _=> .fail
def ab5 (f:Nat) (args:List (H d)) (s:Option (Set d)):jC d:=λa b e h=>okF d (w (args.map λc=>c a) λargs=>az E cf f args b []) a s e h
def ab6 (f:H d) (args:List (H d)) (s:Option (Set d)):jC d:=λa b e h=>okF d (cx E cf (f a) (args.map λc=>c a) b []) a s e h
def ab7 (h:List (H d)) (f:List aa->af->bf) (s:Option (Set d)):jC d:=λa b i j=>okF d (w (h.map λe=>e a) λc=>f c b) a s i j
def aca (z:List aa) (i:Nat):jC d:=λa b c _=>xU d z i a λa=>c a b
def w3 (g:H d) (i:Nat):jC d:=λa b c _=>match zo (g a) with
 |true=>w (g a).cells λe=>xU d e i a λa=>c a b
 |false=> .fail
def ab9 (e:Nat) (z:List aa) (s:Set d):jC d:=λb a c _=>bC (q e) λe=>s (.ptr a.n e 0 z.length) b λb=>ep (a.push (.cells e e 0 z)) λa=>c b a
def w2 (e:Nat) (g:H d) (s:Set d):jC d:=λa b f _=>match zo (g a) with
 |true=>w (g a).cells λc=>bC (q e) λe=>ed (.ptr b.n e 0 c.length) λh=>s h a λa=>ep (b.push (.cells e e 0 c)) λb=>f a b
 |false=> .fail
noncomputable def exec (i:cX d):jC d:=
 cX.rec (motive:=λ_=>jC d) (ab8 d) (w5 d) (acb d) (ab4 d) (w4 d n) (w6 d n) (ab5 E cf d) (ab6 E cf d) (aca d) (w3 d) (ab9 d) (w2 d) (ab7 d) (ve E cf fid d n) i
noncomputable def vI (e:bq d->af->List (Nat×List aa)->b0 d) (m:Nat):bq d->af->List (Nat×List aa)->b0 d:=
 Nat.rec (motive:=λ_=>bq d->af->List (Nat×List aa)->b0 d) (λ_ _ _=> .fail)
  (λ_ f a b c=>match e a b c with
   | .normal a b c=>f a b c
   |r=>r) m
def sR (tm:List aa):Bool:=Nat.beq tm.length n&&(List.range n).all λa=>E.loc fid a||(match M tm a with| .W _ _=>false|_=>true)
def tY (r:bP):b0 d:=match r with
 | .normal a b c=>match sR E fid n a with
   |true=> .normal (eB d a).1 b c
   |false=> .fail
 | .exit id a b c=>match sR E fid n a with
   |true=> .exit id (eB d a).1 b c
   |false=> .fail
 | .ret a b c=>match sR E fid n a with
   |true=> .ret (eB d a).1 b c
   |false=> .fail
 | .aK e a b c=>match sR E fid n a with
   |true=> .aK e (eB d a).1 b c
   |false=> .fail
 | .fail=> .fail
abbrev RunT (d:Nat):=bq d->af->List (Nat×List aa)->b0 d
noncomputable def YR (i:cX d) (f:RunT d):RunT d:=λa b c=>exec E cf fid d n i a b (λa b=>f a b c) (λh e=> .aK h a e c)
noncomputable def YQ (g:H d) (w:Bool) (h:Option (Set d)) (i:cX d) (e:RunT d):RunT d:=λa b c=>match lb (g a) w with
 |some true=>exec E cf fid d n i a b (λa b=>e a b c) (λj f=> .aK j a f c)
 |some false=>r9 d h (.av []) a λa=>e a b c
 |none=> .fail
noncomputable def YO (c:bq d->Bool) (i:cX d) (f:RunT d):RunT d:=λa b e=>match c a with
 |true=>exec E cf fid d n i a b (λa b=>f a b e) (λ_ _=> .fail)
 |false=> .fail
noncomputable def YP (g:H d) (w:Bool) (h:Option (Set d)) (c:bq d->Bool) (i:cX d) (f:RunT d):RunT d:=λa b e=>match lb (g a) w with
 | some true=>match c a with
   |true=>exec E cf fid d n i a b (λa b=>f a b e) (λ_ _=> .fail)
   |false=> .fail
 |some false=>r9 d h (.av []) a λa=>f a b e
 |none=> .fail
def YS (e f:RunT d):RunT d:=λa b c=>match e a b c with
 | .normal a b c=>f a b c
 |r=>r
def YN (g:H d) (f h:RunT d):RunT d:=λa b c=>match g a with
 | .bool e=>match e with
   |true=>f a b c
   |false=>h a b c
 |_=> .fail
def YM (id:Nat) (f:RunT d):RunT d:=λa b c=>match f a b c with
 | .exit e a b c=>match Nat.beq e id with
   |true=> .normal a b c
   |false=> .exit e a b c
 |r=>r
noncomputable def dZ (c:fo d):RunT d:=
 fo.rec (motive:=λ_=>RunT d) (λa b e=> .normal a b e) (λf _ i=>YR E cf fid d n f i) (λj m l f _ i=>YQ E cf fid d n j m l f i)
  (λc f _ i=>YO E cf fid d n c f i) (λj m l c f _ i=>YP E cf fid d n j m l c f i) (λ_ _ h k=>YS d h k) (λj _ _ h k=>YN d j h k)
  (λid _ h=>YM d id h) (λ_ h=>vI d h ad) (λid a b e=> .exit id a b e) (λa b e=> .ret a b e)
  (λc a b e=>tY E fid d n (evalCode E cf g ad fid c ((iT d a).take n) b e)) c
end
section
variable {R:Type}
def x3 (x:aa) (e:R) (k:aa->R):R:=match x with
 | .dz=>e
 | .dj=>e
 | .eA=>e
 | .bad=>e
 | .W _ _=>e
 | .fn a b c=>match a with
   | .func _=>k (.fn a b c)
   |_=>e
 |v=>k v
def x2 (x:aa) (e:R) (k:aa->R):R:=match x with
 | .str a _=>k (.int .i64 (.ofNat a))
 |_=>e
def x1 (x:aa) (e:R) (k:aa->R):R:=match x with
 | .V=>k (.int .i64 (.ofNat 0))
 | .A c _=>bC c.length λb=>k (.int .i64 (.ofNat b))
 | .ref _ _ _ _ a _=>k (.int .i64 (.ofNat a))
 |_=>e
def x4 (x:aa) (e:R) (k:aa->R):R:=match x with
 | .bool a=>match a with
   |true=>k (.bool false)
   |false=>k (.bool true)
 |_=>e
def x6 (op:UnOp) (x:aa) (e:R) (k:aa->R):R:=match nc op x with
 |some a=>oK a e k
 |none=>e
def iF (E:Env) (op:BinOp) (t:Nat) (x y:aa) (e:R) (k:aa->R):R:=match b4 E op t x y with
 |some a=>oK a e k
 |none=>e
def y1 (b:Bool) (k:aa->R):R:=match b with
 |true=>k (.bool true)
 |false=>k (.bool false)
def wV (i:IntKind) (x y:aa) (e:R) (k:Nat->Nat->R):R:=match x,y with
 | .int a (.ofNat b),.int d (.ofNat c)=>match decide (a=d/\a=i) with
   |true=>k b c
   |false=>e
 |_,_=>e
def AQ (E:Env) (t:Nat) (x y:aa) (e:R) (k:aa->R) (a b:Nat):R:=match Nat.blt (a+b) 9223372036854775808 with
 |true=>bC (a+b) λc=>k (.int .i64 (.ofNat c))
 |false=>iF E .add t x y e k
def xq (E:Env) (t:Nat) (x y:aa) (e:R) (k:aa->R):R:=wV .i64 x y (iF E .add t x y e k) (AQ E t x y e k)
def Bv (op:BinOp) (a b:Nat):Option Bool:=match op with
 | .lss=>some (Nat.blt a b)
 | .gtr=>some (Nat.blt b a)
 | .leq=>some (Nat.ble a b)
 | .geq=>some (Nat.ble b a)
 | .eql=>some (Nat.beq a b)
 | .neq=>some (!Nat.beq a b)
 |_=>none
def Bu (op:BinOp) (e:R) (k:aa->R) (a b:Nat):R:=match Bv op a b with
 |some c=>y1 c k
 |none=>e
def kk (E:Env) (i:IntKind) (op:BinOp) (t:Nat) (x y:aa) (e:R) (k:aa->R):R:=wV i x y (iF E op t x y e k) (Bu op e k)
def sZ (E:Env) (op:BinOp) (t:Nat) (x y:aa) (e:R) (k:aa->R):R:=match x,y with
 | .str a b,.str c d=>match op with
   | .eql=>y1 (Nat.beq a c&&Nat.beq b d) k
   | .neq=>y1 (!(Nat.beq a c&&Nat.beq b d)) k
   |_=>iF E op t (.str a b) (.str c d) e k
 |x,y=>iF E op t x y e k
def xY (x i:aa) (e:R) (k:aa->R):R:=match x,i with
 | .str b num,.int _ (.ofNat n)=>match Nat.blt n b with
   |true=>bC (en num n) λa=>k (.int .u8 (.ofNat a))
   |false=>e
 |_,_=>e
def x0 (m:Nat) (x i:aa) (e:R) (k:aa->R):R:=match i with
 | .int _ (.ofNat n)=>match x with
   | .A h _=>match h[n]? with
     | some b=>match Nat.beq b.length m with
       |true=>k (.b5 b 0)
       |false=>e
     |none=>e
   | .ref id gen g f d _=>match Nat.beq m f&&Nat.blt n d with
     |true=>bC (g+n*m) λa=>bC (a+m) λc=>k (.ptr id gen a c)
     |false=>e
   |_=>e
 |_=>e
def xZ (len m:Nat) (x i:aa) (e:R) (k:aa->R):R:=match i with
 | .int _ (.ofNat n)=>match Nat.blt n len with
   | true=>match gT x (n*m) with
     |some a=>oK a e k
     |none=>e
   |false=>e
 |_=>e
def xV (n:Nat) (x:aa) (e:R) (k:aa->R):R:=match x with
 | .b5 c b=>bC (b+n) λa=>k (.b5 c a)
 | .ptr id gen b d=>bC (b+n) λa=>k (.ptr id gen a d)
 | .cR f st b=>bC (b+n) λa=>k (.cR f st a)
 |_=>e
def xW (i:IntKind) (x:aa) (e:R) (k:aa->R):R:=match x with
 | .int _ a=>h1 (i.wrap a) λa=>k (.int i a)
 |_=>e
def xX (i:Nat) (x:aa) (e:R) (k:aa->R):R:=match x with
 | .av b=>match b[i]? with
   |some a=>oK a e k
   |none=>e
 |_=>e
end
def uS (el k i:Nat) (p:Option (List aa×Nat)) (s:aa) (H:af):Option (aa×af):=
 if 0 < k /\i<=4096 then
  match p with
  | some (_,0)=>match s with
    | .V=>some (s,H)
    | .A _ _=>some (s,H)
    | .ref _ _ _ _ _ _=>some (s,H)
    |_=>none
  | some (h,n)=>
    if h.all J=true then
    match s with
    | .V=>if n*(i+1)<=b7 then w h λa=>bC (q el) λb=>ed (.ref H.n b 0 k n false) λe=>ep (H.push (.cells b b 0 a)) λH=>some (e,H) else none
    | .A l true=>if (l.length+n)*(i+1)<=b7/\l.all (λt=>t.length==k)=true then
     w (l.flatten++h) λa=>ed (.ref H.n 0 0 k (l.length+n) false) λe=>ep (H.push (.cells 0 0 0 a)) λH=>some (e,H) else none
    | .ref id gen f c d o=>match H.get id with
      | some (.cells b m j g)=>
        if c=k/\(d+n)*(i+1)<=b7/\m<=gen then
         if o then
          match sub g f (d*c) with
          |some r=>w (r++h) λa=>ed (.ref H.n 0 0 c (d+n) false) λe=>ep (H.push (.cells 0 0 0 a)) λH=>some (e,H)
          |none=>none
         else if gen=b/\f+d*c=g.length/\j<=g.length/\m_ b el=true then
          w (g++h) λa=>ed (.ref id (gen+1) f c (d+n) false) λe=>bC (gen+1) λb=>ep (H.set id (.cells b m j a)) λH=>some (e,H)
         else if gen=b/\j<=f+d*c/\f+(d+n)*c<=g.length then
          match cB g (f+d*c) h with
          |some a=>w a λa=>ed (.ref id gen f c (d+n) false) λe=>ep (H.set id (.cells b gen j a)) λH=>some (e,H)
          |none=>none
         else none
        else none
      |_=>none
    |_=>none
    else none
  |none=>none
 else none
def R3 (el k a:Nat) (args:List aa) (H:af):bf:=match args with
 | [b,c]=>ha (uS el k a (e4 k H c) b H) []
 |_=> .fail
def ri:List aa->List (Nat×Nat)->List aa->Option (List aa)
 |cells,[],_=>some cells
 |_,_::_,[]=>none
 | cells,(c,d)::gm,b::vs=>match Nat.beq b.cells.length d&&b.cells.all J with
   | true=>match cB cells c b.cells with
     |some a=>w a λa=>ri a gm vs
     |none=>none
   |false=>none
def HV (z:List aa) (b:List (Nat×Nat)) (args:List aa) (H:af):bf:=match ri z b args with
 |some a=> .ok (.agg a) [] H
 |none=> .fail
def HW (z:List aa) (k len:Nat) (b:List (Nat×Nat)) (args:List aa) (H:af):bf:=match ri z b args with
 | some a=>match cD (aZ bR) a H with
   |some (a,H)=>re (chunk k len a) λc=> .ok (.A c true) [] H
   |none=> .fail
 |none=> .fail
def uW (b:Bool) (args:List aa):Option aa×List aa:=match b with
 | true=>match args with
   |a::l=>(some a,l)
   | []=>(none,[])
 |false=>(none,args)
def zR (e:Nat) (x:aa) (lo b mx:Option aa):Option aa:=match x with
 | .V=>zS lo b mx
 | .A d a=>match r7 e d with
   |true=>qJ d a lo b mx
   |false=>none
 | .ref id gen g c f a=>match Nat.beq e c with
   |true=>l4 id gen g c f a lo b mx
   |false=>none
 |_=>none
def zQ (k:Nat) (x:aa) (lo g mx:Option aa) (H:af):Option aa:=match x,mx with
 | .ref id gen d a h false,none=>match ey 0 lo,ey h g,H.get id with
   |some c,some b,some (.cells f _ _ e)=>if k=a/\gen=f/\c<b/\d+b*a<=e.length then bC (d+c*a) λj=>bC (b-c) λi=>some (.ref id gen j a i false) else none
   |_,_,_=>none
 |_,_=>none
def H3 (l b:Bool) (args:List aa) (H:af):bf:=match args with
 | f ::a=>match uW l a with
   | (e,a)=>match uW b a with
     | (c,_)=>match f with
       | .str d num=>bb (m8 d num e c none) [] H
       |_=> .fail
 | []=> .fail
def H2 (e:Nat) (l g m:Bool) (args:List aa) (H:af):bf:=match args with
 | f ::a=>match uW l a with
   | (c,a)=>match uW g a with
     | (b,a)=>match uW m a with
       |(d,_)=>bb (kL (zR e f c b d) (zQ e f c b d H)) [] H
 | []=> .fail
def HT (E:Env) (b:Builtin) (a:List Nat) (args:List aa) (H:af):bf:=hy E b a args [] H
def R8 (E:Env) (t f:Nat) (args:List aa) (H:af):bf:=match args with
 | [a]=>bb (pR E t a f) [] H
 |_=> .fail
def R7 (E:Env) (s d:Nat) (args:List aa) (H:af):bf:=match args with
 | [a]=>bb (jg E s d a H) [] H
 |_=> .fail
def R_ (E:Env) (t:Nat) (ok:Bool) (args:List aa) (H:af):bf:=match args with
 | [b,a]=>bb (iM E t b a ok H) [] H
 |_=> .fail
def H7 (E:Env) (t:Nat) (args:List aa) (H:af):bf:=match args with
 | [b,a,c]=>ih E t b a c [] H
 |_=> .fail
def Sa (E:Env) (t:Nat) (args:List aa) (H:af):bf:=match args with
 | [b,a]=>mX E t b a [] H
 |_=> .fail
def R9 (E:Env) (t:Nat) (args:List aa) (H:af):bf:=match args with
 | [a]=>n5 t (aW E t) a [] H
 |_=> .fail
def R4 (E:Env) (c a:Nat) (ok:Bool) (args:List aa) (H:af):bf:=match args with
 | [b]=>bb (sD E b c a ok) [] H
 |_=> .fail
def HY (E:Env) (f:Fn) (a:Nat) (args:List aa) (H:af):bf:=lu E f (args.take a) (args.drop a) [] H
def Sb (_:List aa) (H:af):bf:=qw [] H
def s9 (d:Nat) (v:aa):H d:=λ_=>v
def B0 (d i:Nat):H d:=λa=>match fN d i a with
 | .W b _=> .cR i b 0
 |v=>v
inductive nh (d:Nat) where
  |tmp (g:H d)
  |cell (g:H d) (m:Nat) (cK:Bool)
structure xc where
  d:Nat
  n:Nat
  code:fo d
  res:List (nh d)
section
variable (E:Env) (cf:cb) (g:bU) (ad:Nat)
def oa (d n:Nat) (F:bq d) (H:af):List (nh d)->List aa->Option (List aa)
 | [],a=>some a.reverse
 | .tmp b::rs,a=>oa d n F H rs (b F::a)
 | .cell b f e::rs,a=>match jY f e (ui d n F H (b F)) with
   |some c=>ed c λc=>oa d n F H rs (c::a)
   |none=>none
def rW (vs:Option (List aa)) (H:af):cY:=match vs with
 | some vs=>match vs with
   | [a]=>match aD a with
     |true=> .ret a H
     |false=> .fail
   | vs=>match vs.all aD with
     |true=>w vs λvs=> .ret (.av vs) H
     |false=> .fail
 |none=> .fail
def AP (d n:Nat):b0 d->bP
 | .normal a b c=> .normal ((iT d a).take n) b c
 | .exit id a b c=> .exit id ((iT d a).take n) b c
 | .ret a b c=> .ret ((iT d a).take n) b c
 | .aK e a b c=> .aK e ((iT d a).take n) b c
 | .fail=> .fail
def QU (a:xc) (fn:Func) (r:b0 a.d):cY:=match r with
 | .normal c b []=>rW (oa a.d a.n c b a.res []) b
 | .ret c b []=>rW (oa a.d a.n c b a.res []) b
 | .aK e _ b []=> .aK e b
 |r=>finish E cf g ad fn (AP a.d a.n r)
noncomputable def xP (fid:Nat) (a:xc) (fn:Func) (args:List aa) (H:af):cY:=match Nat.ble args.length a.n&&args.all aD with
 |true=>QU E cf g ad a fn (dZ E cf g ad fid a.d a.n a.code (eB a.d args).1 H [])
 |false=> .fail
end
inductive iW where
  |oL (x:xc) (fn:Func)
  |cL (p:List aa->af->cY)
noncomputable def BJ (E:Env) (g:bU) (ad:Nat) (f:Nat) (cf:cb) (args:List aa) (H:af) (x:iW):cY:=match x with
 | .oL x fn=>xP E cf g ad f x fn args H
 | .cL a=>a args H
noncomputable def hJ (E:Env) (g:bU) (ad:Nat) (d:Nat->Option iW) (n:Nat):cb:=
 Nat.rec (motive:=λ_=>cb) (λ_ _ _=> .fail) (λ_ e a c b=>match d a with
  |some f=>BJ E g ad a e c b f
  |none=> .fail) n
def jT:aa->Bool
 | .W _ _=>true
 |_=>false
theorem t.Sf {α:Type} (o:t α) (i:Nat) (a:i<8):o.list[i]? =some (o.get i):=by
 match i,a with
 |0,_|1,_|2,_|3,_|4,_|5,_|6,_|7,_=>rfl
theorem t.ZZ {α:Type} (o:t α) (i j:Nat) (x:α) (a:i<8) (b:j<8):(o.set i x).get j=if i=j then x else o.get j:=by
 match i,a with
 |0,_|1,_|2,_|3,_|4,_|5,_|6,_|7,_=>match j,b with|0,_|1,_|2,_|3,_|4,_|5,_|6,_|7,_=>rfl
def RR {α β:Type} (f:α->List β) (m:Nat) (c:0<m): ∀(l:List α),(∀x,x∈l->(f x).length=m)-> ∀i,(l.map f).flatten[i]? =(l[i/m]?).bind λx=>(f x)[i%m]? :=by
 intro l
 induction l with
 |nil=>simp
 | cons x l h=>
   intro b i;have e:=b x ai;simp only [fS,iJ];rw [kC,e];by_cases a:i<m
   . rw [if_pos a,aiJ a,tE a];simp
   . rw [if_neg a,h (λj g=>b j (by simp [g]))];have k:i/m=(i-m)/m+1:=by rw [<-Nat.sub_add_cancel (Nat.le_of_not_lt a)];rw [Nat.add_div_right _ c];simp
     have o:i%m=(i-m)%m:=by rw [<-Nat.sub_add_cancel (Nat.le_of_not_lt a)];simp
     grind
def E7: ∀(d:Nat) (F:bq d),(iT d F).length=8^d
 |0,F=>rfl
 |d+1,F=>by simp only [iT,t.list,fS,rG,iJ,CW,bD,E7 d,h5];omega
def My: ∀(d:Nat) (F:bq d) (i:Nat),i<8^d->(iT d F)[i]? =some (fN d i F)
 |0,F,i,b=>by have:i=0:=ab;subst this;rfl
 | d+1,F,i,b=>by
   have a:0<8^d:=ab;have c:i/8^d<8:=by rw [yV a];omega
   simp only [iT,fN];rw [RR (iT d) (8^d) a _ (λe _=>E7 d e),t.Sf _ _ c];simp only [nT];exact My d _ _ ab
def B1 : ∀(d:Nat) (F:bq d) (i j:Nat) (v:aa),i<8^d->j<8^d->fN d j (eK d i v F)=if i=j then v else fN d j F
 |0,F,i,j,v,g,k=>by have e:i=0:=ab;have f:j=0:=ab;subst e;subst f;simp [fN,eK]
 | d + 1,F,i,j,v,g,k=>by
   have b:0<8^d:=ab;have h:i/8^d<8:=by rw [yV b];omega
   have l:j/8^d<8:=by rw [yV b];omega
   simp only [fN,eK];rw [t.ZZ _ _ _ _ h l];by_cases a:i/8^d=j/8^d
   . rw [if_pos a,B1 d _ _ _ _ ab ab,a];by_cases c:i%8^d=j%8^d
     . have:i=j:=by rw [<-yU i (8^d),<-yU j (8^d),a,c]
       grind
     grind
   grind
def aR (d n:Nat) (F:bq d):List aa:=(iT d F).take n
section
variable {d n:Nat} (mF:n<=8^d)
include mF in
theorem vh (F:bq d):(aR d n F).length=n:=by simp [aR,E7];omega
include mF in
theorem x9 (F:bq d) {i:Nat} (a8:i<n):(aR d n F)[i]? =some (fN d i F):=by rw [aR,CX,if_pos a8,My d F i ab]
include mF in
theorem nG (F:bq d) {i:Nat} (a8:i<n):M (aR d n F) i=fN d i F:=by rw [k9,x9 mF F a8];rfl
include mF in
theorem BW (F:bq d) {i:Nat} (a8:i<n) (v:aa):aR d n (eK d i v F)=r (aR d n F) i v:=by
 refine CT λj=> ?_;rw [hW,vh mF];by_cases gE:j<n
 . rw [x9 mF _ gE,B1 d F i j v ab ab,x9 mF F gE]
   grind
 . rw [vQ (by rw [vh mF];omega)];rw [if_neg ab,vQ (by rw [vh mF];omega)]
theorem HE: ∀d,iT d (lP d)=List.replicate (8^d) (.av [])
 |0=>rfl
 | d+1=>by
   simp only [iT,lP,t.list,fS,rG,iJ,CW,HE d,fw,List.replicate_append_replicate]
   grind
def pad (p:Nat) (l:List aa):List aa:=l.take p++List.replicate (p-l.length) (.av [])
theorem Yk (a b:Nat) (l:List aa):pad (a+b) l=pad a l++pad b (l.drop a):=by
 unfold pad;rw [List.take_add];by_cases c:l.length<=a
 . rw [CR c];simp only [List.take_nil,a6,h5,fw,fu,List.replicate_append_replicate]
   grind
 . have:a-l.length=0:=ab
   grind
theorem Xd {α:Type} {f:List aa->α×List aa} {L:α->List aa} {p:Nat} (a: ∀l,L (f l).1=pad p l/\(f l).2=l.drop p) (l:List aa):
  ((t.list (zn f l).1).map L).flatten=pad (8*p) l/\(zn f l).2=l.drop (8*p):=by
 unfold zn;rcases m:f l with ⟨F,x⟩;rcases o:f x with ⟨G,y⟩;rcases q:f y with ⟨H,z⟩;rcases r:f z with ⟨I,A⟩;rcases s:f A with ⟨J,B⟩;rcases u:f B with ⟨K,C⟩;rcases v:f C with ⟨M,D⟩;rcases w:f D with ⟨N,O⟩;simp only [m,o,q,r,s,u,v,w];have b:=a l;rw [m] at b;have c:=a x;rw [o] at c;have e:=a y;rw [q] at e;have g:=a z;rw [r] at g;have h:=a A;rw [s] at h;have i:=a B;rw [u] at i;have j:=a C;rw [v] at j;have k:=a D;rw [w] at k;simp only at b c e g h i j k|-;obtain ⟨b,rfl⟩:=b;obtain ⟨c,rfl⟩:=c;obtain ⟨e,rfl⟩:=e;obtain ⟨g,rfl⟩:=g;obtain ⟨h,rfl⟩:=h;obtain ⟨i,rfl⟩:=i;obtain ⟨j,rfl⟩:=j;obtain ⟨k,rfl⟩:=k;simp only [t.list,fS,rG,iJ,CW,fw,b,c,e,g,h,i,j,k];have E:8*p=p+(p+(p+(p+(p+(p+(p+p)))))):=ab;rw [E];refine ⟨?_,by simp only [qi,rJ]⟩;simp only [Yk p,qi,rJ]
theorem Kp: ∀(d:Nat) (l:List aa),iT d (eB d l).1=pad (8^d) l/\(eB d l).2=l.drop (8^d)
 | d,[]=>by
   have:eB d []=(lP d,[]):=by cases d<;>rfl
   rw [this,HE];simp [pad]
 |0,a::l=>by simp [eB,iT,pad]
 |d+1,a::l=>by have:=Xd (Kp d) (a::l);rw [rL,rK];exact this
include mF in
theorem BV {l:List aa} (h:l.length<=n):aR d n (eB d l).1=l++List.replicate (n-l.length) (.av []):=by
 have e:l.take (8^d)=l:=fT ab;rw [aR,(Kp d l).1,pad,e,List.take_append,fT h]
 grind
end
def oC {R:Type} (f:aa->R->(aa->R)->R) (spec:aa->Option aa):Prop:= ∀d a b,f d a b=a\/ ∃c,spec d=some c/\jT c=false/\f d a b=b c
def oi {R:Type} (f:aa->aa->R->(aa->R)->R) (spec:aa->aa->Option aa):Prop:= ∀d e a b,f d e a b=a\/ ∃c,spec d e=some c/\jT c=false/\f d e a b=b c
def s4 {R:Type} (v:aa) (e:R) (k:aa->R):oK v e k=e\/(jT v=false/\oK v e k=k v):=by
 cases v<;>first|exact .inl rfl|exact .inr ⟨rfl,by simp [oK]⟩
theorem Dc {R:Type} (b:Bool) (k:aa->R):y1 b k=k (.bool b):=by cases b<;>rfl
section
variable {R:Type}
def zl (x:aa):Option aa:=match x with
 | .dz=>none
 | .dj=>none
 | .eA=>none
 | .bad=>none
 | .fn (.func c) a b=>some (.fn (.func c) a b)
 | .fn _ _ _=>none
 |v=>some v
theorem XP (x:aa) (tm:List aa) (H:af):j1 x tm H=bb (zl x) tm H:=by unfold j1 zl;split<;>first|rfl|(split<;>first|rfl|simp_all)
theorem Rw:oC (R:=R) x3 zl:=by
 intro a b i;unfold x3;split<;>first
  |exact .inl rfl
  | (split
     . exact .inr ⟨_,rfl,rfl,rfl⟩
     simp)
  | (rename_i c d e f g h
     refine .inr ⟨_,?_,?_,rfl⟩
     . cases a<;>first|rfl|simp_all
     . cases a<;>first|rfl|simp_all)
theorem Rx:oC (R:=R) x4 (nc .not):=by
 intro c a b;unfold x4;split
 . split<;>exact .inr ⟨_,rfl,rfl,rfl⟩
 simp
theorem Ry (op:UnOp):oC (R:=R) (x6 op) (nc op):=by
 intro g a c;unfold x6;split
 . rename_i d e;rcases s4 d a c with b|⟨b,f⟩
   all_goals grind
 simp
theorem oJ (E:Env) (op:BinOp) (t:Nat):oi (R:=R) (iF E op t) (b4 E op t):=by
 intro g h a c;unfold iF;split
 . rename_i d e;rcases s4 d a c with b|⟨b,f⟩
   all_goals grind
 simp
theorem MC {i:IntKind} {x y:aa} {e:R} {k:Nat->Nat->R}:wV i x y e k=e\/ ∃a b,x= .int i (.ofNat a)/\y= .int i (.ofNat b)/\wV i x y e k=k a b:=by
 unfold wV;split
 all_goals grind
theorem ab3 {m:Nat} (a:m<9223372036854775808):IntKind.i64.wrap (Int.ofNat m)=Int.ofNat m:=by rw [IntKind.wrap_i64];grind
theorem N9 (E:Env) (t:Nat):oi (R:=R) (xq E t) (b4 E .add t):=by
 intro c d a b;unfold xq;rcases MC (i:= .i64) (x:=c) (y:=d) (e:=iF E .add t c d a b) (k:=AQ E t c d a b) with h|⟨f,g,rfl,rfl,h⟩
 . rw [h];exact oJ E .add t c d a b
 . rw [h];unfold AQ;split
   . rename_i j;have j:f+g<9223372036854775808:=er j;refine .inr ⟨_,?_,rfl,by rw [c1]⟩;simp only [b4,jb,if_true,kh,pQ];rw [show Int.ofNat f+Int.ofNat g=Int.ofNat (f+g) from rfl,ab3 j]
   . exact oJ E .add t _ _ a b
theorem Qi (E:Env) (i:IntKind) (op:BinOp) (t:Nat) (a b:Nat) (c:Bool) (d:Bv op a b=some c):b4 E op t (.int i (.ofNat a)) (.int i (.ofNat b))=some (.bool c):=by
 cases op<;>simp only [Bv,N,reduceCtorEq] at d<;>subst d<;>simp only [b4,jb,if_true,kh,mz,N,aa.bool.injEq]
 . rw [jU,beq_iff_eq];simp;omega
 . rw [jU];simp [<-Bool.not_eq_true,lU];omega
 . rw [jU,decide_eq_true_eq];simp
 . rw [jU,decide_eq_true_eq];simp
 . rw [jU,decide_eq_true_eq];simp
 . rw [jU,decide_eq_true_eq];simp
theorem sT (E:Env) (i:IntKind) (op:BinOp) (t:Nat):oi (R:=R) (kk E i op t) (b4 E op t):=by
 intro d f a c;unfold kk;rcases MC (i:=i) (x:=d) (y:=f) (e:=iF E op t d f a c) (k:=Bu op a c) with b|⟨g,h,rfl,rfl,b⟩
 . rw [b];exact oJ E op t d f a c
 . rw [b];unfold Bu;split
   . rename_i j l;exact .inr ⟨_,Qi E i op t g h j l,rfl,Dc _ _⟩
   simp
theorem Gc (a b:Nat):(a==b)=Nat.beq a b:=by rw [jU,beq_iff_eq,lU]
theorem Hh (E:Env) (op:BinOp) (t:Nat):oi (R:=R) (sZ E op t) (b4 E op t):=by
 intro g h a b;unfold sZ;split
 . rename_i c d e f;split
   . refine .inr ⟨_,?_,rfl,Dc _ _⟩;simp only [b4,mn,mz,Gc]
   . refine .inr ⟨_,?_,rfl,Dc _ _⟩;simp only [b4,mn,mz,Gc]
   . exact oJ E _ t _ _ a b
 . exact oJ E op t _ _ a b
theorem Rr (E:Env) {t:Nat} (a:aW E t=some .string):oi (R:=R) xY (oU E t):=by
 intro i d b e;unfold xY;split
 . rename_i g num f h;split
   . rename_i c;refine .inr ⟨_,?_,rfl,by rw [c1]⟩;simp only [oU,a,k1]
     simp_all
   simp
 simp
theorem Rt (E:Env) {t el m:Nat} (a:aW E t=some (.slice el)) (c:bZ E el=some m):oi (R:=R) (x0 m) (jR E t):=by
 intro r h f i;unfold x0;split
 . rename_i j n;split
   . rename_i q d;split
     . rename_i p e;split
       . rename_i b;refine .inr ⟨_,?_,rfl,rfl⟩;simp only [jR,a,c,k1,e]
         simp_all
       simp
     simp
   . rename_i id g o l k d;split
     . rename_i b;simp only [br] at b;refine .inr ⟨_,?_,rfl,by rw [c1,c1]⟩;simp only [jR,a,c,k1]
       simp_all
     simp
   simp
 simp
theorem Rs (E:Env) {t len el m:Nat} (d:aW E t=some (.array len el)) (f:bZ E el=some m):oi (R:=R) (xZ len m) (jR E t):=by
 intro n j c g;unfold xZ;split
 . rename_i k l;split
   . rename_i h;split
     . rename_i b i;rcases s4 b c g with a|⟨a,e⟩
       . grind
       . refine .inr ⟨b,?_,a,e⟩;simp only [jR,d,f,k1]
         simp_all
     simp
   simp
 simp
theorem Ro (E:Env) {s f:Nat} {b:Array Field} {a:Field} {m:Nat} (d:aW E s=some (.struct b)) (e:b[f]? =some a) (g:bZ E a.type=some (m+1)):
  oC (R:=R) (xV a.offset) (λx=>jh E s x f):=by
 intro x h i;have c:jh E s x f=gT x a.offset:=by simp only [jh,d,e,g]
 simp only [c];unfold xV gT;cases x<;>first|exact .inl rfl|exact .inr ⟨_,by simp only [c1];rfl,rfl,ai⟩
theorem Rp (E:Env) {s d:Nat} {i:IntKind} {c:TypeDesc} (b:aW E s=some c) (a:aW E d=some (.int i)) (H:af):oC (R:=R) (xW i) (λx=>jg E s d x H):=by
 intro x e f;unfold xW;split
 . rename_i g h;refine .inr ⟨_,?_,rfl,by rw [pQ]⟩;simp only [jg,b,a,pQ]
 simp
def vf (i:Nat) (x:aa):Option aa:=match x with
 | .av a=>a[i]?
 |_=>none
theorem XF (x:aa) (i:Nat) (tm:List aa) (H:af):lX x i tm H=bb (vf i x) tm H:=by unfold lX vf;cases x<;>rfl
theorem Rq (i:Nat):oC (R:=R) (xX i) (vf i):=by
 intro h a c;unfold xX vf;split
 . rename_i g
   try simp only
   split
   . rename_i d f;rcases s4 d a c with b|⟨b,e⟩
     all_goals grind
   simp
 simp
theorem Rv (E:Env) {t:Nat} (a:aW E t=some .string) (H:af):oC (R:=R) x2 (λx=>fE E t x H):=by
 intro x b c;unfold x2;split
 . refine .inr ⟨_,?_,rfl,rfl⟩;simp only [fE,a]
 simp
theorem Ru (E:Env) {t el:Nat} (a:aW E t=some (.slice el)) (H:af):oC (R:=R) x1 (λx=>fE E t x H):=by
 intro x b c;unfold x1;split
 . exact .inr ⟨_,by simp only [fE,a],rfl,rfl⟩
 . exact .inr ⟨_,by simp only [fE,a,c1];rfl,rfl,ai⟩
 . exact .inr ⟨_,by simp only [fE,a],rfl,rfl⟩
 simp
end
structure kc (d:Nat) where
  g:Nat->H d
  s:Nat->Set d
structure du (d n:Nat) (kp:kc d):Prop where
  fit:n<=8^d
  g: ∀i,i<n-> ∀F,kp.g i F=fN d i F
  s: ∀i,i<n-> ∀v F k,kp.s i v F k=k (eK d i v F)
section
variable (E:Env) (fid:Nat) (d n:Nat) (kp:kc d)
def ej (F:bq d):Prop:= ∀a,a<n->E.loc fid a=false->jT (fN d a F)=false
def v (x:Operand):Bool:=match x with
 | .tmp b=>Nat.blt b n
 | .global a=> !jT (E.G a)
 |_=>true
def h (x:Operand):H d:=match x with
 | .tmp a=>match E.loc fid a with
   |true=>B0 d a
   |false=>kp.g a
 | .const e=>s9 d (s 2 e)
 | .global c=>s9 d (E.G c)
 | .func b=>s9 d (.fn (.func b) [] [])
variable {E fid d n kp}
theorem Xf (m:Nat) (x:Value):jT (s m x)=false:=by cases m<;>(unfold s;split<;>rfl)
theorem Ep {tm:List aa} {x:Operand} (b:v E n x=true):jT (B E tm x)=false:=by
 cases x with
 |tmp c=>simp only [B];split<;>first|rfl|(rename_i g;cases f:M tm c<;>first|rfl|grind)
 |const h=>exact Xf _ _
 |global a=>show jT (E.G a)=false;simpa [v] using b
 |func e=>rfl
theorem hk (hT:du d n kp) {x:Operand} (f:v E n x=true) {F:bq d} (hF:ej E fid d n F):h E fid d kp x F=B E (aR d n F) x:=by
 cases x with
 | tmp b=>
   have a:b<n:=er f
   cases c:E.loc fid b with
   | true=>
     simp only [h,B,nG hT.fit F a,c,B0]
     grind
   | false=>
     simp only [h,B,nG hT.fit F a,c];rw [hT.g b a];have:=hF b a c;split
     . rename_i l i e;rw [e] at this;cases this
     . rfl
 |const m=>rfl
 |global k=>rfl
 |func j=>rfl
theorem ej.set (hT:du d n kp) {F:bq d} (hF:ej E fid d n F) {i:Nat} (e:i<n) {v:aa} (f:E.loc fid i=false->jT v=false):ej E fid d n (eK d i v F):=by
 intro a b c;rw [B1 d F i a v (by have:=hT.fit;omega) (by have:=hT.fit;omega)];split
 . grind
 . exact hF a b c
section
variable (cf:cb)
def gb (E:Env) (cf:cb) (fid d n:Nat) (i:cX d) (o:Oper):Prop:= ∀(a:bq d) (b:af) (e:bq d->af->b0 d) (f:aa->af->b0 d),ej E fid d n a->
 exec E cf fid d n i a b e f= .fail\/
 (∃g c,ej E fid d n g/\fm E fid o (evalOp E cf fid o (aR d n a) b)=some (aR d n g,c)/\exec E cf fid d n i a b e f=e g c)\/
 ∃h c,evalOp E cf fid o (aR d n a) b= .aK h c/\exec E cf fid d n i a b e f=f h c
variable {cf}
theorem wD (hT:du d n kp) {o:Oper} {i:Nat} (a:o.dst=some i) (b:i<n) (c:E.loc fid i=false) (F:bq d) (v:aa) (H:af):
  fj E fid o.dst v (aR d n F) H=some (aR d n (eK d i v F),H):=by
 unfold fj cH;rw [a];simp only [c,nX,bu,BW hT.fit F b v]
theorem ur (hT:du d n kp) {o:Oper} {i:Nat} (a:o.dst=some i) (b:i<n) (c:E.loc fid i=false) (F:bq d) (v:aa) (H:af) {r:Option aa} (e:r=some v):
  fm E fid o (bb r (aR d n F) H)=some (aR d n (eK d i v F),H):=by
 subst e;simp only [bb,dn,fm];exact wD hT a b c F v H
theorem Hw (hT:du d n kp) {o:Oper} {i:Nat} {x:Operand} (e:o.dst=some i) (b:i<n) (g:E.loc fid i=false) (c:v E n x=true)
  (f: ∀tm H,evalOp E cf fid o tm H=bb (some (B E tm x)) tm H):gb E cf fid d n (.qt (h E fid d kp x) (kp.s i)) o:=by
 intro a H j k hF;refine .inr (.inl ⟨eK d i (B E (aR d n a) x) a,H,hF.set hT b λ_=>Ep c,?_,?_⟩)
 . rw [f];exact ur hT e b g a _ H rfl
 . show kp.s i (h E fid d kp x a) a (λa=>j a H)=_;rw [hT.s i b,hk hT c hF]
theorem pP (hT:du d n kp) {o:Oper} {i:Nat} {x:Operand} {f:aa->b0 d->(aa->b0 d)->b0 d} {spec:af->aa->Option aa} (l:o.dst=some i) (c:i<n) (q:E.loc fid i=false) (r:v E n x=true)
  (m: ∀tm H,evalOp E cf fid o tm H=bb (spec H (B E tm x)) tm H) (p: ∀H,oC f (spec H)):gb E cf fid d n (.un (h E fid d kp x) f (kp.s i)) o:=by
 intro a H g u hF;show (f (h E fid d kp x a) .fail λb=>kp.s i b a λa=>g a H)=_\/_;rcases p H (h E fid d kp x a) .fail (λb=>kp.s i b a λa=>g a H) with t|⟨b,e,j,k⟩
 . grind
 . refine .inr (.inl ⟨eK d i b a,H,hF.set hT c λ_=>j,?_,?_⟩)
   . rw [hk hT r hF] at e;rw [m];exact ur hT l c q a b H e
   . exact k.trans (hT.s i c _ _ _)
theorem xS (hT:du d n kp) {o:Oper} {i:Nat} {x y:Operand} {f:aa->aa->b0 d->(aa->b0 d)->b0 d} {spec:aa->aa->Option aa} (l:o.dst=some i) (c:i<n) (q:E.loc fid i=false) (r:v E n x=true) (t:v E n y=true)
  (m: ∀tm H,evalOp E cf fid o tm H=bb (spec (B E tm x) (B E tm y)) tm H) (p:oi f spec):gb E cf fid d n (.bi (h E fid d kp x) (h E fid d kp y) f (kp.s i)) o:=by
 intro a H g w hF;show (f (h E fid d kp x a) (h E fid d kp y a) .fail λb=>kp.s i b a λa=>g a H)=_\/_;rcases p (h E fid d kp x a) (h E fid d kp y a) .fail (λb=>kp.s i b a λa=>g a H) with u|⟨b,e,j,k⟩
 . grind
 . refine .inr (.inl ⟨eK d i b a,H,hF.set hT c λ_=>j,?_,?_⟩)
   . rw [hk hT r hF,hk hT t hF] at e;rw [m];exact ur hT l c q a b H e
   . exact k.trans (hT.s i c _ _ _)
theorem Rl (hT:du d n kp) {o:Oper} {i:Nat} {c x y:Operand} (j:o.dst=some i) (b:i<n) (l:E.loc fid i=false) (r:v E n c=true) (m:v E n x=true) (p:v E n y=true)
  (k: ∀tm H,evalOp E cf fid o tm H=lY (B E tm c) (B E tm x) (B E tm y) tm H):gb E cf fid d n (.pick (h E fid d kp c) (h E fid d kp x) (h E fid d kp y) (kp.s i)) o:=by
 intro a H e f hF;show w5 d (h E fid d kp c) (h E fid d kp x) (h E fid d kp y) (kp.s i) a H e f=_\/(∃t q,_/\_/\w5 d (h E fid d kp c) (h E fid d kp x) (h E fid d kp y) (kp.s i) a H e f=_)\/ ∃w q,_/\w5 d (h E fid d kp c) (h E fid d kp x) (h E fid d kp y) (kp.s i) a H e f=_;unfold w5;rw [hk hT r hF,hk hT m hF,hk hT p hF];split
 . rename_i u g;split
   . refine .inr (.inl ⟨eK d i (B E (aR d n a) x) a,H,hF.set hT b λ_=>Ep m,?_,hT.s i b _ _ _⟩);rw [k,g];exact ur hT j b l a _ H rfl
   . refine .inr (.inl ⟨eK d i (B E (aR d n a) y) a,H,hF.set hT b λ_=>Ep p,?_,hT.s i b _ _ _⟩);rw [k,g];exact ur hT j b l a _ H rfl
 simp
theorem Lo (c:n<=8^d) {F:bq d} {H:af} {p:aa} {r:List aa×Nat×Nat} (a:ui d n F H p=some r):gq (aR d n F) H p=some r:=by
 unfold ui at a;unfold gq;split at a
 . exact a
 . exact a
 . rename_i f g e;split at a
   . rename_i b;dsimp only;rw [nG c F (er b)];exact a
   grind
 grind
theorem Ri (hT:du d n kp) {o:Oper} {i t m:Nat} {c:TypeDesc} {x:Operand} (r:o.dst=some i) (f:i<n) (w:E.loc fid i=false) (A:v E n x=true)
  (u: ∀tm H,evalOp E cf fid o tm H=bb (dW E t (B E tm x) tm H) tm H) (y:bZ E t=some m) (z:aW E t=some c):gb E cf fid d n (.DQ (h E fid d kp x) m (jS c) (kp.s i)) o:=by
 intro a H e k hF;show w4 d n (h E fid d kp x) m (jS c) (kp.s i) a H e k=_\/(∃C l,_/\_/\w4 d n (h E fid d kp x) m (jS c) (kp.s i) a H e k=_)\/ ∃b l,_/\w4 d n (h E fid d kp x) m (jS c) (kp.s i) a H e k=_;unfold w4;rw [hk hT A hF];split
 . rename_i b j;rcases s4 b .fail (λb=>kp.s i b a λa=>e a H) with D|⟨p,q⟩
   . grind
   . refine .inr (.inl ⟨eK d i b a,H,hF.set hT f λ_=>p,?_,q.trans (hT.s i f _ _ _)⟩);rw [u];refine ur hT r f w a b H ?_;unfold dW;simp only [y,z]
     cases g:ui d n a H (B E (aR d n a) x) with
     |none=>rw [g] at j;cases j
     |some F=>rw [Lo hT.fit g,<-g];exact j
 simp
theorem Rm (hT :du d n kp) {o:Oper} {t m:Nat} {p x:Operand} (A:o.dst=none) (G:v E n p=true) (N:v E n x=true)
  (u: ∀tm H,evalOp E cf fid o tm H=hd E t (B E tm p) (B E tm x) tm H) (D:bZ E t=some m) (T: ∀i st cs,i<n-> ∀F:bq d,fN d i F= .W st cs->ej E fid d n F->E.loc fid i=true):
  gb E cf fid d n (.st m (h E fid d kp p) (h E fid d kp x) none) o:=by
 intro F H l q hF;show w6 d n m (h E fid d kp p) (h E fid d kp x) none F H l q=_\/(∃Q f,_/\_/\w6 d n m (h E fid d kp p) (h E fid d kp x) none F H l q=_)\/ ∃w f,_/\w6 d n m (h E fid d kp p) (h E fid d kp x) none F H l q=_;unfold w6 Hy;rw [hk hT G hF,hk hT N hF];have O: ∀(F:bq d) (H:af),fm E fid o (.ok (.av []) (aR d n F) H)=some (aR d n F,H):=by intro F H;simp only [fm,fj,cH,A]
 split
 . rename_i s;simp only [br] at s;have R:=gk s.1
   have a:hd E t (B E (aR d n F) p) (B E (aR d n F) x) (aR d n F) H=(match B E (aR d n F) p with
     | .ptr id j b r=>hD id j b r m (B E (aR d n F) x).cells (aR d n F) H
     | .cR g st b=>m9 g st b (B E (aR d n F) x).cells (aR d n F) H
     |_=> .fail):=by
    unfold hd;simp only [D];unfold hf;grind
   split
   . rename_i id j b r c;rw [c] at a;simp only at a;have I:=Mh (tm:= []) (L:=aR d n F) (H:=H) id j b r m (B E (aR d n F) x).cells;split
     . rename_i w V f e;refine .inr (.inl ⟨F,f,hF,?_,rfl⟩);rw [u,c,a,I,e];have M:w= .av []:=by
        unfold hD at e;split at e
        . split at e
          . split at e
            all_goals simp_all
          grind
        grind
       subst M;exact O F f
     simp
   . rename_i g P b c;rw [c] at a;simp only at a;unfold Mi;split
     . rename_i z;have k:g<n:=er z;split
       . rename_i U cs C;split
         . rename_i J;split
           . rename_i y K;simp only [bu];refine .inr (.inl ⟨eK d g (.W P y) F,H,hF.set hT k λS=> ?_,?_,rfl⟩)
             . grind
             . rw [u,c,a];unfold m9;rw [nG hT.fit F k,C];simp only;rw [if_pos J,K];simp only [bu];rw [<-BW hT.fit F k]
               grind
           simp
         simp
       simp
     simp
   simp
 simp
end
end
section
variable {E:Env} {cf:cb} {fid d n:Nat} {kp:kc d}
theorem ej.loc {F:bq d} (hF:ej E fid d n F) {i st:Nat} {cs:List aa} (b:i<n) (a:fN d i F= .W st cs):E.loc fid i=true:=by
 cases c:E.loc fid i with
 |true=>rfl
 |false=>have:=hF i b c;rw [a] at this;cases this
theorem pJ (hT:du d n kp) {F:bq d} (hF:ej E fid d n F): ∀(l:List Operand),l.all (v E n)=true->(l.map (h E fid d kp)).map (λg=>g F)=l.map (B E (aR d n F))
 | [],_=>rfl
 |b::l,a=>by simp only [aO,br] at a;simp only [fS,hk hT a.1 hF,pJ hT hF l a.2]
theorem Ej (hT:du d n kp) {o:Oper} {F:bq d} {H:af} {r:bf} {so:Option (Set d)} {k:bq d->af->b0 d} {a:aa->af->b0 d} (hF:ej E fid d n F)
  (l:(∃i,o.dst=some i/\i<n/\E.loc fid i=false/\so=some (kp.s i))\/(o.dst=none/\so=none)) (e:evalOp E cf fid o (aR d n F) H=cE (aR d n F) r):
  okF d r F so k a= .fail\/(∃b H',ej E fid d n b/\fm E fid o (evalOp E cf fid o (aR d n F) H)=some (aR d n b,H')/\okF d r F so k a=k b H')\/
  ∃v H',evalOp E cf fid o (aR d n F) H= .aK v H'/\okF d r F so k a=a v H':=by
 unfold okF;split
 . rename_i v p H';rcases s4 v .fail (λv=>r9 d so v F λF=>k F H') with m|⟨h,g⟩
   . grind
   . rcases l with ⟨i,c,f,j,rfl⟩|⟨c,rfl⟩
     . refine .inr (.inl ⟨eK d i v F,H',hF.set hT f λ_=>h,?_,g.trans (hT.s i f _ _ _)⟩);rw [e];exact wD hT c f j F v H'
     . refine .inr (.inl ⟨F,H',hF,?_,g⟩);rw [e];simp only [cE,fm,fj,cH,c]
 . rename_i v H';exact .inr (.inr ⟨v,H',by rw [e];rfl,rfl⟩)
 simp
theorem Rf (hT:du d n kp) {o:Oper} {c:Call} {f:Nat} {so:Option (Set d)} (p:o.op= .call c) (m:c.callee= .value (.func f)) (l:c.args.toList.all (v E n)=true)
  (q:(∃i,o.dst=some i/\i<n/\E.loc fid i=false/\so=some (kp.s i))\/(o.dst=none/\so=none)):
  gb E cf fid d n (.call f (c.args.toList.map (h E fid d kp)) so) o:=by
 intro a e g j hF;show okF d (w ((c.args.toList.map (h E fid d kp)).map λb=>b a) λargs=>az E cf f args e []) a so g j=_\/(∃r k,_/\_/\okF d (w ((c.args.toList.map (h E fid d kp)).map λb=>b a) λargs=>az E cf f args e []) a so g j=_)\/
  ∃t k,_/\okF d (w ((c.args.toList.map (h E fid d kp)).map λb=>b a) λargs=>az E cf f args e []) a so g j=_
 rw [bu,pJ hT hF _ l];refine Ej hT hF q ?_;unfold evalOp;simp only [p,o7,m,B,cx,a6,fw,bu];exact G4 _ _
theorem Rg (hT:du d n kp) {o:Oper} {c:Call} {x:Operand} {so:Option (Set d)} (m:o.op= .call c) (l:c.callee= .value x) (q:v E n x=true) (k:c.args.toList.all (v E n)=true)
  (p:(∃i,o.dst=some i/\i<n/\E.loc fid i=false/\so=some (kp.s i))\/(o.dst=none/\so=none)):
  gb E cf fid d n (.Bm (h E fid d kp x) (c.args.toList.map (h E fid d kp)) so) o:=by
 intro a e f g hF;show okF d (cx E cf (h E fid d kp x a) ((c.args.toList.map (h E fid d kp)).map λb=>b a) e []) a so f g=_\/(∃r j,_/\_/\okF d (cx E cf (h E fid d kp x a) ((c.args.toList.map (h E fid d kp)).map λb=>b a) e []) a so f g=_)\/
  ∃t j,_/\okF d (cx E cf (h E fid d kp x a) ((c.args.toList.map (h E fid d kp)).map λb=>b a) e []) a so f g=_
 rw [pJ hT hF _ k,hk hT q hF];refine Ej hT hF p ?_;unfold evalOp;simp only [m,o7,l];exact Kx _ _
theorem Hx (hT:du d n kp) {o:Oper} {i:Nat} {F:bq d} {H:af} {z:List aa} {k:bq d->b0 d} (hF:ej E fid d n F) (f:o.dst=some i) (b:i<n) (h:E.loc fid i=true)
  (g:evalOp E cf fid o (aR d n F) H=newLocal i z (aR d n F) H):
  ∃c,ej E fid d n c/\fm E fid o (evalOp E cf fid o (aR d n F) H)=some (aR d n c,H)/\xU d z i F k=k c:=by
 have l: ∀a,fm E fid o (.ok (.W a z) (aR d n F) H)=some (aR d n (eK d i (.W a z) F),H):=by intro a;simp only [fm,fj,cH,f,h,nX,bu,BW hT.fit F b]
 unfold xU;rw [g];unfold newLocal;rw [nG hT.fit F b];split
 . rename_i a j e;refine ⟨eK d i (.W (a+1) z) F,hF.set hT b ah,?_,de⟩;simp only [e,bb,dn];grind
 . rename_i e;refine ⟨eK d i (.W 0 z) F,hF.set hT b ah,?_,ai⟩;simp only [bb,dn];grind
theorem Rk (hT:du d n kp) {o:Oper} {i:Nat} {z:aa} (g:o.dst=some i) (j:i<n) (l:E.loc fid i=true) (m:z.cells.all J=true) {el:Nat}
  (h: ∀tm H,evalOp E cf fid o tm H=fF true (some i) el (some z) tm H):gb E cf fid d n (.D6 z.cells i) o:=by
 intro a H p q hF;obtain ⟨b,c,e,f⟩:=Hx (cf:=cf) (H:=H) (z:=z.cells) (k:=λa=>p a H) hT hF g j l (by rw [h];simp only [fF,m]);exact .inr (.inl ⟨b,H,c,e,f⟩)
theorem Ks (v:aa):zo v=v.cells.all J:=by cases v<;>simp [zo,aa.cells]
theorem Re (hT:du d n kp) {o:Oper} {i:Nat} {x:Operand} (g:o.dst=some i) (l:i<n) (m:E.loc fid i=true) (p:v E n x=true) {el:Nat}
  (j: ∀tm H,evalOp E cf fid o tm H=fF true (some i) el (some (B E tm x)) tm H):gb E cf fid d n (.A1 (h E fid d kp x) i) o:=by
 intro a H b c hF;show w3 d (h E fid d kp x) i a H b c=_\/(∃e f,_/\_/\w3 d (h E fid d kp x) i a H b c=_)\/ ∃u f,_/\w3 d (h E fid d kp x) i a H b c=_;unfold w3;rw [hk hT p hF,Ks];split
 . rename_i q;rw [bu];obtain ⟨e,r,s,t⟩:=Hx (cf:=cf) (H:=H) (z:=(B E (aR d n a) x).cells) (k:=λa=>b a H) hT hF g l m (by rw [j];simp only [fF,q])
   grind
 simp
theorem Rj (hT:du d n kp) {o:Oper} {i:Nat} {z:aa} (e:o.dst=some i) (c:i<n) (g:E.loc fid i=false) (h:z.cells.all J=true) {el:Nat}
  (f: ∀tm H,evalOp E cf fid o tm H=fF false (some i) el (some z) tm H):gb E cf fid d n (.D4 el z.cells (kp.s i)) o:=by
 intro a H j k hF;refine .inr (.inl ⟨eK d i (.ptr H.n (q el) 0 z.cells.length) a,H.push (.cells (q el) (q el) 0 z.cells),hF.set hT c λ_=>rfl,?_,?_⟩)
 . rw [f];simp only [fF,h,o4,c1,dn,bu,c8,fm];exact wD hT e c g a _ _
 . show bC (q el) (λb=>kp.s i (.ptr H.n b 0 z.cells.length) a (λa=>ep (H.push (.cells b b 0 z.cells)) λH=>j a H))=_;rw [c1,hT.s i c,c8]
theorem Rc (hT:du d n kp) {o:Oper} {i:Nat} {x:Operand} (g:o.dst=some i) (b:i<n) (k:E.loc fid i=false) (l:v E n x=true) {el:Nat}
  (j: ∀tm H,evalOp E cf fid o tm H=fF false (some i) el (some (B E tm x)) tm H):gb E cf fid d n (.A0 el (h E fid d kp x) (kp.s i)) o:=by
 intro a H c e hF;show w2 d el (h E fid d kp x) (kp.s i) a H c e=_\/(∃p f,_/\_/\w2 d el (h E fid d kp x) (kp.s i) a H c e=_)\/ ∃q f,_/\w2 d el (h E fid d kp x) (kp.s i) a H c e=_;unfold w2;rw [hk hT l hF,Ks];split
 . rename_i m;simp only [bu,c1,dn,hT.s i b,c8];refine .inr (.inl ⟨_,_,hF.set hT b λ_=>rfl,?_,rfl⟩);rw [j];simp only [fF,m,o4,c1,dn,bu,c8,fm];exact wD hT g b k a _ _
 simp
theorem Ra {o:Oper} {tm L:List aa} {H H':af} {v:aa} (a:evalOp E cf fid o tm H= .ok v L H'):L.length=tm.length/\ ∀i,jT (M L i)=true->jT (M tm i)=true:=by
 by_cases p: ∃j b k,o.op= .store j b k/\fh (B E tm b)=false
 . obtain ⟨j,b,k,m,f⟩:=p;unfold evalOp at a;simp only [m] at a;cases g:B E tm b<;>rw [g] at f<;>try (cases f;done)
   rename_i s t r;rw [g] at a;unfold hd at a;split at a
   case h_2=>cases a
   unfold hf at a;split at a
   case isFalse=>cases a
   simp only at a;unfold m9 at a;split at a
   case h_2=>cases a
   rename_i u q c;split at a
   case isFalse=>cases a
   split at a
   case h_2=>cases a
   simp only [bu,bf.ok.injEq] at a;obtain ⟨_,rfl,_⟩:=a;refine ⟨m6 _ _ _,λi e=> ?_⟩;rw [k9,hW] at e;rw [k9] at c|-;split at e
   . rename_i l;rw [<-l.1,c];rfl
   omega
 . have h:=Hr (E:=E) (cf:=cf) (fid:=fid) (tm:=tm) (L:=tm) (H:=H) (o:=o) ai ai ai ah;rw [a] at h;simp only [cE,bf.ok.injEq] at h
   grind
theorem fq (hT:du d n kp) {o:Oper}:gb E cf fid d n (.bE o) o:=by
 intro f b i j hF;have z: ∀a,E.loc fid a=false->jT (M (aR d n f) a)=false:=by
  intro a m;by_cases e:a<n
  . rw [nG hT.fit f e];exact hF a e m
  . rw [k9,vQ (by rw [vh hT.fit];omega)];rfl
 show ve E cf fid d n o f b i j=_\/(∃y k,_/\_/\ve E cf fid d n o f b i j=_)\/ ∃c k,_/\ve E cf fid d n o f b i j=_
 have w:ve E cf fid d n o f b i j=(match evalOp E cf fid o (aR d n f) b with
  | .ok c p b=>match zT E fid o.dst c with
    | true=>match cH E fid o.dst c p with
      |some p=>i (eB d p).1 b
      |none=> .fail
    |false=> .fail
  | .aK c b=>j c b
  | .fail=> .fail):=rfl
 rw [w]
 cases t:evalOp E cf fid o (aR d n f) b with
 |fail=>simp
 |aK c k=>grind
 | ok c q k =>
   simp only;obtain ⟨x,B⟩:=Ra t
   cases v:zT E fid o.dst c with
   |false=>simp
   | true =>
     simp only
     cases g:cH E fid o.dst c q with
     |none=>simp
     | some h=>
       simp only;have u:h.length=q.length/\ ∀a,E.loc fid a=false->jT (M h a)=true->jT (M q a)=true:=by
        unfold cH at g
        cases r:o.dst with
        |none=>grind
        | some A=>
          rw [r] at g;simp only [bu] at g;split at g
          . simp only [N] at g;subst g;refine ⟨m6 _ _ _,λa m e=> ?_⟩;rw [k9,hW] at e;rw [k9];split at e
            . rename_i l;obtain ⟨rfl,_⟩:=l;simp only [zT,r,m,anB] at v;simp only [vX] at e;cases c<;>first|(cases e;done)|grind
            omega
          grind
       have s:h.length=n:=by rw [u.1,x,vh hT.fit]
       have l:aR d n (eB d h).1=h:=by rw [BV hT.fit ab,s];simp
       refine .inr (.inl ⟨(eB d h).1,k,λa e m=> ?_,?_,rfl⟩)
       . rw [<-nG hT.fit _ e,l]
         grind
       . simp only [fm,fj,g,l]
end
section
variable (E:Env) (fid d n:Nat) (kp:kc d)
def g1 (x:Operand) (o:Oper) (r:cX d):cX d:=match v E n x with
 |true=>r
 |false=> .bE o
def uY {R:Type} (op:BinOp) (t:Nat):aa->aa->R->(aa->R)->R:=match aW E t with
 | some (.int a)=>match op with
   | .add=>match decide (a= .i64) with
     |true=>xq E t
     |false=>iF E .add t
   | .lss=>kk E a .lss t
   | .gtr=>kk E a .gtr t
   | .leq=>kk E a .leq t
   | .geq=>kk E a .geq t
   | .eql=>kk E a .eql t
   | .neq=>kk E a .neq t
   |op=>iF E op t
 | some .string=>match op with
   | .eql=>sZ E .eql t
   | .neq=>sZ E .neq t
   |op=>iF E op t
 |_=>iF E op t
def sI (c:Call) (so:Option (Set d)) (o:Oper):cX d:=match c.callee with
 | .value a=>match c.args.toList.all (v E n) with
   | true=>match a with
     | .func b=> .call b (c.args.toList.map (h E fid d kp)) so
     |a=>g1 E d n a o (.Bm (h E fid d kp a) (c.args.toList.map (h E fid d kp)) so)
   |false=> .bE o
 |_=> .bE o
def xz (t:Nat) (x:Operand) (i:Nat) (o:Oper):cX d:=match aW E t with
 |some .string=>g1 E d n x o (.un (h E fid d kp x) x2 (kp.s i))
 |some (.slice _)=>g1 E d n x o (.un (h E fid d kp x) x1 (kp.s i))
 |_=> .bE o
def u0 (i:Nat) (o:Oper):cX d:=match o.op with
 | .move a=>g1 E d n a o (.qt (h E fid d kp a) (kp.s i))
 | .assign a=>g1 E d n a o (.qt (h E fid d kp a) (kp.s i))
 | .pick f g k=>g1 E d n f o (g1 E d n g o (g1 E d n k o (.pick (h E fid d kp f) (h E fid d kp g) (h E fid d kp k) (kp.s i))))
 | .nilCheck a=>g1 E d n a o (.un (h E fid d kp a) x3 (kp.s i))
 | .unOp op _ a=>g1 E d n a o (match op with
   | .not=> .un (h E fid d kp a) x4 (kp.s i)
   |op=> .un (h E fid d kp a) (x6 op) (kp.s i))
 | .binOp op b a p _=>g1 E d n a o (g1 E d n p o (.bi (h E fid d kp a) (h E fid d kp p) (uY E op b) (kp.s i)))
 | .load b g=>match bZ E b,aW E b with
   |some j,some r=>g1 E d n g o (.DQ (h E fid d kp g) j (jS r) (kp.s i))
   |_,_=> .bE o
 | .fieldAddr l a t=>match aW E l with
   | some (.struct u)=>match u[t]? with
     | some m=>match bZ E m.type with
       |some (_+1)=>g1 E d n a o (.un (h E fid d kp a) (xV m.offset) (kp.s i))
       |_=> .bE o
     |none=> .bE o
   |_=> .bE o
 | .indexAddr b a c=>match aW E b with
   | some (.slice e)=>match bZ E e with
     |some j=>g1 E d n a o (g1 E d n c o (.bi (h E fid d kp a) (h E fid d kp c) (x0 j) (kp.s i)))
     |none=> .bE o
   | some (.array w e)=>match bZ E e with
     |some j=>g1 E d n a o (g1 E d n c o (.bi (h E fid d kp a) (h E fid d kp c) (xZ w j) (kp.s i)))
     |none=> .bE o
   |_=> .bE o
 | .index b a c=>match aW E b with
   |some .string=>g1 E d n a o (g1 E d n c o (.bi (h E fid d kp a) (h E fid d kp c) xY (kp.s i)))
   |_=> .bE o
 | .convert l b a=>match aW E l,aW E b with
   |some (.int _),some (.int v)=>g1 E d n a o (.un (h E fid d kp a) (xW v) (kp.s i))
   |_,_=> .bE o
 | .extract a c=>g1 E d n a o (.un (h E fid d kp a) (xX c) (kp.s i))
 | .alloc e=>match bN E e with
   | some q=>match q.cells.all J with
     |true=> .D4 e q.cells (kp.s i)
     |false=> .bE o
   |none=> .bE o
 | .box e a=>g1 E d n a o (.A0 e (h E fid d kp a) (kp.s i))
 | .call f=>match f.callee with
   | .builtin k=>match k,f.argTypes.toList,f.args.toList with
     | .len,[b],[a]=>xz E fid d n kp b a i o
     |_,_,_=> .bE o
   |_=>sI E fid d n kp f (some (kp.s i)) o
 |_=> .bE o
def u1 (i:Nat) (o:Oper):cX d:=match o.op with
 | .alloc c=>match bN E c with
   | some b=>match b.cells.all J with
     |true=> .D6 b.cells i
     |false=> .bE o
   |none=> .bE o
 | .box _ a=>g1 E d n a o (.A1 (h E fid d kp a) i)
 |_=> .bE o
def u2 (o:Oper):cX d:=match o.op with
 | .store f a b=>match bZ E f with
   |some e=>g1 E d n a o (g1 E d n b o (.st e (h E fid d kp a) (h E fid d kp b) none))
   |none=> .bE o
 | .call c=>sI E fid d n kp c none o
 |_=> .bE o
def q8 (o:Oper):cX d:=match o.dst with
 | some a=>match Nat.blt a n with
   | true=>match E.loc fid a with
     |false=>u0 E fid d n kp a o
     |true=>u1 E fid d n kp a o
   |false=> .bE o
 |none=>u2 E fid d n kp o
variable {E fid d n kp} {cf:cb}
theorem fs (hT:du d n kp) {x:Operand} {o:Oper} {r:cX d} (a:v E n x=true->gb E cf fid d n r o):gb E cf fid d n (g1 E d n x o r) o:=by
 unfold g1;split
 . grind
 . exact fq hT
theorem Pm {R:Type} (op:BinOp) (t:Nat):oi (R:=R) (uY E op t) (b4 E op t):=by
 unfold uY;split
 . split
   . split
     . exact N9 E t
     . exact oJ E _ t
   . exact sT E _ _ t
   . exact sT E _ _ t
   . exact sT E _ _ t
   . exact sT E _ _ t
   . exact sT E _ _ t
   . exact sT E _ _ t
   . exact oJ E _ t
 . split
   . exact Hh E _ t
   . exact Hh E _ t
   . exact oJ E _ t
 . exact oJ E _ t
theorem Gs (hT:du d n kp) {o:Oper} {c:Call} {so:Option (Set d)} (e:o.op= .call c)
  (f:(∃i,o.dst=some i/\i<n/\E.loc fid i=false/\so=some (kp.s i))\/(o.dst=none/\so=none)):gb E cf fid d n (sI E fid d n kp c so o) o:=by
 unfold sI;split
 . rename_i h b;split
   . rename_i a;split
     . rename_i j;exact Rf hT e b a f
     . exact fs hT λg=>Rg hT e b g a f
   . exact fq hT
 . exact fq hT
theorem Pt (hT:du d n kp) {o:Oper} {i:Nat} (g:o.dst=some i) (h:i<n) (f:E.loc fid i=false):gb E cf fid d n (u0 E fid d n kp i o) o:=by
 have O:nW E fid (some i)=false:=f;unfold u0;split
 . rename_i e j;exact fs hT λb=>Hw hT g h f b λc a=>by unfold evalOp;grind
 . rename_i e j;exact fs hT λb=>Hw hT g h f b λc a=>by unfold evalOp;grind
 . rename_i z x y j;exact fs hT λt=>fs hT λC=>fs hT λF=>Rl hT g h f t C F λc a=>by unfold evalOp;grind
 . rename_i e j;exact fs hT λb=>pP hT (spec:=λ_=>zl) g h f b (λc a=>by unfold evalOp;simp only [j];exact XP _ _ _) λ_=>Rw
 . rename_i r l e j;refine fs hT λb=> ?_;split
   . exact pP hT (spec:=λ_=>nc .not) g h f b (λc a=>by unfold evalOp;grind) λ_=>Rx
   . exact pP hT (spec:=λ_=>nc r) g h f b (λc a=>by unfold evalOp;grind) λ_=>Ry r
 . rename_i r l e U T j;exact fs hT λb=>fs hT λp=>xS hT g h f b p (λc a=>by unfold evalOp;grind) (Pm r l)
 . rename_i l x j;split
   . rename_i u L m k;exact fs hT λb=>Ri hT g h f b (λc a=>by unfold evalOp;grind) m k
   . exact fq hT
 . rename_i v e A j;split
   . rename_i N k;split
     . rename_i M G;split
       . rename_i u m;exact fs hT λb=>pP hT (spec:=λ_ e=>jh E v e A) g h f b (λc a=>by unfold evalOp;grind) λ_=>Ro E k G m
       . exact fq hT
     . exact fq hT
   . exact fq hT
 . rename_i l e q j;split
   . rename_i s k;split
     . rename_i u m;exact fs hT λb=>fs hT λp=>xS hT g h f b p (λc a=>by unfold evalOp;grind) (Rt E k m)
     . exact fq hT
   . rename_i S s k;split
     . rename_i u m;exact fs hT λb=>fs hT λp=>xS hT g h f b p (λc a=>by unfold evalOp;grind) (Rs E k m)
     . exact fq hT
   . exact fq hT
 . rename_i l e q j;split
   . rename_i k;exact fs hT λb=>fs hT λp=>xS hT g h f b p (λc a=>by unfold evalOp;grind) (Rr E k)
   . exact fq hT
 . rename_i v l e j;split
   . rename_i R Q I J;exact fs hT λb=>pP hT (spec:=λa e=>jg E v l e a) g h f b (λc a=>by unfold evalOp;grind) λa=>Rp E I J a
   . exact fq hT
 . rename_i e q j;exact fs hT λb=>pP hT (spec:=λ_=>vf q) g h f b (λc a=>by unfold evalOp;simp only [j];exact XF _ _ _ _) λ_=>Rq q
 . rename_i s j;split
   . rename_i V P;split
     . rename_i H;exact Rj hT g h f H λc a=>by unfold evalOp;grind
     . exact fq hT
   . exact fq hT
 . rename_i l e j;exact fs hT λb=>Rc hT g h f b λc a=>by unfold evalOp;grind
 . rename_i z j;split
   . rename_i y t;split
     . rename_i l e K D;unfold xz;have w: ∀c a,evalOp E cf fid o c a=bb (fE E l (B E c e) a) c a:=λc a=>by unfold evalOp;simp only [j,o7,t,hy,K,D,fS,rG,kj]
       split
       . rename_i k;exact fs hT λb=>pP hT (spec:=λa e=>fE E l e a) g h f b w λa=>Rv E k a
       . rename_i s k;exact fs hT λb=>pP hT (spec:=λa e=>fE E l e a) g h f b w λa=>Ru E k a
       . exact fq hT
     . exact fq hT
   . exact Gs hT j ah
 . exact fq hT
theorem Pu (hT:du d n kp) {o:Oper} {i:Nat} (b:o.dst=some i) (c:i<n) (a:E.loc fid i=true):gb E cf fid d n (u1 E fid d n kp i o) o:=by
 have m:nW E fid (some i)=true:=a;unfold u1;split
 . rename_i f h;split
   . rename_i r p;split
     . rename_i g;exact Rk (el:=f) hT b c a g λl e=>by unfold evalOp;grind
     . exact fq hT
   . exact fq hT
 . rename_i k q h;exact fs hT λj=>Re (el:=k) hT b c a j λl e=>by unfold evalOp;grind
 . exact fq hT
theorem Pv (hT:du d n kp) {o:Oper} (e:o.dst=none):gb E cf fid d n (u2 E fid d n kp o) o:=by
 unfold u2;split
 . rename_i s k u a;split
   . rename_i q g;exact fs hT λc=>fs hT λh=>Rm hT e c h (λt j=>by unfold evalOp;grind) g λp r m f i b hF=>hF.loc f b
   . exact fq hT
 . rename_i l a;exact Gs hT a ah
 . exact fq hT
theorem Pw (hT:du d n kp) (o:Oper):gb E cf fid d n (q8 E fid d n kp o) o:=by
 unfold q8;split
 . rename_i e a;split
   . rename_i c;split
     . rename_i b;exact Pt hT a (er c) b
     . rename_i b;exact Pu hT a (er c) b
   . exact fq hT
 . rename_i a;exact Pv hT a
end
section
variable {E:Env} {cf:cb} {fid d n:Nat} {kp:kc d}
theorem Rh (hT:du d n kp) {o:Oper} {xs:List Operand} {f:List aa->af->bf} {so:Option (Set d)} (m:xs.all (v E n)=true)
  (k: ∀tm H,evalOp E cf fid o tm H=cE tm (f (xs.map (B E tm)) H))
  (l:(∃i,o.dst=some i/\i<n/\E.loc fid i=false/\so=some (kp.s i))\/(o.dst=none/\so=none)):
  gb E cf fid d n (.gen (xs.map (h E fid d kp)) f so) o:=by
 intro a H e g hF;show okF d (w ((xs.map (h E fid d kp)).map λc=>c a) λb=>f b H) a so e g=_\/(∃p j,_/\_/\okF d (w ((xs.map (h E fid d kp)).map λc=>c a) λb=>f b H) a so e g=_)\/
  ∃q j,_/\okF d (w ((xs.map (h E fid d kp)).map λc=>c a) λb=>f b H) a so e g=_
 rw [bu,pJ hT hF _ m];exact Ej hT hF l (k _ _)
def placesOf (a:Nat->Option (Nat×Nat)):List Nat->Option (List (Nat×Nat))
 | []=>some []
 | b::l=>match a b,placesOf a l with
   |some c,some e=>some (c::e)
   |_,_=>none
theorem HD {j:Nat->Option (Nat×Nat)}: ∀(c:List Nat) (vs e:List aa) (f:List (Nat×Nat)),c.length=vs.length->placesOf j c=some f->ri e f vs=hn j e (c.zip vs):=by
 intro c
 induction c with
 | nil=>
   intro vs e f g a;simp only [placesOf,N] at a;subst a
   cases vs with
   |nil=>rfl
   |cons b vs=>cases g
 | cons o c p=>
   intro vs e f g a
   cases vs with
   |nil=>cases g
   | cons b vs=>
     simp only [placesOf] at a;split at a
     case h_2=>cases a
     rename_i l r k m;simp only [N] at a;subst a;obtain ⟨q,h⟩:=l;simp only [ri,List.zip_cons_cons,hn,k];by_cases i:b.cells.length=h/\b.cells.all J=true
     . rw [if_pos i];have:(Nat.beq b.cells.length h&&b.cells.all J)=true:=by simp_all
       rw [this]
       grind
     . rw [if_neg i];have:(Nat.beq b.cells.length h&&b.cells.all J)=false:=by simp_all
       grind
variable (E)
def TL:TypeDesc->Bool
 | .int _=>true
 |_=>false
def yb (g:List Nat):Option (List aa->af->bf):=match g with
 | [e,f]=>match aW E e,aW E f with
   | some (.slice a),some c=>match TL c,E.T a with
     |false,some b=>some (R3 a b.size b.bytes)
     |_,_=>none
   |_,_=>none
 |_=>none
def HX (b:Builtin) (a:List Nat):List aa->af->bf:=match b with
 | .append=>match yb E a with
   |some c=>c
   |none=>HT E .append a
 |b=>HT E b a
def BY (t:Nat) (e:List Nat):Option (List aa->af->bf):=match aW E t,bN E t with
 | some (.struct b),some g=>match b.toList.all (λa=>(bZ E a.type).isSome),placesOf (λc=>match b[c]? with
    | some a=>match bZ E a.type with
      |some n=>some (a.offset,n)
      |none=>none
    |none=>none) e with
   |true,some f=>some (HV g.cells f)
   |_,_=>none
 |_,_=>none
def BZ (t len:Nat) (f:List Nat):Option (List aa->af->bf):=match aW E t with
 | some (.slice b)=>match bZ E b,bN E b with
   | some a,some c=>match decide (0<a/\c.cells.length=a/\len*a<=16777216),placesOf (λe=>some (e*a,a)) f with
     |true,some g=>some (HW (List.replicate len c.cells).flatten a len g)
     |_,_=>none
   |_,_=>none
 |_=>none
def B2 (t:Nat) (l a m:Bool):Option (List aa->af->bf):=match aW E t with
 | some .string=>match m with
   |false=>some (H3 l a)
   |true=>none
 | some (.slice b)=>match bZ E b with
   |some c=>some (H2 c l a m)
   |none=>none
 |_=>none
def uZ (o:Oper):Option (List Operand×(List aa->af->bf)):=match o.op with
 | .build a h=>match BY E a (h.toList.map (·.1)) with
   |some b=>some (h.toList.map (·.2),b)
   |none=>none
 | .buildSlice a p h=>match BZ E a p (h.toList.map (·.1)) with
   |some b=>some (h.toList.map (·.2),b)
   |none=>none
 | .call f=>match f.callee with
   | .builtin m=>some (f.args.toList,HX E m f.argTypes.toList)
   |_=>none
 | .slice a c j l e=>match B2 E a j.isSome l.isSome e.isSome with
   |some b=>some (c::(j.toList++(l.toList++e.toList)),b)
   |none=>none
 | .field a c b=>some ([c],R8 E a b)
 | .convert r a c=>some ([c],R7 E r a)
 | .lookup a e g ok=>some ([e,g],R_ E a ok)
 | .mapUpdate a e g k=>some ([e,g,k],H7 E a)
 | .insert a e g k=>some ([e,g,k],H7 E a)
 | .makeSlice a j f=>some ([j,f],Sa E a)
 | .makeInterface a c=>some ([c],R9 E a)
 | .typeAssert c s i ok=>some ([c],R4 E s i ok)
 | .makeFunc b i f=>some (i.toList++f.toList,HY E b i.size)
 | .makeMap _ q=>match q with
   |none=>some ([],Sb)
   |some _=>none
 |_=>none
variable {E}
theorem wE (tm:List aa) (r:Option aa) (H:af):bb r tm H=cE tm (bb r [] H):=hb r
theorem R2 {o:List Nat} {f:List aa->af->bf} (a:yb E o=some f) (args:List aa) (tm:List aa) (H:af):hy E .append o args tm H=cE tm (f args H):=by
 unfold yb at a;split at a
 case h_2=>cases a
 rename_i k m;split at a
 case h_2=>cases a
 rename_i i j q r;split at a
 case h_2=>cases a
 rename_i e s hT;simp only [N] at a;subst a;have t: ∀g,hx E i e.size j g H=e4 e.size H g:=by intro g;unfold hx;cases j<;>first|rfl|cases s
 match args with
 | []=>rfl
 | [p]=>rfl
 |p::b::c::l=>rfl
 | [h,g]=>
   show ha (cI E k m h g H) tm=cE tm (ha (uS i e.size e.bytes (e4 e.size H g) h H) []);have:cI E k m h g H=uS i e.size e.bytes (e4 e.size H g) h H:=by unfold cI;simp only [q,r,hT,t];rfl
   rw [this];exact zp _
theorem R5 {t:Nat} {a:Array (Nat×Operand)} {f:List aa->af->bf} (b:BY E t (a.toList.map (·.1))=some f) (tm:List aa) (H:af):
  bb (oE E t (a.toList.map λp=>(p.1,B E tm p.2))) tm H=cE tm (f ((a.toList.map (·.2)).map (B E tm)) H):=by
 unfold BY at b;split at b
 case h_2=>cases b
 rename_i o e j k;split at b
 case h_2=>cases b
 rename_i c g i;simp only [N] at b;subst b;have l:a.toList.map (λp=>(p.1,B E tm p.2))=(a.toList.map (·.1)).zip ((a.toList.map (·.2)).map (B E tm)):=by grind
 have h:=HD (a.toList.map (·.1)) ((a.toList.map (·.2)).map (B E tm)) e.cells c ai i;unfold oE HV;simp only [j,k];rw [if_pos g,l]
 erw [<-h]
 cases ri e.cells c ((a.toList.map (·.2)).map (B E tm)) with
 |none=>rfl
 |some m=>simp only [bb,dn];rfl
theorem R6 {t len:Nat} {b:Array (Nat×Operand)} {f:List aa->af->bf} (a:BZ E t len (b.toList.map (·.1))=some f) (tm:List aa) (H:af):
  ha (cT E t len (b.toList.map λp=>(p.1,B E tm p.2)) H) tm=cE tm (f ((b.toList.map (·.2)).map (B E tm)) H):=by
 unfold BZ at a;split at a
 case h_2=>cases a
 rename_i q l;split at a
 case h_2=>cases a
 rename_i r g j m;split at a
 case h_2=>cases a
 rename_i e c k;simp only [N] at a;subst a;have c:=of_decide_eq_true c;have o:b.toList.map (λp=>(p.1,B E tm p.2))=(b.toList.map (·.1)).zip ((b.toList.map (·.2)).map (B E tm)):=by grind
 have i:=HD (b.toList.map (·.1)) ((b.toList.map (·.2)).map (B E tm)) (List.replicate len g.cells).flatten e ai k;unfold cT HW;simp only [l,j,m];rw [if_pos c,o,<-i]
 cases ri (List.replicate len g.cells).flatten e ((b.toList.map (·.2)).map (B E tm)) with
 |none=>rfl
 | some h=>
   simp only
   cases cD (aZ bR) h H with
   |none=>rfl
   |some s=>simp only [rf];rfl
theorem Se {t:Nat} {l g m:Option Operand} {x:Operand} {f:List aa->af->bf} (c:B2 E t l.isSome g.isSome m.isSome=some f) (tm:List aa) (H:af):
  ij E t (aW E t) (B E tm x) (l.map (B E tm)) (g.map (B E tm)) (m.map (B E tm)) tm H=cE tm (f ((x::(l.toList++(g.toList++m.toList))).map (B E tm)) H):=by
 unfold B2 at c;split at c
 . rename_i h;split at c
   case h_2=>cases c
   rename_i q;simp only [N] at c;subst c;have q:m=none:=de;subst q;rw [h];unfold ij H3;have v: ∀r o p,hC E t r o p none H=none:=by intro r o p;unfold hC;grind
   have j: ∀b a,bb (kL (gO E t (B E tm x) b a none) (hC E t (B E tm x) b a none H)) tm H=cE tm (match B E tm x with
     | .str k num=>bb (m8 k num b a none) [] H
     |_=> .fail):=by
    intro b a;rw [v];unfold gO;simp only [h]
    cases B E tm x with
    |str k num=>simp only;generalize m8 k num b a none=w;cases w<;>simp [kL,bb,cE]
    |_=>rfl
   cases l<;>cases g<;>exact j _ _
 . rename_i y h;split at c
   case h_2=>cases c
   rename_i i z;simp only [N] at c;subst c;rw [h];unfold ij H2;have j: ∀b a e,bb (kL (gO E t (B E tm x) b a e) (hC E t (B E tm x) b a e H)) tm H=cE tm (bb (kL (zR i (B E tm x) b a e) (zQ i (B E tm x) b a e H)) [] H):=by
    intro b a e;have s:gO E t (B E tm x) b a e=zR i (B E tm x) b a e:=by unfold gO zR;grind
    have u:hC E t (B E tm x) b a e H=zQ i (B E tm x) b a e H:=by unfold hC zQ;grind
    rw [s,u];exact wE _ _ _
   cases l<;>cases g<;>cases m<;>exact j _ _ _
 grind
theorem Pr {o:Oper} {xs:List Operand} {f:List aa->af->bf} (a:uZ E o=some (xs,f)) (tm:List aa) (H:af):evalOp E cf fid o tm H=cE tm (f (xs.map (B E tm)) H):=by
 unfold uZ at a;unfold evalOp;cases q:o.op<;>simp only [q] at a|- <;>try (cases a;done)
 case build b s=>
  split at a
  . rename_i i e;simp only [N,bz] at a;obtain ⟨rfl,rfl⟩:=a;exact R5 e tm H
  grind
 case buildSlice b y s=>
  split at a
  . rename_i i e;simp only [N,bz] at a;obtain ⟨rfl,rfl⟩:=a;exact R6 e tm H
  grind
 case call c=>
  cases k:c.callee<;>simp only [k] at a<;>try (cases a;done)
  rename_i v;simp only [N,bz] at a;obtain ⟨rfl,rfl⟩:=a;simp only [o7,k];unfold HX;split
  . cases e:yb E c.argTypes.toList with
    |some i=>exact R2 e _ tm H
    |none=>exact El _ _ _
  . exact El _ _ _
 case slice b h r w j=>
  split at a
  . rename_i i e;simp only [N,bz] at a;obtain ⟨rfl,rfl⟩:=a;exact Se e tm H
  grind
 case field b h x=>
  simp only [N,bz] at a;obtain ⟨rfl,rfl⟩:=a;exact wE _ _ _
 case convert z b h=>
  simp only [N,bz] at a;obtain ⟨rfl,rfl⟩:=a;exact wE _ _ _
 case lookup b j l ok=>
  simp only [N,bz] at a;obtain ⟨rfl,rfl⟩:=a;exact wE _ _ _
 case mapUpdate b j l u=>
  simp only [N,bz] at a;obtain ⟨rfl,rfl⟩:=a;exact zr _ _ _ _
 case insert b j l u=>
  simp only [N,bz] at a;obtain ⟨rfl,rfl⟩:=a;exact zr _ _ _ _
 case makeSlice b r c=>
  simp only [N,bz] at a;obtain ⟨rfl,rfl⟩:=a;exact KB _ _ _
 case makeInterface b h=>
  simp only [N,bz] at a;obtain ⟨rfl,rfl⟩:=a;exact Kz _ _ _
 case typeAssert h A g ok=>
  simp only [N,bz] at a;obtain ⟨rfl,rfl⟩:=a;exact wE _ _ _
 case makeFunc i g c=>
  simp only [N,bz] at a;obtain ⟨rfl,rfl⟩:=a;have m:((g.toList++c.toList).map (B E tm)).take g.size=g.toList.map (B E tm):=by simp
  have p:((g.toList++c.toList).map (B E tm)).drop g.size=c.toList.map (B E tm):=by simp
  simp only [HY,m,p];exact Ky _ _ _
 case makeMap b t=>
  cases t with
  |some h=>cases a
  | none=>
    simp only [N,bz] at a;obtain ⟨rfl,rfl⟩:=a;exact KA _
def sK (E:Env) (fid d n:Nat) (kp:kc d) (so:Option (Set d)) (o:Oper):cX d:=match uZ E o with
 | some (a,b)=>match a.all (v E n) with
   |true=> .gen (a.map (h E fid d kp)) b so
   |false=> .bE o
 |none=> .bE o
theorem Gu (hT:du d n kp) {o:Oper} {so:Option (Set d)} (b:(∃i,o.dst=some i/\i<n/\E.loc fid i=false/\so=some (kp.s i))\/(o.dst=none/\so=none)):
  gb E cf fid d n (sK E fid d n kp so o) o:=by
 unfold sK;split
 . rename_i f e a;split
   . rename_i c;exact Rh hT c (Pr a) b
   . exact fq hT
 . exact fq hT
def CH:cX d->Bool
 | .bE _=>true
 |_=>false
def jK (E:Env) (fid d n:Nat) (kp:kc d) (o:Oper):cX d:=match CH (q8 E fid d n kp o) with
 |false=>q8 E fid d n kp o
 | true=>match o.dst with
   |none=>sK E fid d n kp none o
   | some a=>match Nat.blt a n&& !E.loc fid a with
     |true=>sK E fid d n kp (some (kp.s a)) o
     |false=> .bE o
theorem Gw (hT:du d n kp) (o:Oper):gb E cf fid d n (jK E fid d n kp o) o:=by
 unfold jK;split
 . exact Pw hT o
 . split
   . rename_i b;exact Gu hT ah
   . rename_i c b;split
     . rename_i a;simp only [br,oV] at a;exact Gu hT de
     . exact fq hT
end
section
variable (E:Env) (g:bU) (fid d n:Nat) (kp:kc d)
def sM (o:Oper):Option (Option (Set d)):=match o.dst with
 |none=>some none
 | some a=>match Nat.blt a n&& !E.loc fid a with
   |true=>some (some (kp.s a))
   |false=>none
def sL (ops:Array Oper) (j:Nat):Option (H d):=match ops[j]? with
 | some o=>match o.dst with
   | some a=>match Nat.blt a n with
     |true=>some (kp.g a)
     |false=>none
   |none=>none
 |none=>none
def tr (o:Oper):Bool:=match o.op with
 | .defer _=>true
 |_=>false
def nw (ops:Array Oper):List Oper->Option (fo d)
 | []=>some .nil
 | o ::os=>match tr o with
   |true=>none
   | false=>match nw ops os with
     |none=>none
     | some a=>match o.guard with
       |none=>some (.op (jK E fid d n kp o) a)
       | some (c,f)=>match sL d n kp ops c,sM E fid d n kp o with
         |some b,some e=>some (.B7 b f e (jK E fid d n kp o) a)
         |_,_=>none
def nv (o:Oper) (a:bV):Option (bq d->Bool):=match a with
 | .plain=>match o.op with
   | .slice s c l k p=>match v E n c&&((l.toList++(k.toList++p.toList)).all (v E n)) with
     |true=>some λb=>(gO E s (h E fid d kp c b) (l.map λi=>h E fid d kp i b) (k.map λi=>h E fid d kp i b) (p.map λi=>h E fid d kp i b)).isSome
     |false=>none
   |_=>some λ_=>true
 | .aI =>match o.op with
   | .call f=>match f.callee with
     | .value j=>match v E n j&&f.args.toList.all (v E n) with
       |true=>some λb=>s8 E (h E fid d kp j b) ((f.args.toList.map (h E fid d kp)).map λe=>e b)
       |false=>none
     |_=>none
   | .buildSlice _ _ q=>match (q.toList.map (·.2)).all (v E n) with
     |true=>some λb=>(((q.toList.map (·.2)).map (h E fid d kp)).map λe=>e b).all (D bR)
     |false=>none
   | .makeFunc j a f=>match a.toList.all (v E n)&&f.toList.all (v E n) with
     |true=>some λb=>D bR (.fn j ((a.toList.map (h E fid d kp)).map λe=>e b) ((f.toList.map (h E fid d kp)).map λe=>e b))
     |false=>none
   |_=>none
 | .loc r=>match o.op with
   | .load _ c=>match v E n c with
     |true=>some λb=>lS r (h E fid d kp c b)
     |false=>none
   | .store _ c _=>match v E n c with
     |true=>some λb=>lS r (h E fid d kp c b)
     |false=>none
   |_=>none
 | .heap=>match o.op with
   | .load _ c=>match v E n c with
     |true=>some λb=>fh (h E fid d kp c b)
     |false=>none
   | .store _ c _=>match v E n c with
     |true=>some λb=>fh (h E fid d kp c b)
     |false=>none
   |_=>some λ_=>true
 | .m _=>match o.op with
   | .load _ c=>match v E n c with
     |true=>some λb=>fh (h E fid d kp c b)
     |false=>none
   |_=>none
 | .read _=>none
def lM (ops:Array Oper):List Oper->List bV->Option (fo d)
 | [],_=>some .nil
 | o ::os,c::as=>match lM ops os as with
   |none=>none
   | some b=>match nv E fid d n kp o c with
     |none=>none
     | some a=>match o.guard with
       |none=>some (.GO a (jK E fid d n kp o) b)
       | some (f,i)=>match sL d n kp ops f,sM E fid d n kp o with
         |some e,some h=>some (.B6 e i h a (jK E fid d n kp o) b)
         |_,_=>none
 |_::_,[]=>none
def xA (id:Nat) (ops:Array Oper):Option (fo d):=match g fid id with
 | some a=>match a.rs with
   | []=>lM E fid d n kp ops ops.toList a.dV
   |_::_=>none
 |none=>none
def wx (r:Option (fo d)) (c:Code):fo d:=match r with
 |some a=>a
 |none=> .bE c
def dK:Code->fo d
 | .skip=> .nil
 | .region id c f=>match f with
   |false=>wx d (nw E fid d n kp c c.toList) (.region id c false)
   |true=>wx d (xA E g fid d n kp id c) (.region id c true)
 | .seq a e=> .seq (dK a) (dK e)
 | .cond b a e=>match v E n b with
   |true=> .cond (h E fid d kp b) (dK a) (dK e)
   |false=> .bE (.cond b a e)
 | .block id a=> .block id (dK a)
 | .loop a=> .loop (dK a)
 | .exit id=> .exit id
 | .label _=> .nil
 | .ret=> .ret
 |b=> .bE b
variable {E g fid d n kp} {cf:cb} {ad:Nat}
def Good (E:Env) (fid d n:Nat) (r:b0 d) (c:bP):Prop:=r= .fail\/
 (AP d n r=c/\(∀a b e,r= .normal a b e->ej E fid d n a)/\(∀id a b e,r= .exit id a b e->ej E fid d n a)/\(∀a b e,r= .ret a b e->ej E fid d n a))
theorem Good.normal {F:bq d} {H:af} {ds:List (Nat×List aa)} (hF:ej E fid d n F):Good E fid d n (.normal F H ds) (.normal (aR d n F) H ds):=by
 refine .inr ⟨rfl,?_,?_,?_⟩
 all_goals grind
theorem Good.aK {v:aa} {F:bq d} {H:af} {ds:List (Nat×List aa)}:Good E fid d n (.aK v F H ds) (.aK v (aR d n F) H ds):=by
 refine .inr ⟨rfl,?_,?_,?_⟩
 all_goals simp
theorem Gv (hT:du d n kp) {ops:Array Oper} {o:Oper} {j:Nat} {w:Bool} {g:H d} (h:o.guard=some (j,w)) (a:sL d n kp ops j=some g) (F:bq d):
  cJ ops (aR d n F) o=lb (g F) w:=by
 unfold sL at a;split at a
 case h_2=>cases a
 rename_i k i;split at a
 case h_2=>cases a
 rename_i c f;split at a
 case h_2=>cases a
 rename_i e;have b:c<n:=er e;simp only [N] at a;subst a;unfold cJ;simp only [h,i,f,nG hT.fit F b,hT.g c b F]
theorem Gy (hT:du d n kp) {o:Oper} {i:Option (Set d)} (a:sM E fid d n kp o=some i) {F:bq d} (hF:ej E fid d n F) (H:af):
  ∃b,ej E fid d n b/\fj E fid o.dst (.av []) (aR d n F) H=some (aR d n b,H)/\ ∀k,r9 d i (.av []) F k=k b:=by
 unfold sM at a;split at a
 . rename_i e;simp only [N] at a;subst a;exact ⟨F,hF,by simp [fj,cH,e],λk=>rfl⟩
 . rename_i h e;split at a
   case h_2=>cases a
   rename_i c;simp only [br,oV] at c;have f:h<n:=er c.1;simp only [N] at a;subst a;exact ⟨eK d h (.av []) F,hF.set hT f λ_=>rfl,wD hT e f c.2 F _ H,λk=>hT.s h f _ _ _⟩
theorem TJ {o:Oper} (a:tr o=false): ∀c,o.op≠ .defer c:=by
 intro c b;unfold tr at a
 grind
theorem aat {ops:Array Oper} {o:Oper} {tm:List aa} {H:af} (a:cJ ops tm o=some true):jz E cf fid ops o (tm,H)=fm E fid o (evalOp E cf fid o tm H):=by unfold jz;grind
theorem PA (hT:du d n kp) {ops:Array Oper}: ∀(b:List Oper) (i:fo d),nw E fid d n kp ops b=some i-> ∀(F:bq d) (H:af) (ds:List (Nat×List aa)),ej E fid d n F->
  Good E fid d n (dZ E cf g ad fid d n i F H ds) (dv E cf fid ops b (aR d n F) H ds):=by
 intro b
 induction b with
 | nil=>
   intro i a F H ds hF;simp only [nw,N] at a;subst a;exact Good.normal hF
 | cons o b D=>
   intro i a F H ds hF;simp only [nw] at a
   cases t:tr o with
   |true=>grind
   |false=>
   rw [t] at a;have q:=TJ t
   cases z:nw E fid d n kp ops b with
   |none=>grind
   | some h=>
     rw [z] at a;simp only at a;have w:cJ ops (aR d n F) o=some true->
       Good E fid d n (exec E cf fid d n (jK E fid d n kp o) F H (λF H=>dZ E cf g ad fid d n h F H ds) (λf c=> .aK f F c ds)) (dv E cf fid ops (o::b) (aR d n F) H ds):=by
      intro e;rcases Gw hT o (cf:=cf) F H (λF H=>dZ E cf g ad fid d n h F H ds) (λf c=> .aK f F c ds) hF with a|⟨s,c,l,j,m⟩|⟨f,c,l,j⟩
      . exact .inl a
      . rw [m,zY (E:=E) (cf:=cf) (fid:=fid) (ops:=ops) (rest:=b) (ds:=ds) q ((aat e).trans j)]
        grind
      . rw [j,xR q e,l];exact Good.aK
     cases p:o.guard with
     | none=>
       rw [p] at a;simp only [N] at a;subst a;have e:cJ ops (aR d n F) o=some true:=by unfold cJ;grind
       exact w e
     | some C=>
       obtain ⟨G,r⟩:=C;rw [p] at a;simp only at a;split at a
       case h_2=>cases a
       rename_i k u x B;simp only [N] at a;subst a;have e:=Gv hT p x F
       have A:dZ E cf g ad fid d n (.B7 k r u (jK E fid d n kp o) h) F H ds=(match lb (k F) r with
        |some true=>exec E cf fid d n (jK E fid d n kp o) F H (λF H=>dZ E cf g ad fid d n h F H ds) (λf c=> .aK f F c ds)
        |some false=>r9 d u (.av []) F λF=>dZ E cf g ad fid d n h F H ds
        |none=> .fail):=rfl
       rw [A]
       cases y:lb (k F) r with
       |none=>exact .inl rfl
       | some v=>
         rw [y] at e
         cases v with
         |true=>grind
         | false=>
           simp only;obtain ⟨s,l,j,m⟩:=Gy hT B hF H;rw [m];have:jz E cf fid ops o (aR d n F,H)=some (aR d n s,H):=by unfold jz;grind
           rw [zY q this]
           grind
theorem Pn (hT:du d n kp) {o:Oper} {a:bV} {c:bq d->Bool} (b:nv E fid d n kp o a=some c) {F:bq d} (hF:ej E fid d n F):cZ E o a (aR d n F)=c F:=by
 have C: ∀ {p:Operand} {k:aa->Bool},(match v E n p with|true=>some λF=>k (h E fid d kp p F)|false=>none)=some c->k (B E (aR d n F) p)=c F:=by
  intro p k b;split at b
  . rename_i e;simp only [N] at b;subst b;show _=k (h E fid d kp p F);rw [hk hT e hF]
  grind
 cases a with
 |read I=>cases b
 | plain=>
   simp only [nv] at b;simp only [cZ];cases j:o.op<;>simp only [j] at b|- <;>try (simp only [N] at b;grind)
   rename_i x p w u r;split at b
   . rename_i e;simp only [br,ba] at e;simp only [N] at b;subst b;have s: ∀f:Option Operand,(∀i,f=some i->v E n i=true)->f.map (B E (aR d n F))=f.map λf=>h E fid d kp f F:=by
      intro f A
      cases f with
      |none=>rfl
      |some i=>simp [hk hT (A i rfl) hF]
     show _=(gO E x (h E fid d kp p F) (w.map λf=>h E fid d kp f F) (u.map λf=>h E fid d kp f F) (r.map λf=>h E fid d kp f F)).isSome;rw [hk hT e.1 hF,s w λi q=>e.2 i (by simp [q]),s u λi q=>e.2 i (by simp [q]),s r λi q=>e.2 i (by simp [q])]
   grind
 | aI=>
   simp only [nv] at b;simp only [cZ];cases j:o.op<;>simp only [j] at b|- <;>try (cases b;done)
   . rename_i x r G;split at b
     . rename_i e;simp only [N] at b;subst b;show _=(((G.toList.map (·.2)).map (h E fid d kp)).map λl=>l F).all (D bR);rw [pJ hT hF _ e,tB];rfl
     grind
   . rename_i k a y;split at b
     . rename_i e;simp only [br] at e;simp only [N] at b;subst b;show _=D bR (.fn k ((a.toList.map (h E fid d kp)).map λl=>l F) ((y.toList.map (h E fid d kp)).map λl=>l F));rw [pJ hT hF _ e.1,pJ hT hF _ e.2]
     grind
   . rename_i t;cases z:t.callee<;>simp only [z] at b|- <;>try (cases b;done)
     rename_i k;split at b
     . rename_i e;simp only [br] at e;simp only [N] at b;subst b;show _=s8 E (h E fid d kp k F) ((t.args.toList.map (h E fid d kp)).map λl=>l F);rw [hk hT e.1 hF,pJ hT hF _ e.2]
     grind
 | loc J=>
   simp only [nv] at b;simp only [cZ];cases j:o.op<;>simp only [j] at b|- <;>try simp_all
   all_goals simp_all
 | m H=>
   simp only [nv] at b;simp only [cZ];cases j:o.op<;>simp only [j] at b|- <;>try (cases b;done)
   exact C b
 | heap=>
   simp only [nv] at b;simp only [cZ];cases j:o.op<;>simp only [j] at b|- <;>try (simp only [N] at b;grind)
   all_goals simp_all
def pT (E:Env) (cf:cb) (fid:Nat) (ops:Array Oper):List Oper->List bV->bK->Option bK
 | o::os,b::as,a=>match fy E cf fid ops o b a with
   |some c=>pT E cf fid ops os as c
   |none=>none
 | [],_,a=>some a
 |_,_,_=>none
def Kl:bV->Bool
 | .read _=>false
 |_=>true
theorem Zv {ops:Array Oper}: ∀(b:List Oper) (as:List bV) (s s':bK),pT E cf fid ops b as s=some s'-> ∃c,dY E cf fid ops b as s=some c/\jq c=some s':=by
 intro b
 induction b with
 | nil=>
   intro as s s' a;cases as<;>(simp only [pT,N] at a;subst a;exact ⟨[s],rfl,rfl⟩)
 | cons o b i=>
   intro as s s' a
   cases as with
   |nil=>cases a
   | cons k as=>
     simp only [pT] at a;split at a
     . rename_i j h;obtain ⟨c,f,e⟩:=i as j s' a;refine ⟨s::c,by simp only [dY,h,f],?_⟩
       cases c with
       |nil=>cases e
       |cons m l=>exact e
     grind
theorem abU {ops:Array Oper} {h:List bK}: ∀(b:List Oper) (as:List bV) (a:List bK),(as.take b.length).all Kl=true->kS E ops h b as a=true:=by
 intro b
 induction b with
 |nil=>intro as a _;cases as<;>rfl
 | cons o b f=>
   intro as a c
   cases as with
   |nil=>rfl
   | cons e as=>
     cases a with
     |nil=>rfl
     | cons i a=>
       simp only [cl,C8,aO,br] at c;simp only [kS,f as a c.2,nR];cases e<;>first|rfl|(cases c.1)
theorem Py {ops:Array Oper}: ∀(b:List Oper) (as:List bV) (c:fo d),lM E fid d n kp ops b as=some c->(as.take b.length).all Kl=true:=by
 intro b
 induction b with
 |nil=>simp
 | cons o b j=>
   intro as c a
   cases as with
   |nil=>cases a
   | cons e as=>
     simp only [lM] at a;split at a
     . cases a
     . rename_i k i;split at a
       . cases a
       . rename_i l h;have f:=j as k i;simp only [cl,C8,aO,br];refine ⟨?_,f⟩;cases e<;>first|rfl|(cases h)
theorem Pz (hT :du d n kp) {ops:Array Oper}: ∀(f:List Oper) (as:List bV) (e:fo d),lM E fid d n kp ops f as=some e-> ∀(F:bq d) (H:af) (ds:List (Nat×List aa)),ej E fid d n F->
  dZ E cf g ad fid d n e F H ds= .fail\/ ∃b H',ej E fid d n b/\pT E cf fid ops f as (aR d n F,H)=some (aR d n b,H')/\dZ E cf g ad fid d n e F H ds= .normal b H' ds:=by
 intro f
 induction f with
 | nil=>
   intro as e a F H ds hF;have:e= .nil:=by cases as<;>(simp only [lM,N] at a;grind)
   subst this;exact .inr ⟨F,H,hF,by cases as<;>rfl,rfl⟩
 | cons o f z =>
   intro as e a F H ds hF
   cases as with
   |nil=>cases a
   | cons m as =>
     simp only [lM] at a;split at a
     . cases a
     . rename_i c y;split at a
       . cases a
       . rename_i h D;have O:=Pn hT D hF;have C:cJ ops (aR d n F) o=some true->
           (match h F with
            |true=>exec E cf fid d n (jK E fid d n kp o) F H (λF H=>dZ E cf g ad fid d n c F H ds) (λ_ _=> .fail)
            |false=> .fail)= .fail\/ ∃b H',ej E fid d n b/\pT E cf fid ops (o::f) (m::as) (aR d n F,H)=some (aR d n b,H')/\
            (match h F with
            |true=>exec E cf fid d n (jK E fid d n kp o) F H (λF H=>dZ E cf g ad fid d n c F H ds) (λ_ _=> .fail)
            |false=> .fail)= .normal b H' ds:=by
          intro j
          cases M:h F with
          |false=>simp
          | true=>
            rcases Gw hT o (cf:=cf) F H (λF H=>dZ E cf g ad fid d n c F H ds) (λ_ _=> .fail) hF with a|⟨b,H',i,x,q⟩|⟨Q,H',i,x⟩
            . grind
            . simp only [q];have s:fy E cf fid ops o m (aR d n F,H)=some (aR d n b,H'):=by unfold fy;grind
              rcases z as c y b H' ds i with a|⟨k,l,t,u,v⟩
              . grind
              . exact .inr ⟨k,l,t,by simp only [pT,s];exact u,v⟩
            grind
         cases r:o.guard with
         | none=>
           rw [r] at a;simp only [N] at a;subst a;have j:cJ ops (aR d n F) o=some true:=by unfold cJ;grind
           exact C j
         | some L=>
           obtain ⟨P,w⟩:=L;rw [r] at a;simp only at a;split at a
           case h_2=>cases a
           rename_i p A G K;simp only [N] at a;subst a;have j:=Gv hT r G F
           have J:dZ E cf g ad fid d n (.B6 p w A h (jK E fid d n kp o) c) F H ds=(match lb (p F) w with
            | some true=>(match h F with
              |true=>exec E cf fid d n (jK E fid d n kp o) F H (λF H=>dZ E cf g ad fid d n c F H ds) (λ_ _=> .fail)
              |false=> .fail)
            |some false=>r9 d A (.av []) F λF=>dZ E cf g ad fid d n c F H ds
            |none=> .fail):=rfl
           rw [J]
           cases I:lb (p F) w with
           |none=>simp
           | some B=>
             rw [I] at j
             cases B with
             |true=>grind
             | false=>
               simp only;obtain ⟨b,i,x,q⟩:=Gy hT K hF H;rw [q];have s:fy E cf fid ops o m (aR d n F,H)=some (aR d n b,H):=by unfold fy;grind
               rcases z as c y b H ds i with a|⟨k,l,t,u,v⟩
               . grind
               . exact .inr ⟨k,l,t,by simp only [pT,s];exact u,v⟩
end
section
variable {E:Env} {g:bU} {fid d n:Nat} {kp:kc d} {cf:cb} {ad:Nat}
theorem xF (e:n<=8^d) {tm:List aa} (a:sR E fid n tm=true):aR d n (eB d tm).1=tm/\ej E fid d n (eB d tm).1:=by
 simp only [sR,br,ba,h9,mL] at a;have h:=gk a.1;have b:aR d n (eB d tm).1=tm:=by rw [BV e ab,h];simp
 refine ⟨b,λi c j=> ?_⟩;rw [<-nG e _ c,b];rcases a.2 i c with f|f
 . grind
 . unfold jT
   grind
theorem Good.exit {id:Nat} {F:bq d} {H:af} {ds:List (Nat×List aa)} (hF:ej E fid d n F):Good E fid d n (.exit id F H ds) (.exit id (aR d n F) H ds):=by
 refine .inr ⟨rfl,?_,?_,?_⟩
 all_goals grind
theorem Good.ret {F:bq d} {H:af} {ds:List (Nat×List aa)} (hF:ej E fid d n F):Good E fid d n (.ret F H ds) (.ret (aR d n F) H ds):=by
 refine .inr ⟨rfl,?_,?_,?_⟩
 all_goals grind
theorem aab (f:n<=8^d) (r:bP):Good E fid d n (tY E fid d n r) r:=by
 cases r with
 |fail=>exact .inl rfl
 | normal h a b=>
   simp only [tY];split
   . rename_i c;obtain ⟨i,e⟩:=xF f c;have:=Good.normal (E:=E) (fid:=fid) (d:=d) (n:=n) (H:=a) (ds:=b) e
     grind
   . exact .inl rfl
 | exit id h a b=>
   simp only [tY];split
   . rename_i c;obtain ⟨i,e⟩:=xF f c;have:=Good.exit (E:=E) (fid:=fid) (d:=d) (n:=n) (id:=id) (H:=a) (ds:=b) e
     grind
   . exact .inl rfl
 | ret h a b=>
   simp only [tY];split
   . rename_i c;obtain ⟨i,e⟩:=xF f c;have:=Good.ret (E:=E) (fid:=fid) (d:=d) (n:=n) (H:=a) (ds:=b) e
     grind
   . exact .inl rfl
 | aK j h a b=>
   simp only [tY];split
   . rename_i c;obtain ⟨i,e⟩:=xF f c;have:=Good.aK (E:=E) (fid:=fid) (d:=d) (n:=n) (v:=j) (F:=(eB d h).1) (H:=a) (ds:=b)
     grind
   . exact .inl rfl
theorem Po (hT:du d n kp): ∀(c:Code) (F:bq d) (H:af) (ds:List (Nat×List aa)),ej E fid d n F->
  Good E fid d n (dZ E cf g ad fid d n (dK E g fid d n kp c) F H ds) (evalCode E cf g ad fid c (aR d n F) H ds):=by
 have t: ∀(c:Code) (F:bq d) (H:af) (ds:List (Nat×List aa)),Good E fid d n (dZ E cf g ad fid d n (.bE c) F H ds) (evalCode E cf g ad fid c (aR d n F) H ds):=
  λc F H ds=>aab hT.fit _
 intro c
 induction c with
 |skip=>intro F H ds hF;exact Good.normal hF
 |label R=>intro F H ds hF;exact Good.normal hF
 | exit id=>
   intro F H ds hF;exact Good.exit hF
 | ret=>
   intro F H ds hF;exact Good.ret hF
 |goto R=>intro F H ds hF;exact t _ F H ds
 |refuse X=>intro F H ds hF;exact t _ F H ds
 |scope c _=>intro F H ds hF;exact t _ F H ds
 |rangeFunc S V q u _ _=>intro F H ds hF;exact t _ F H ds
 | region id r L=>
   intro F H ds hF
   cases L with
   | false=>
     simp only [dK]
     cases f:nw E fid d n kp r r.toList with
     |none=>exact t _ F H ds
     |some x=>exact PA hT r.toList x f F H ds hF
   | true=>
     simp only [dK]
     cases f:xA E g fid d n kp id r with
     |none=>exact t _ F H ds
     | some x=>
       simp only [wx];unfold xA at f
       cases C:g fid id with
       |none=>grind
       | some z=>
         rw [C] at f;simp only at f
         cases D:z.rs with
         |cons s W=>grind
         |nil=>
         rw [D] at f;simp only at f;rcases Pz (cf:=cf) (g:=g) (ad:=ad) hT r.toList z.dV x f F H ds hF with k|⟨a,b,l,m,v⟩
         . exact .inl k
         . rw [v];have M:evalCode E cf g ad fid (.region id r true) (aR d n F) H ds= .normal (aR d n a) b ds:=by simp only [evalCode,hK,C,D];obtain ⟨Y,P,Q⟩:=Zv _ _ _ _ m;unfold mw;simp only [P,abU _ _ _ (Py _ _ _ f),Q]
           rw [M];exact Good.normal l
 | seq q u G I=>
   intro F H ds hF
   have o:dZ E cf g ad fid d n (dK E g fid d n kp (.seq q u)) F H ds=(match dZ E cf g ad fid d n (dK E g fid d n kp q) F H ds with
    | .normal F H ds=>dZ E cf g ad fid d n (dK E g fid d n kp u) F H ds
    |s=>s):=rfl
   rw [o];simp only [evalCode];rcases G F H ds hF with k|⟨l,m,v,w⟩
   . rw [k];exact .inl rfl
   . rw [<-l]
     cases i:dZ E cf g ad fid d n (dK E g fid d n kp q) F H ds with
     |normal a b e=>exact I a b e (m _ _ _ i)
     |exit id a b e=>exact Good.exit ah
     |ret a b e=>exact Good.ret (w _ _ _ i)
     |aK J a b e=>exact Good.aK
     |fail=>exact .inl rfl
 | cond c q u G I=>
   intro F H ds hF;simp only [dK];split
   . rename_i f
     have o:dZ E cf g ad fid d n (.cond (h E fid d kp c) (dK E g fid d n kp q) (dK E g fid d n kp u)) F H ds=(match h E fid d kp c F with
      | .bool K=>match K with
        |true=>dZ E cf g ad fid d n (dK E g fid d n kp q) F H ds
        |false=>dZ E cf g ad fid d n (dK E g fid d n kp u) F H ds
      |_=> .fail):=rfl
     rw [o,hk hT f hF];simp only [evalCode];split
     . grind
     . exact .inl rfl
   grind
 | block id c y=>
   intro F H ds hF
   have o:dZ E cf g ad fid d n (dK E g fid d n kp (.block id c)) F H ds=(match dZ E cf g ad fid d n (dK E g fid d n kp c) F H ds with
    | .exit j F H ds=>match Nat.beq j id with
      |true=> .normal F H ds
      |false=> .exit j F H ds
    |s=>s):=rfl
   rw [o];simp only [evalCode];rcases y F H ds hF with k|⟨l,m,v,w⟩
   . rw [k];exact .inl rfl
   . rw [<-l]
     cases i:dZ E cf g ad fid d n (dK E g fid d n kp c) F H ds with
     |normal a b e=>exact Good.normal (m _ _ _ i)
     | exit j a b e=>
       have B:=v _ _ _ _ i;simp only [AP];by_cases A:j=id
       . subst A;simp only [show Nat.beq j j=true from Nat.beq_refl _,if_true];exact Good.normal B
       . have:Nat.beq j id=false:=by
          cases T:Nat.beq j id with
          |false=>rfl
          |true=>simp_all
         simp only [this,if_neg A];exact Good.exit B
     |ret a b e=>exact Good.ret (w _ _ _ i)
     |aK J a b e=>exact Good.aK
     |fail=>exact .inl rfl
 | loop c y=>
   intro F H ds hF;have o:dZ E cf g ad fid d n (dK E g fid d n kp (.loop c)) F H ds=vI d (dZ E cf g ad fid d n (dK E g fid d n kp c)) ad F H ds:=rfl;rw [o];simp only [evalCode];have U: ∀(p:Nat) (F:bq d) (H:af) (ds:List (Nat×List aa)),ej E fid d n F->
     Good E fid d n (vI d (dZ E cf g ad fid d n (dK E g fid d n kp c)) p F H ds) (iter (evalCode E cf g ad fid c) p (aR d n F) H ds):=by
    intro p
    induction p with
    |zero=>intro F H ds _;exact .inl rfl
    | succ p O=>
      intro F H ds hF
      have N:vI d (dZ E cf g ad fid d n (dK E g fid d n kp c)) (p+1) F H ds=(match dZ E cf g ad fid d n (dK E g fid d n kp c) F H ds with
       | .normal F H ds=>vI d (dZ E cf g ad fid d n (dK E g fid d n kp c)) p F H ds
       |s=>s):=rfl
      rw [N];simp only [iter];rcases y F H ds hF with k|⟨l,m,v,w⟩
      . rw [k];exact .inl rfl
      . rw [<-l]
        cases i:dZ E cf g ad fid d n (dK E g fid d n kp c) F H ds with
        |normal a b e=>exact O a b e (m _ _ _ i)
        |exit id a b e=>exact Good.exit ah
        |ret a b e=>exact Good.ret (w _ _ _ i)
        |aK J a b e=>exact Good.aK
        |fail=>exact .inl rfl
   grind
end
section
variable (E:Env) (g:bU) (fid d n:Nat) (kp:kc d)
def u3 (r:ResultVar):Option (nh d):=match r with
 | .tmp a=>match Nat.blt a n with
   |true=>some (.tmp (kp.g a))
   |false=>none
 | .cell b a=>match v E n (.tmp b) with
   | true=>match bZ E a,aW E a with
     |some e,some c=>some (.cell (h E fid d kp (.tmp b)) e (jS c))
     |_,_=>none
   |false=>none
def q9:List ResultVar->Option (List (nh d))
 | []=>some []
 | a::rs=>match u3 E fid d n kp a,q9 rs with
   |some b,some c=>some (b::c)
   |_,_=>none
def sJ (fn:Func):Option (fo d×List (nh d)):=match fn.body,q9 E fid d fn.ntmps kp fn.results.toList with
 |some a,some b=>some (dK E g fid d fn.ntmps kp a,b)
 |_,_=>none
variable {E g fid d n kp} {cf:cb} {ad:Nat}
theorem Y5 (hT:du d n kp) {F:bq d} (hF:ej E fid d n F) {H:af}: ∀(rs:List ResultVar) (xs:List (nh d)) (h vs:List aa),q9 E fid d n kp rs=some xs->oa d n F H xs h=some vs->
  ∃e,hU E (aR d n F) H rs=some e/\vs=h.reverse++e:=by
 intro rs
 induction rs with
 | nil=>
   intro xs h vs c a;simp only [q9,N] at c;subst c;simp only [oa,N] at a;subst a;exact ⟨[],rfl,ai⟩
 | cons r rs q=>
   intro xs h vs c a;simp only [q9] at c;split at c
   case h_2=>cases c
   rename_i z t b p;simp only [N] at c;subst c
   cases r with
   | tmp f=>
     simp only [u3] at b;split at b
     case h_2=>cases b
     rename_i k;simp only [N] at b;subst b;have o:f<n:=er k;simp only [oa] at a;obtain ⟨e,j,m⟩:=q t _ vs p a;refine ⟨fN d f F::e,?_,by rw [m,hT.g f o];simp⟩;simp only [hU,lx,nG hT.fit F o,j]
   | cell l f=>
     simp only [u3] at b;split at b
     case h_2=>cases b
     rename_i k;split at b
     case h_2=>cases b
     rename_i y x v w;simp only [N] at b;subst b;simp only [oa] at a;split at a
     case h_2=>cases a
     rename_i s i;rw [dn] at a;obtain ⟨e,j,m⟩:=q t _ vs p a;refine ⟨s::e,?_,ah⟩;have u:dW E f (B E (aR d n F) (.tmp l)) (aR d n F) H=some s:=by
      rw [hk hT k hF] at i;unfold dW;simp only [v,w]
      cases a:ui d n F H (B E (aR d n F) (.tmp l)) with
      |none=>rw [a] at i;cases i
      |some r=>rw [Lo hT.fit a,<-a];exact i
     simp only [hU,lx,u,j]
theorem X6 {vs:Option (List aa)} {H:af} {tm:List aa} {fn:Func} (e: ∀a,vs=some a->hU E tm H fn.results.toList=some a) (c:rW vs H≠ .fail):rW vs H=hA E fn tm H:=by
 cases vs with
 |none=>exact absurd rfl c
 | some a=>
   have f:=e a rfl;unfold hA;rw [f];unfold rW at c|-;simp only at c|-
   match a with
   | [h]=>
     simp only at c|-
     cases j:aD h with
     |true=>simp
     |false=>simp
   | []=>simp
   | i::b::l=>
     grind
theorem Q8 {c:xc} {fn:Func} {kp:kc c.d} (q:c.n=fn.ntmps) (hT:du c.d c.n kp) (h:sJ E g fid c.d kp fn=some (c.code,c.res)) (C:E.cL fid=none) (x:E.fns fid=some fn) (args:List aa) (H:af)
  (e:xP E cf g ad fid c fn args H≠ .fail):xP E cf g ad fid c fn args H=nE E cf g ad fid args H:=by
 obtain ⟨d,n,K,R⟩:=c;simp only at q kp hT h;subst q;unfold xP at e|-;split at e
 case h_2=>grind
 rename_i m;simp only [br] at m;have p:args.length<=fn.ntmps:=de;simp only at e|-;unfold sJ at h;split at h
 case h_2=>cases h
 rename_i k j w D;simp only [N,bz] at h;obtain ⟨rfl,rfl⟩:=h;have l:aR d fn.ntmps (eB d args).1=args++List.replicate (fn.ntmps-args.length) (.av []):=BV hT.fit p;have v:ej E fid d fn.ntmps (eB d args).1:=by
  intro G A O;have:=x9 hT.fit (eB d args).1 A;rw [l,kC] at this;split at this
  . have i:=ba.1 m.2 _ (aV this);cases z:fN d G (eB d args).1<;>first|rfl|(rw [z] at i;cases i)
  . rw [yP] at this;split at this
    . simp only [N] at this;rw [<-this];rfl
    omega
 have o:=Po (cf:=cf) (g:=g) (ad:=ad) hT k (eB d args).1 H [] v;rw [l] at o;unfold nE;simp only [C,x,w];rw [if_pos p];rcases o with y|⟨u,i,L,M⟩
 . rw [y] at e;exact absurd rfl e
 . rw [<-u];generalize dZ E cf g ad fid d fn.ntmps (dK E g fid d fn.ntmps kp k) (eB d args).1 H []=I at*;have s: ∀b a,ej E fid d fn.ntmps b->rW (oa d fn.ntmps b a j []) a≠ .fail->rW (oa d fn.ntmps b a j []) a=hA E fn (aR d fn.ntmps b) a:=by
    intro b a hF B;refine X6 (λJ F=> ?_) B;obtain ⟨T,P,Q⟩:=Y5 hT hF fn.results.toList j [] J D F
    grind
   cases I with
   | normal b a f=>
     cases f with
     | nil=>
       exact s b a ah e
     |cons t r=>rfl
   | ret b a f=>
     cases f with
     | nil=>
       exact s b a ah e
     |cons t r=>rfl
   | aK S b a f=>
     cases f with
     |nil=>rfl
     |cons t r=>rfl
   |exit id b a f=>rfl
   |fail=>rfl
structure uN (E:Env) (P:Program) (g:bU) (hl:Nat->Option iW):Prop where
  tab:uQ E P g
  oL: ∀f x fn,hl f=some (.oL x fn)->E.cL f=none/\E.fns f=some fn/\x.n=fn.ntmps/\ ∃kp:kc x.d,du x.d x.n kp/\sJ E g f x.d kp fn=some (x.code,x.res)
  cL: ∀f p,hl f=some (.cL p)-> ∀args H,e9 E P f args H (p args H)
theorem Q_ {P:Program} {b:Nat->Option iW} (e:uN E P g b): ∀(m f:Nat) (args:List aa) (H:af),e9 E P f args H (hJ E g ad b m f args H):=by
 intro m
 induction m with
 |zero=>intro f args H a;exact absurd rfl a
 | succ m r=>
   intro f args H a
   have q:hJ E g ad b (m+1) f args H=(match b f with
    |some c=>BJ E g ad f (hJ E g ad b m) args H c
    |none=> .fail):=rfl
   rw [q] at a|-
   cases h:b f with
   |none=>grind
   | some c=>
     rw [h] at a;simp only at a|-
     cases c with
     |cL s=>exact e.cL f s h args H a
     | oL c fn=>
       obtain ⟨j,k,l,kp,o,p⟩:=e.oL f c fn h;simp only [BJ] at a|-;have i:=Q8 (g:=g) (fid:=f) (cf:=hJ E g ad b m) (ad:=ad) l o p j k args H a;rw [i] at a|-;exact Hm e.tab r f args H a
end
inductive x (α:Type) where
  |leaf (v:Option α)
  |node (k:Nat) (l r:x α)
variable {α:Type}
noncomputable def x.get (t:x α) (n:Nat):Option α:=
 x.rec (motive:=λ_=>Option α) (λd=>d) (λc _ _ a b=>match Nat.blt n c with
  |true=>a
  |false=>b) t
def hv (n:Nat):List Nat->Bool
 | []=>false
 | a::l=>match Nat.beq n a with
   |true=>true
   |false=>hv n l
def r6 (id:Nat):Code->Option Code
 | .region d f e=>match Nat.beq d id with
   |true=>some (.region d f e)
   |false=>none
 | .seq a b=>match r6 id a with
   |some c=>some c
   |none=>r6 id b
 | .cond _ a b=>match r6 id a with
   |some c=>some c
   |none=>r6 id b
 | .block _ a=>r6 id a
 | .loop a=>r6 id a
 |_=>none
def YX (fn:Func) (id:Nat):Code:=match fn.body with
 | some a=>match r6 id a with
   |some a=>a
   |none=> .skip
 |none=> .skip
noncomputable def upto {α:Type} (n:Nat) (t:x α) (k:Nat):Option α:=match Nat.blt k n with
 |true=>t.get k
 |false=>none
def Fh {α:Type} {n:Nat} {t:x α} {k:Nat} {v:α} (a:upto n t k=some v):k<n:=by
 unfold upto at a;split at a
 all_goals simp_all
def tN {α:Type} (f g:Nat->Option α) (n:Nat):Option α:=match f n with
 |some _=>g n
 |none=>none
def JE {α:Type} {f g:Nat->Option α} {n:Nat} (b:(List.range n).map f=(List.range n).map (tN f g)) (c: ∀k v,f k=some v->k<n): ∀k v,f k=some v->g k=some v:=by
 intro k v a;have d:=c k v a;have:=congrArg (λe=>e[k]?) b;simp only [hO,List.getElem?_range d,jV,N] at this;rw [a] at this;unfold tN at this
 grind
def Fy (E:Env) (t:Nat):Bool:=match E.T t with
 | some a=>match a.zero with
   |some b=>(s 2 b).cells.all J&&Nat.beq (s 2 b).cells.length a.size
   |none=>false
 |none=>true
def D3 (E:Env) (f:Nat):Bool:=match E.fns f with
 |some fn=> !(fn.name== "runtime.NumGoroutine")
 |none=>true
def ug (E:Env) (R:bU) (f:Nat):Bool:=match E.fns f with
 | some fn=>match fn.body with
   |some a=>fl E R f a
   |none=>true
 |none=>true
def mU (R:bU) (f:Nat):Code->Bool
 | .region id _ c=> !c||(R f id).isNone
 | .seq a b=>mU R f a&&mU R f b
 | .cond _ a b=>mU R f a&&mU R f b
 | .block _ a=>mU R f a
 | .loop a=>mU R f a
 |_=>true
def D_ (E:Env) (R:bU) (f:Nat):Bool:=match E.fns f with
 | some fn=>match fn.body with
   |some a=>mU R f a
   |none=>true
 |none=>true
theorem W8 {E:Env} {R:bU} {f:Nat}: ∀c,mU R f c=true->fl E R f c=true:=by
 intro c
 induction c with
 | region id j i=>
   intro a
   cases i with
   |false=>rfl
   | true=>
     simp only [mU,alI,anB,Option.isNone_iff_eq_none] at a;simp only [fl,a]
 |seq b h e g=>intro a;simp only [mU,br] at a;simp only [fl,e a.1,g a.2,tu]
 |cond c b h e g=>intro a;simp only [mU,br] at a;simp only [fl,e a.1,g a.2,tu]
 |block id b d=>intro a;exact d a
 |loop b d=>intro a;exact d a
 |_=>intro _;rfl
def nq (p:Nat->Bool):List Nat->Bool
 | []=>true
 |a::l=>p a&&nq p l
theorem Ob (p:Nat->Bool):nq p []=true:=rfl
def Oa {p:Nat->Bool} {x:Nat} {l:List Nat} (a:p x=true) (b:nq p l=true):nq p (x::l)=true:=by simp [nq,a,b]
def F5 {p:Nat->Bool} {f:Nat}: ∀ {l:List Nat},nq p l=true->hv f l=true->p f=true
 | [],_,a=>by cases a
 | c::l,b,a=>by
   simp only [nq,br] at b;simp only [hv] at a;split at a
   . simp_all
   . exact F5 b.2 a
def WB {E:Env} {P:Program} {R:bU} {g d:Nat} {l:List Nat} {F:x TypeInfo} {r:x Func} (A: ∀t,E.nD t=true->P.stoodInHeld t=false/\P.eqGuardType P.depth t=false)
    (hT:(List.range g).map E.T=(List.range g).map (tN E.T P.info?)) (u:(List.range g).all (Fy E)=true) (hF:(List.range d).map E.fns=(List.range d).map (tN E.fns λf=>P.funcs[f]?))
    (hN:(List.range d).all (D3 E)=true) (y:P.follows .mixedOrders=true) (B:nq (ug E R) l=true) (z:(List.range d).all (λf=>hv f l||D_ E R f)=true) (G: ∀f,E.cL f=none)
    (w: ∀e n,E.dH e n=true-> ∀k,1<=k->liesAt P P.depth e k 0 n 1=true)
    (q:E.T=upto g F:=by rfl) (p:E.fns=upto d r:=by rfl):uQ E P R:=by
 have m: ∀b h,E.T b=some h->b<g:=λb h a=>by rw [q] at a;exact Fh a
 have j: ∀b h,E.fns b=some h->b<d:=λb h a=>by rw [p] at a;exact Fh a
 have D:=JE hF j;refine ⟨⟨λt C a=> ?_,JE hT m,λf i a=>⟨D f i a,?_⟩,A,w⟩,y,λf i o a v=> ?_,ah⟩
 . have:=ba.1 u t (by simpa using m t C a);unfold Fy at this;rw [a] at this;simp only at this;split at this
   all_goals simp_all
 . have:=ba.1 hN f (by simpa using j f i a);unfold D3 at this
   grind
 . have:=ba.1 z f (by simpa using j f i a);simp only [mL] at this;rcases this with c|c
   . have s:=F5 B c;unfold ug at s
     grind
   . unfold D_ at c;rw [a] at c;simp only [v] at c;exact W8 o c
def x.k0 {α:Type} (p:Nat->α->Prop):Nat->Nat->x α->Prop
 |_,_,.leaf none=>True
 |b,a,.leaf (some g)=> ∀c,b<=c->c<a->p c g
 |b,a,.node d e f=>x.k0 p b d e/\x.k0 p d a f
def x.F7 {α:Type} {p:Nat->α->Prop} {n:Nat} {v:α}: ∀(t:x α) (lo c:Nat),x.k0 p lo c t->lo<=n->n<c->t.get n=some v->p n v:=by
 intro t
 induction t with
 | leaf o=>
   intro lo c d e f a;have a:o=some v:=a;subst a;exact d n e f
 | node b i j l m=>
   intro lo c d e f a;have k:(x.node b i j).get n=(match Nat.blt n b with|true=>i.get n|false=>j.get n):=rfl;rw [k] at a
   cases g:Nat.blt n b with
   | true=>
     rw [g] at a;exact l lo b d.1 e (er g) a
   | false=>
     rw [g] at a;refine m b c d.2 ?_ f a;rcases qk n b with h|h
     . have:Nat.blt n b=true:=h_ h
       grind
     omega
def Ga {α:Type} {p:Nat->α->Prop} {k:Nat} {v:α} (a:p k v): ∀n,k<=n->n<k+1->p n v:=by
 grind
def ye (d:Nat) (i:Nat) (g:H d):Prop:= ∀a,g a=fN d i a
def zM (d:Nat) (i:Nat) (s:Set d):Prop:= ∀c a b,s c a b=b (eK d i c a)
noncomputable def dN (d:Nat) (e:x (H d)) (st:x (Set d)):kc d:=⟨λa=>match e.get a with
 |some c=>c
 |none=>fN d a,λa=>match st.get a with
 |some g=>g
 |none=>λh b f=>f (eK d a h b)⟩
def aaS {d n:Nat} {a:x (H d)} {st:x (Set d)} (f:x.k0 (ye d) 0 (8^d) a) (i:x.k0 (zM d) 0 (8^d) st) (h:n<=8^d):du d n (dN d a st):=by
 refine ⟨h,λe g b=> ?_,λe g k b j=> ?_⟩
 . simp only [dN]
   cases c:a.get e with
   |none=>rfl
   |some l=>exact x.F7 a 0 (8^d) f ab ab c b
 . simp only [dN]
   cases c:st.get e with
   |none=>rfl
   |some m=>exact x.F7 st 0 (8^d) i ab ab c k b j
def pU (E:Env) (P:Program) (g:bU) (f:Nat):iW->Prop
 | .oL a fn=>E.cL f=none/\E.fns f=some fn/\a.n=fn.ntmps/\ ∃c:kc a.d,du a.d a.n c/\sJ E g f a.d c fn=some (a.code,a.res)
 | .cL h=> ∀e b,e9 E P f e b (h e b)
noncomputable section
variable {R:Type} (E:Env) (g:bU) (fid d n:Nat) (aG:x (H d)) (st:x (Set d))
def v7 (i:Nat) (k:H d->R):R:=match aG.get i with
 |some a=>k a
 |none=>k (fN d i)
def jW (i:Nat) (k:Set d->R):R:=match st.get i with
 |some b=>k b
 |none=>k λc a k=>k (eK d i c a)
def eU (x:Operand) (k:H d->R):R:=match x with
 | .tmp b=>match E.loc fid b with
   |true=>k (B0 d b)
   |false=>v7 d aG b k
 | .const a=>ed (s 2 a) λa=>k (s9 d a)
 | .global e=>ed (E.G e) λa=>k (s9 d a)
 | .func c=>k (s9 d (.fn (.func c) [] []))
def nU (xs:List Operand) (k:List (H d)->R):R:=match xs with
 | []=>k []
 |c::xs=>eU E fid d aG c λa=>nU xs λb=>k (a::b)
def gZ (x:Operand) (r e:R):R:=match v E n x with
 |true=>r
 |false=>e
abbrev w9 (d:Nat):=aa->aa->b0 d->(aa->b0 d)->b0 d
def Dd (op:BinOp) (t:Nat) (k:w9 d->R):R:=match aW E t with
 | some (.int a)=>match op with
   | .add=>match decide (a= .i64) with
     |true=>k (xq E t)
     |false=>k (iF E .add t)
   | .lss=>k (kk E a .lss t)
   | .gtr=>k (kk E a .gtr t)
   | .leq=>k (kk E a .leq t)
   | .geq=>k (kk E a .geq t)
   | .eql=>k (kk E a .eql t)
   | .neq=>k (kk E a .neq t)
   |op=>k (iF E op t)
 | some .string=>match op with
   | .eql=>k (sZ E .eql t)
   | .neq=>k (sZ E .neq t)
   |op=>k (iF E op t)
 |_=>k (iF E op t)
def y2 (c:Call) (so:Option (Set d)) (o:Oper) (k:cX d->R):R:=match c.callee with
 | .value a=>match c.args.toList.all (v E n) with
   | true=>match a with
     | .func b=>nU E fid d aG c.args.toList λe=>k (.call b e so)
     |a=>gZ E n a (eU E fid d aG a λb=>nU E fid d aG c.args.toList λe=>k (.Bm b e so)) (k (.bE o))
   |false=>k (.bE o)
 |_=>k (.bE o)
def Dl (t:Nat) (x:Operand) (i:Nat) (o:Oper) (k:cX d->R):R:=match aW E t with
 |some .string=>gZ E n x (eU E fid d aG x λa=>jW d st i λb=>k (.un a x2 b)) (k (.bE o))
 |some (.slice _)=>gZ E n x (eU E fid d aG x λa=>jW d st i λb=>k (.un a x1 b)) (k (.bE o))
 |_=>k (.bE o)
def qm (x:Operand) (i:Nat) (o:Oper) (f:aa->b0 d->(aa->b0 d)->b0 d) (k:cX d->R):R:=
 gZ E n x (eU E fid d aG x λa=>jW d st i λb=>k (.un a f b)) (k (.bE o))
def tI (x y:Operand) (i:Nat) (o:Oper) (f:w9 d) (k:cX d->R):R:=
 gZ E n x (gZ E n y (eU E fid d aG x λa=>eU E fid d aG y λb=>jW d st i λc=>k (.bi a b f c)) (k (.bE o))) (k (.bE o))
def Di (i:Nat) (o:Oper) (k:cX d->R):R:=match o.op with
 | .move a=>gZ E n a (eU E fid d aG a λj=>jW d st i λb=>k (.qt j b)) (k (.bE o))
 | .assign a=>gZ E n a (eU E fid d aG a λj=>jW d st i λb=>k (.qt j b)) (k (.bE o))
 | .pick h m p=>gZ E n h (gZ E n m (gZ E n p (eU E fid d aG h λz=>eU E fid d aG m λx=>eU E fid d aG p λy=>jW d st i λb=>k (.pick z x y b)) (k (.bE o))) (k (.bE o))) (k (.bE o))
 | .nilCheck a=>qm E fid d n aG st a i o x3 k
 | .unOp op _ a=>match op with
   | .not=>qm E fid d n aG st a i o x4 k
   |op=>qm E fid d n aG st a i o (x6 op) k
 | .binOp op c a D _=>Dd E d op c λr=>tI E fid d n aG st a D i o r k
 | .load c m=>match bZ E c,aW E c with
   |some e,some u=>bC e λe=>gC (jS u) λt=>gZ E n m (eU E fid d aG m λj=>jW d st i λb=>k (.DQ j e t b)) (k (.bE o))
   |_,_=>k (.bE o)
 | .fieldAddr b a r=>match aW E b with
   | some (.struct v)=>match v[r]? with
     | some s=>match bZ E s.type with
       |some (_+1)=>bC s.offset λB=>qm E fid d n aG st a i o (xV B) k
       |_=>k (.bE o)
     |none=>k (.bE o)
   |_=>k (.bE o)
 | .indexAddr c a l=>match aW E c with
   | some (.slice f)=>match bZ E f with
     |some e=>bC e λe=>tI E fid d n aG st a l i o (x0 e) k
     |none=>k (.bE o)
   | some (.array A f)=>match bZ E f with
     |some e=>bC e λe=>tI E fid d n aG st a l i o (xZ A e) k
     |none=>k (.bE o)
   |_=>k (.bE o)
 | .index c a l=>match aW E c with
   |some .string=>tI E fid d n aG st a l i o xY k
   |_=>k (.bE o)
 | .convert b c a=>match aW E b,aW E c with
   |some (.int _),some (.int C)=>qm E fid d n aG st a i o (xW C) k
   |_,_=>k (.bE o)
 | .extract a l=>qm E fid d n aG st a i o (xX l) k
 | .alloc f=>match bN E f with
   | some q=>match q.cells.all J with
     |true=>w q.cells λq=>jW d st i λb=>k (.D4 f q b)
     |false=>k (.bE o)
   |none=>k (.bE o)
 | .box f a=>gZ E n a (eU E fid d aG a λj=>jW d st i λb=>k (.A0 f j b)) (k (.bE o))
 | .call h=>match h.callee with
   | .builtin p=>match p,h.argTypes.toList,h.args.toList with
     | .len,[c],[a]=>Dl E fid d n aG st c a i o k
     |_,_,_=>k (.bE o)
   |_=>jW d st i λb=>y2 E fid d n aG h (some b) o k
 |_=>k (.bE o)
def Dj (i:Nat) (o:Oper) (k:cX d->R):R:=match o.op with
 | .alloc c=>match bN E c with
   | some a=>match a.cells.all J with
     |true=>w a.cells λa=>k (.D6 a i)
     |false=>k (.bE o)
   |none=>k (.bE o)
 | .box _ b=>gZ E n b (eU E fid d aG b λe=>k (.A1 e i)) (k (.bE o))
 |_=>k (.bE o)
def Dk (o:Oper) (k:cX d->R):R:=match o.op with
 | .store i b c=>match bZ E i with
   |some a=>bC a λa=>gZ E n b (gZ E n c (eU E fid d aG b λf=>eU E fid d aG c λh=>k (.st a f h none)) (k (.bE o))) (k (.bE o))
   |none=>k (.bE o)
 | .call e=>y2 E fid d n aG e none o k
 |_=>k (.bE o)
def Dh (o:Oper) (k:cX d->R):R:=match o.dst with
 | some a=>match Nat.blt a n with
   | true=>match E.loc fid a with
     |false=>Di E fid d n aG st a o k
     |true=>Dj E fid d n aG a o k
   |false=>k (.bE o)
 |none=>Dk E fid d n aG o k
def y3 (so:Option (Set d)) (o:Oper) (k:cX d->R):R:=match uZ E o with
 | some (a,b)=>match a.all (v E n) with
   |true=>nU E fid d aG a λc=>k (.gen c b so)
   |false=>k (.bE o)
 |none=>k (.bE o)
def tJ (o:Oper) (k:cX d->R):R:=Dh E fid d n aG st o λb=>match CH b with
 |false=>k b
 | true=>match o.dst with
   |none=>y3 E fid d n aG none o k
   | some a=>match Nat.blt a n&& !E.loc fid a with
     |true=>jW d st a λc=>y3 E fid d n aG (some c) o k
     |false=>k (.bE o)
abbrev asE:kc d:=dN d aG st
theorem Dg (i:Nat) (k:H d->R):v7 d aG i k=k ((dN d aG st).g i):=by unfold v7 dN;grind
theorem tL (i:Nat) (k:Set d->R):jW d st i k=k ((dN d aG st).s i):=by unfold jW dN;grind
theorem ia (x:Operand) (k:H d->R):eU E fid d aG x k=k (h E fid d (dN d aG st) x):=by unfold eU h;cases x<;>simp only [dn];cases E.loc fid _<;>simp only [Dg d aG st]
theorem vZ (xs:List Operand) (k:List (H d)->R):nU E fid d aG xs k=k (xs.map (h E fid d (dN d aG st))):=by
 induction xs generalizing k with
 |nil=>rfl
 |cons b xs a=>simp only [nU,ia E fid d aG st,a,fS]
theorem rD (x:Operand) (o:Oper) (r:cX d) (k:cX d->R):gZ E n x (k r) (k (.bE o))=k (g1 E d n x o r):=by unfold gZ g1;grind
theorem T3 (op:BinOp) (t:Nat) (k:w9 d->R):Dd E d op t k=k (uY E op t):=by
 unfold Dd uY
 grind
theorem IV (c:Call) (so:Option (Set d)) (o:Oper) (k:cX d->R):y2 E fid d n aG c so o k=k (sI E fid d n (dN d aG st) c so o):=by
 unfold y2 sI
 cases c.callee with
 | value a=>
   simp only
   cases c.args.toList.all (v E n) with
   |true=>cases a<;>simp only [vZ E fid d aG st,ia E fid d aG st,rD]
   |false=>rfl
 |_=>rfl
theorem Ud (x:Operand) (i:Nat) (o:Oper) (f:aa->b0 d->(aa->b0 d)->b0 d) (k:cX d->R):qm E fid d n aG st x i o f k=k (g1 E d n x o (.un (h E fid d (dN d aG st) x) f ((dN d aG st).s i))):=by unfold qm;simp only [ia E fid d aG st,tL d aG st,rD]
theorem T2 (x y:Operand) (i:Nat) (o:Oper) (f:w9 d) (k:cX d->R):
  tI E fid d n aG st x y i o f k=k (g1 E d n x o (g1 E d n y o (.bi (h E fid d (dN d aG st) x) (h E fid d (dN d aG st) y) f ((dN d aG st).s i)))):=by
 unfold tI;simp only [ia E fid d aG st,tL d aG st,rD]
theorem Ub (t:Nat) (x:Operand) (i:Nat) (o:Oper) (k:cX d->R):Dl E fid d n aG st t x i o k=k (xz E fid d n (dN d aG st) t x i o):=by
 unfold Dl xz;cases aW E t with
 |none=>rfl
 |some a=>cases a<;>simp only [ia E fid d aG st,tL d aG st,rD]
theorem T8 (i:Nat) (o:Oper) (k:cX d->R):Di E fid d n aG st i o k=k (u0 E fid d n (dN d aG st) i o):=by
 unfold Di u0;cases o.op<;>simp only [ia E fid d aG st,tL d aG st,rD,Ud,T2,T3,c1,mz,bu]
 case unOp s a b=>grind
 case load a m=>grind
 case fieldAddr l b q=>
  grind
 case indexAddr a b j=>
  grind
 case index a b j=>
  grind
 case convert l a b=>
  grind
 case alloc p=>
  grind
 case call c=>
  cases r:c.callee with
  | builtin h=>
    simp only;cases h<;>try rfl
    generalize c.argTypes.toList=e;generalize c.args.toList=f;rcases e with _|⟨a,_|⟨t,e⟩⟩<;>try rfl
    rcases f with _|⟨b,_|⟨u,f⟩⟩<;>try rfl
    exact Ub E fid d n aG st _ _ _ _ _
  |_=>exact IV E fid d n aG st _ _ _ _
theorem T9 (i:Nat) (o:Oper) (k:cX d->R):Dj E fid d n aG i o k=k (u1 E fid d n (dN d aG st) i o):=by
 unfold Dj u1;cases o.op<;>simp only [ia E fid d aG st,rD,bu]
 grind
theorem T_ (o:Oper) (k:cX d->R):Dk E fid d n aG o k=k (u2 E fid d n (dN d aG st) o):=by
 unfold Dk u2;cases o.op<;>simp only [ia E fid d aG st,rD,c1,IV E fid d n aG st]
 grind
theorem Ua (o:Oper) (k:cX d->R):Dh E fid d n aG st o k=k (q8 E fid d n (dN d aG st) o):=by
 unfold Dh q8
 cases o.dst with
 |none=>exact T_ E fid d n aG st _ _
 | some a=>
   simp only
   cases Nat.blt a n with
   |false=>rfl
   | true=>
     simp only
     cases E.loc fid a with
     |false=>exact T8 E fid d n aG st _ _ _
     |true=>exact T9 E fid d n aG st _ _ _
theorem IW (so:Option (Set d)) (o:Oper) (k:cX d->R):y3 E fid d n aG so o k=k (sK E fid d n (dN d aG st) so o):=by
 unfold y3 sK
 cases uZ E o with
 |none=>rfl
 | some a=>
   obtain ⟨b,c⟩:=a;simp only
   cases b.all (v E n) with
   |true=>exact vZ E fid d aG st _ _
   |false=>rfl
theorem y5 (o:Oper) (k:cX d->R):tJ E fid d n aG st o k=k (jK E fid d n (dN d aG st) o):=by
 unfold tJ jK;rw [Ua]
 cases CH (q8 E fid d n (dN d aG st) o) with
 |false=>rfl
 | true=>
   simp only
   cases o.dst with
   |none=>exact IW E fid d n aG st _ _ _
   | some a=>
     simp only
     cases Nat.blt a n&& !E.loc fid a with
     |true=>simp only;rw [tL d aG st];exact IW E fid d n aG st _ _ _
     |false=>rfl
end
end Go.aj
