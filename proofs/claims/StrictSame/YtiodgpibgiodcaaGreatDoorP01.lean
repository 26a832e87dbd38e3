/- A part of the proof. -/
import Derived.Attr
import Derived.Calls
import Derived.Defers
import Derived.Laws.Strings
import Derived.Recover
import GoSem.ClaimJoined
import Derived.Test.YtiodgpibgiodcaaGreatDoorP00
set_option linter.all false
set_option maxHeartbeats 4000000
namespace Go.aj
inductive aa where
  |bad
  |bool (b:Bool)
  |int (k:IntKind) (n:Int)
  |str (len num:Nat)
  |agg (cs:List aa)
  |av (vs:List aa)
  |dz
  |ptr (id gen off lim:Nat)
  |b5 (cs:List aa) (off:Nat)
  |W (aas:Nat) (cs:List aa)
  |cR (slot aas off:Nat)
  |V
  |A (rows:List (List aa)) (clip:Bool)
  |ref (id gen off k len:Nat) (clip:Bool)
  |ef
  |map (id:Nat)
  |ck (ks vs:List aa)
  |eA
  |fn (f:Fn) (first cap:List aa)
  |dj
  |iface (t:TypeId) (v:aa)
  |it (id:Nat)
  deriving Inhabited
abbrev Y:=List (List aa)
abbrev bo (P:Nat->Nat->Prop):Prop:= ∃a,∀b c,a<=b->a<=c->P b c
inductive Obj where
  |cells (gen u_ ro:Nat) (cs:List aa)
  |map (aI:Bool) (ks vs:List aa)
  |iter (len num pos:Nat)
  |gone
  |uj
  deriving Inhabited
structure af where
  n:Nat
  l:List Obj
  deriving Inhabited
section
variable {α:Type}
def bC (n:Nat) (k:Nat->α):α:=match n with
 |0=>k 0
 | .succ a=>k (.succ a)
@[simp] theorem c1 (n:Nat) (k:Nat->α):bC n k=k n:=by cases n<;>rfl
def h1 (n:Int) (k:Int->α):α:=match n with
 | .ofNat a=>bC a λa=>k (.ofNat a)
 | .negSucc a=>bC a λa=>k (.negSucc a)
@[simp] theorem pQ (n:Int) (k:Int->α):h1 n k=k n:=by cases n<;>simp [h1]
def gC (b:Bool) (k:Bool->α):α:=match b with
 |true=>k true
 |false=>k false
@[simp] theorem mz (b:Bool) (k:Bool->α):gC b k=k b:=by cases b<;>rfl
def w {β:Type} (l:List β) (k:List β->α):α:=match l with
 | []=>k []
 |b::a=>w a λa=>k (b::a)
@[simp] theorem bu {β:Type} (l:List β) (k:List β->α):w l k=k l:=by
 induction l generalizing k with
 |nil=>rfl
 |cons b c a=>simp [w,a]
def re {β:Type} (l:List (List β)) (k:List (List β)->α):α:=match l with
 | []=>k []
 |a::b=>w a λa=>re b λb=>k (a::b)
@[simp] theorem rf {β:Type} (l:List (List β)) (k:List (List β)->α):re l k=k l:=by
 induction l generalizing k with
 |nil=>rfl
 |cons b c a=>simp [re,a]
def ed (v:aa) (k:aa->α):α:=match v with
 | .bad=>k .bad
 | .bool b=>gC b λb=>k (.bool b)
 | .int l h=>h1 h λh=>k (.int l h)
 | .str a b=>bC a λa=>bC b λb=>k (.str a b)
 | .agg d=>w d λd=>k (.agg d)
 | .av d=>w d λd=>k (.av d)
 | .dz=>k .dz
 | .ptr a b c e=>bC a λa=>bC b λb=>bC c λc=>bC e λe=>k (.ptr a b c e)
 | .b5 d i=>bC i λi=>k (.b5 d i)
 | .W j d=>bC j λj=>w d λd=>k (.W j d)
 | .cR a b c=>bC a λa=>bC b λb=>bC c λc=>k (.cR a b c)
 | .V=>k .V
 | .A m c=>gC c λc=>k (.A m c)
 | .ref a b c e f g=>bC a λa=>bC b λb=>bC c λc=>bC e λe=>bC f λf=>gC g λg=>k (.ref a b c e f g)
 | .ef=>k .ef
 | .map a=>bC a λa=>k (.map a)
 | .ck a b=>k (.ck a b)
 | .eA=>k .eA
 | .fn a b c=>w b λb=>w c λc=>k (.fn a b c)
 | .dj=>k .dj
 | .iface n v=>k (.iface n v)
 | .it a=>bC a λa=>k (.it a)
@[simp] theorem dn (v:aa) (k:aa->α):ed v k=k v:=by cases v<;>simp [ed]
end
def M (l:List aa) (i:Nat):aa:=match l,i with
 | [],_=> .av []
 |a::_,0=>a
 |_::l,i+1=>M l i
def r (l:List aa) (i:Nat) (v:aa):List aa:=match l,i with
 | [],_=> []
 |_::l,0=>v::l
 |a::l,i+1=>a::r l i v
def sub (cs:List aa) (off n:Nat):Option (List aa):=
 if off+n<=cs.length then some ((cs.drop off).take n) else none
def cB (cs:List aa) (off:Nat) (vs:List aa):Option (List aa):=
 if off+vs.length<=cs.length then some (cs.take off++(vs++cs.drop (off+vs.length))) else none
def aa.cells:aa->List aa
 | .agg a=>a
 |v=> [v]
def af.empty:af:=⟨0,[]⟩
def af.get (H:af) (id:Nat):Option Obj:=if id<H.n then H.l[H.n-1-id]? else none
def dM {β:Type} (l:List β) (i:Nat) (x:β):List β:=match l,i with
 | [],_=> []
 |_::l,0=>x::l
 |a::l,i+1=>a::dM l i x
def af.set (H:af) (id:Nat) (o:Obj):af:=if id<H.n then ⟨H.n,dM H.l (H.n-1-id) o⟩ else H
def af.push (H:af) (o:Obj):af:=⟨H.n+1,o::H.l⟩
def ep {α:Type} (H:af) (k:af->α):α:=match H with
 |⟨b,a⟩=>bC b λb=>w a λa=>k ⟨b,a⟩
@[simp] theorem c8 {α:Type} (H:af) (k:af->α):ep H k=k H:=by cases H;simp [ep]
def cV:List UInt8->Nat
 | []=>0
 |a::l=>a.toNat+256*cV l
def et (s:ByteArray):Nat:=cV s.data.toList
def en (num i:Nat):Nat:=(num>>>(8*i))%256
def unpack (len num:Nat):List Nat:=match len with
 |0=> []
 |n+1=>num%256::unpack n (num/256)
def bytesOf (len num:Nat):ByteArray:=⟨((unpack len num).map UInt8.ofNat).toArray⟩
def s:Nat->Value->aa
 |_,.bool d=> .bool d
 |_,.int e n=> .int e n
 |_,.string c=> .str c.size (et c)
 |_,.pointer none=> .dz
 |_,.slice none 0 0=> .V
 |_,.map none=> .ef
 |_,.nilFunc=> .eA
 |_,.nilIface=> .dj
 |a+1,.agg b=> .agg (b.toList.map (s a))
 |a+1,.tuple b=> .av (b.toList.map (s a))
 |a+1,.iface f g=> .iface f (s a g)
 |_,_=> .bad
inductive cY where
  |ret (v:aa) (H:af)
  |aK (v:aa) (H:af)
  |fail
  deriving Inhabited
inductive bf where
  |ok (v:aa) (tm:List aa) (H:af)
  |aK (v:aa) (H:af)
  |fail
  deriving Inhabited
structure Env where
  T:Nat->Option TypeInfo
  nD:Nat->Bool
  G:Nat->aa
  fns:Nat->Option Func
  pure:Nat->Bool
  bS:Nat->Bool
  loc:Nat->Nat->Bool
  aI:Nat->Bool
  cL:Nat->Option (List aa->af->cY)
  dH:Nat->Nat->Bool
section
variable (E:Env)
def aW (t:Nat):Option TypeDesc:=
 match E.T t with
 | some a=>match a.desc with
   | .named _ c=>match E.T c with
     |some b=>some b.desc
     |none=>none
   |d=>some d
 |none=>none
def jS:TypeDesc->Bool
 | .struct _=>true
 | .array _ _=>true
 |_=>false
def bZ (t:Nat):Option Nat:=match E.T t with
 |some a=>some a.size
 |none=>none
def bN (t:Nat):Option aa:=match E.T t with
 | some a=>match a.zero with
   |some b=>some (s 2 b)
   |none=>none
 |none=>none
def B (tm:List aa):Operand->aa
 | .tmp b=>match M tm b with
   | .W e _=> .cR b e 0
   |a=>a
 | .const a=>s 2 a
 | .global d=>E.G d
 | .func c=> .fn (.func c) [] []
def gq (tm:List aa) (H:af):aa->Option (List aa×Nat×Nat)
 | .b5 a b=>some (a,b,a.length)
 | .ptr id gen b d=>match H.get id with
   |some (.cells _ c _ a)=>if c<=gen then some (a,b,d) else none
   |_=>none
 | .cR e st b=>match M tm e with
   | .W f a=>if st=f then some (a,b,a.length) else none
   |_=>none
 |_=>none
def AR (r:Option (List aa)):Option aa:=match r with
 |some a=>w a λa=>some (.agg a)
 |none=>none
def jY (n:Nat) (cK:Bool) (r:Option (List aa×Nat×Nat)):Option aa:=match r with
 | some (b,a,c)=>match Nat.ble (a+n) c with
   | true=>match cK with
     |true=>AR (sub b a n)
     | false=>match Nat.beq n 1 with
       |true=>b[a]?
       |false=>none
   |false=>none
 |none=>none
def dW (t:Nat) (p:aa) (tm:List aa) (H:af):Option aa:=
 match bZ E t,aW E t with
 |some n,some a=>jY n (jS a) (gq tm H p)
 |_,_=>none
def J:aa->Bool
 | .agg _=>false
 | .av _=>false
 | .W _ _=>false
 | .cR _ _ _=>false
 | .bad=>false
 |_=>true
def hD (id c off f n:Nat) (vs:List aa) (tm:List aa) (H:af):bf:=match H.get id with
 | some (.cells b _ d e)=>
   if c=b/\d<=off/\off+n<=f then (match cB e off vs with
    |some a=>w a λa=>ep (H.set id (.cells b c d a)) λH=> .ok (.av []) tm H
    |none=> .fail)
   else .fail
 |_=> .fail
def m9 (b st off:Nat) (vs:List aa) (tm:List aa) (H:af):bf:=match M tm b with
 | .W d c=>if st=d then (match cB c off vs with
  |some a=>w a λa=>w (r tm b (.W st a)) λtm=> .ok (.av []) tm H
  |none=> .fail) else .fail
 |_=> .fail
def hf (n:Nat) (p:aa) (vs:List aa) (tm:List aa) (H:af):bf:=
 if vs.length=n/\vs.all J=true then
  match p with
  | .ptr id gen a b=>hD id gen a b n vs tm H
  | .cR c st a=>m9 c st a vs tm H
  |_=> .fail
 else .fail
def hd (t:Nat) (p v:aa) (tm:List aa) (H:af):bf:=match bZ E t with
 |some n=>hf n p v.cells tm H
 |none=> .fail
def gT (p:aa) (n:Nat):Option aa:=match p with
 | .b5 c b=>bC (b+n) λa=>some (.b5 c a)
 | .ptr id gen b d=>bC (b+n) λa=>some (.ptr id gen a d)
 | .cR e st b=>bC (b+n) λa=>some (.cR e st a)
 |_=>none
def jh (s:Nat) (p:aa) (f:Nat):Option aa:=
 match aW E s with
 | some (.struct b)=>match b[f]? with
   | some a=>match bZ E a.type with
     |some (.succ _)=>gT p a.offset
     |_=>none
   |none=>none
 |_=>none
def k1:aa->Option Int
 | .int _ n=>some n
 |_=>none
def jR (t:Nat) (x i:aa):Option aa:=
 match aW E t,k1 i with
 | some (.array c b),some (.ofNat n)=>match bZ E b with
   |some a=>if n<c then gT x (n*a) else none
   |none=>none
 | some (.slice b),some (.ofNat n)=>match x,bZ E b with
   | .A j _,some a=>match j[n]? with
     |some e=>if e.length=a then some (.b5 e 0) else none
     |none=>none
   | .ref id gen h f c _,some a=>if a=f/\n<c then bC (h+n*a) λd=>bC (d+a) λg=>some (.ptr id gen d g) else none
   |_,_=>none
 |_,_=>none
def n7 (t:Nat) (cs:List aa) (off:Nat):Option aa:=
 match bZ E t,aW E t with
 | some n,some b=>
   if jS b then (match sub cs off n with
    |some a=>w a λa=>some (.agg a)
    |none=>none)
   else cs[off]?
 |_,_=>none
def oU (t:Nat) (x i:aa):Option aa:=
 match aW E t,x,k1 i with
 |some .string,.str a num,some (.ofNat n)=>if n<a then bC (en num n) λc=>some (.int .u8 (.ofNat c)) else none
 | some (.array a b),.agg d,some (.ofNat n)=>match bZ E b with
   |some e=>if n<a then n7 E b d (n*e) else none
   |none=>none
 |_,_,_=>none
def pR (t:Nat) (x:aa) (f:Nat):Option aa:=
 match aW E t,x with
 | some (.struct c),.agg b=>match c[f]? with
   |some a=>n7 E a.type b a.offset
   |none=>none
 |_,_=>none
def ey (d:Nat):Option aa->Option Nat
 |none=>some d
 |some (.int _ (.ofNat n))=>some n
 |_=>none
def m8 (len num:Nat) (lo d mx:Option aa):Option aa:=match ey 0 lo,ey len d,mx with
 |some b,some a,none=>if b<=a/\a<=len then bC (a-b) λc=>bC ((num>>>(8*b))%2^(8*c)) λe=>some (.str c e) else none
 |_,_,_=>none
def zS (lo a mx:Option aa):Option aa:=match ey 0 lo,ey 0 a,ey 0 mx with
 |some 0,some 0,some 0=>if mx.isSome&&a.isNone then none else some .V
 |_,_,_=>none
def r7 (k:Nat) (rows:Y):Bool:=match rows with
 | []=>true
 |a::_=>Nat.beq a.length k
def qJ (rows:Y) (c:Bool) (lo g mx:Option aa):Option aa:=match ey 0 lo,ey rows.length g with
 | some b,some a=>match mx with
   |none=>if b<=a/\a<=rows.length then w ((rows.drop b).take (a-b)) λf=>gC (c&&Nat.beq a rows.length) λe=>some (.A f e) else none
   | some d=>match ey 0 (some d),g with
     |some d,some _=>if b<=a/\a<=d/\d<=rows.length then w ((rows.drop b).take (a-b)) λf=>gC (Nat.beq d a) λe=>some (.A f e) else none
     |_,_=>none
 |_,_=>none
def l4 (id g off k len:Nat) (c:Bool) (lo h mx:Option aa):Option aa:=match ey 0 lo,ey len h with
 | some a,some b=>match mx with
   |none=>if a<=b/\b<=len/\(c=true->b=len) then
    if a=len/\0<a then some (.A [] c) else bC (off+a*k) λf=>bC (b-a) λe=>some (.ref id g f k e c) else none
   | some d=>match ey 0 (some d),h with
     | some d,some _=>if a<=b/\b=d/\d<=len then
        if a=d/\0<a then some (.A [] true) else bC (off+a*k) λf=>bC (b-a) λe=>some (.ref id g f k e true)
       else if a<=b/\b<=d/\d<=len then some .bad else none
     |_,_=>none
 |_,_=>none
def gO (t:Nat) (x:aa) (lo a mx:Option aa):Option aa:=
 match aW E t with
 | some .string=>match x with
   | .str c num=>m8 c num lo a mx
   |_=>none
 | some (.slice g)=>match bZ E g,x with
   |some _,.V=>zS lo a mx
   | some d,.A f b=>match r7 d f with
     |true=>qJ f b lo a mx
     |false=>none
   | some d,.ref id gen h e c b=>match Nat.beq d e with
     |true=>l4 id gen h e c b lo a mx
     |false=>none
   |_,_=>none
 |_=>none
def s0:aa->aa->Option Bool
 | .bool a,.bool b=>some (a==b)
 | .int e a,.int f b=>if e=f then some (a==b) else none
 | .str a b,.str c d=>some (a==c&&b==d)
 |_,_=>none
def eF :Nat->Nat->aa->aa->Option Bool
 |0,_,_,_=>none
 | j + 1, f,s,u=>
   match aW E f,s,u with
   |some .bool,.bool a,.bool b=>some (a==b)
   |some (.int _),.int n a,.int o b=>if n=o then some (a==b) else none
   |some .string,.str a b,.str d k=>some (a==d&&b==k)
   | some (.struct m),.agg t,.agg v=>
     if E.nD f then
      m.toList.foldr (λc e=>if c.name≠ "_" then
        match n7 E c.type t c.offset,n7 E c.type v c.offset with
        | some q,some r=>match eF j c.type q r with
          |some true=>e
          |some false=>some false
          |none=>none
        |_,_=>none
       else e) (some true)
     else none
   | some (.pointer l),.ptr a b d _,.ptr g h i _=>match bZ E l with
     |some (_+1)=>if a=g/\b=h then some (Nat.beq d i) else none
     |_=>none
   |some (.pointer _),.dz,.dz=>some true
   |some (.pointer _),.dz,.ptr _ _ _ _=>some false
   |some (.pointer _),.dz,.b5 _ _=>some false
   |some (.pointer _),.ptr _ _ _ _,.dz=>some false
   |some (.pointer _),.b5 _ _,.dz=>some false
   |some (.interface p),.dj,.dj=>if p.size=0 then some true else none
   |some (.interface _),.dj,.iface _ _=>some false
   |some (.interface _),.iface _ _,.dj=>some false
   |some (.slice _),.V,.V=>some true
   |some (.slice _),.A _ _,.V=>some false
   |some (.slice _),.ref _ _ _ _ _ _,.V=>some false
   |some (.map _ _),.ef,.ef=>some true
   |some (.map _ _),.map _,.ef=>some false
   |some (.map _ _),.ck _ _,.ef=>some false
   |some (.func _ _ _),.eA,.eA=>some true
   |some (.func _ _ _),.fn _ _ _,.eA=>some false
   |_,_,_=>none
def js:Nat->Nat->Nat->Nat->Bool
 |_,_,0,_=>false
 |0,_,_+1,_=>true
 | e+1,c,f+1,d=>
   let a:=c%256;let b:=d%256
   if a=b then js e (c/256) f (d/256) else Nat.blt a b
def ht:Nat:=9223372036854775807
def kh (op:BinOp) (k:IntKind) (a b:Int):Option aa:=match op with
 | .add=>h1 (k.wrap (a+b)) λc=>some (.int k c)
 | .sub=>h1 (k.wrap (a-b)) λc=>some (.int k c)
 | .mul=>h1 (k.wrap (a*b)) λc=>some (.int k c)
 | .quo=>if b=0 then none else h1 (k.wrap (a.tdiv b)) λc=>some (.int k c)
 | .rem=>if b=0 then none else h1 (a.tmod b) λc=>some (.int k c)
 | .and=>h1 (k.wrap ((BitVec.ofInt k.bits a&&&BitVec.ofInt k.bits b).toNat)) λc=>some (.int k c)
 | .or=>h1 (k.wrap ((BitVec.ofInt k.bits a|||BitVec.ofInt k.bits b).toNat)) λc=>some (.int k c)
 | .xor=>h1 (k.wrap ((BitVec.ofInt k.bits a^^^BitVec.ofInt k.bits b).toNat)) λc=>some (.int k c)
 | .andNot=>h1 (k.wrap ((BitVec.ofInt k.bits a&&& ~~~BitVec.ofInt k.bits b).toNat)) λc=>some (.int k c)
 | .eql=>gC (a==b) λd=>some (.bool d)
 | .neq=>gC (a !=b) λd=>some (.bool d)
 | .lss=>gC (decide (a<b)) λd=>some (.bool d)
 | .leq=>gC (decide (a<=b)) λd=>some (.bool d)
 | .gtr=>gC (decide (a>b)) λd=>some (.bool d)
 | .geq=>gC (decide (a>=b)) λd=>some (.bool d)
 |_=>none
def jb (op:BinOp) (k d:IntKind) (a b:Int):Option aa:=match op with
 | .shl=>if 0<=b then h1 (k.wrap (a*2^(min b.toNat k.bits))) λc=>some (.int k c) else none
 | .shr=>if 0<=b then h1 (a.fdiv (2^(min b.toNat k.bits))) λc=>some (.int k c) else none
 |_=>if k=d then kh op k a b else none
def mn (op:BinOp) (b d c e:Nat):Option aa:=match op with
 | .add=>if b+c<=ht then bC (b+c) λf=>bC (d+e<<<(8*b)) λg=>some (.str f g) else none
 | .eql=>gC (b==c&&d==e) λa=>some (.bool a)
 | .neq=>gC (!(b==c&&d==e)) λa=>some (.bool a)
 | .lss=>gC (js b d c e) λa=>some (.bool a)
 | .leq=>gC (js b d c e||(b==c&&d==e)) λa=>some (.bool a)
 | .gtr=>gC (!(js b d c e||(b==c&&d==e))) λa=>some (.bool a)
 | .geq=>gC (!(js b d c e)) λa=>some (.bool a)
 |_=>none
def xu (op:BinOp) (t:Nat) (x y:aa):Option aa:=match op with
 | .eql=>match eF E 20 t x y with
   |some a=>some (.bool a)
   |none=>none
 | .neq=>match eF E 20 t x y with
   |some a=>gC (!a) λa=>some (.bool a)
   |none=>none
 |_=>none
def b4 (op:BinOp) (t:Nat) (x y:aa):Option aa:=match x,y with
 | .int c a,.int d b=>jb op c d a b
 | .str e g,.str f h=>mn op e g f h
 |x,y=>xu E op t x y
def nc (op:UnOp) (x:aa):Option aa:=
 match op,x with
 | .not,.bool c=>gC (!c) λc=>some (.bool c)
 | .neg,.int a b=>h1 (a.wrap (0-b)) λb=>some (.int a b)
 | .xor,.int a b=>h1 (a.wrap ((BitVec.ofInt a.bits (if a.signed then -1 else a.max)^^^BitVec.ofInt a.bits b).toNat)) λb=>some (.int a b)
 |_,_=>none
end
def hn (d:Nat->Option (Nat×Nat)) (c:List aa):List (Nat×aa)->Option (List aa)
 | []=>some c
 | (e,b)::rest=>
   match d e with
   |none=>none
   | some (f,g)=>
     if b.cells.length=g/\b.cells.all J=true then
      match cB c f b.cells with
      |some a=>w a λa=>hn d a rest
      |none=>none
     else none
def cD (f:aa->af->Option (aa×af)):List aa->af->Option (List aa×af)
 | [],a=>some ([],a)
 | d ::vs,a=>match f d a with
   | some (e,b)=>match cD f vs b with
     |some (g,c)=>some (e::g,c)
     |none=>none
   |none=>none
def chunk (k:Nat):Nat->List aa->Y
 |0,_=> []
 |n+1,a=>a.take k::chunk k n (a.drop k)
def ll (a b:Nat):Nat:=if Nat.ble a b then b else a
def aZ : Nat->aa->af->Option (aa×af)
 |0,_,_=>none
 | n + 1, b,a=>match b with
   | .bool _=>some (b,a)
   | .int _ _=>some (b,a)
   | .str _ _=>some (b,a)
   | .dz=>some (b,a)
   | .b5 _ _=>some (b,a)
   | .V=>some (b,a)
   | .A _ _=>some (b,a)
   | .ef=>some (b,a)
   | .ck _ _=>some (b,a)
   | .eA=>some (b,a)
   | .dj=>some (b,a)
   | .agg c=>match cD (aZ n) c a with
     |some (c,a)=>w c λc=>some (.agg c,a)
     |none=>none
   | .av c=>match cD (aZ n) c a with
     |some (c,a)=>w c λc=>some (.av c,a)
     |none=>none
   | .iface s b=>match aZ n b a with
     |some (b,a)=>ed b λb=>some (.iface s b,a)
     |none=>none
   | .fn q i d=>match cD (aZ n) i a with
     | some (i,a)=>match cD (aZ n) d a with
       |some (d,a)=>w i λi=>w d λd=>some (.fn q i d,a)
       |none=>none
     |none=>none
   | .ptr id gen g o=>match a.get id with
     | some (.cells k j e c)=>
       if gen=k/\g<=o then
        match sub c g (o-g) with
        | some d=>bC (ll e o) λe=>ep (a.set id (.cells k j e c)) λa=>match cD (aZ n) d a with
          |some (d,a)=>w d λd=>some (.b5 d 0,a)
          |none=>none
        |none=>none
       else none
     |_=>none
   | .ref id gen g l m p=>match a.get id with
     | some (.cells k j e c)=>
       if j<=gen/\0<l then
        match sub c g (m*l) with
        | some d=>bC (ll e (g+m*l)) λe=>ep (a.set id (.cells k j e c)) λa=>match cD (aZ n) d a with
          |some (d,a)=>re (chunk l m d) λr=>some (.A r p,a)
          |none=>none
        |none=>none
       else none
     |_=>none
   | .map id=>match a.get id with
     | some (.map _ f h)=>ep (a.set id (.map true f h)) λa=>match cD (aZ n) f a with
       | some (f,a)=>match cD (aZ n) h a with
         |some (h,a)=>w f λf=>w h λh=>some (.ck f h,a)
         |none=>none
       |none=>none
     |_=>none
   |_=>none
def bR:Nat:=50
section
variable (E:Env)
def oE (t:Nat) (parts:List (Nat×aa)):Option aa:=
 match aW E t,bN E t with
 | some (.struct e),some d=>
   if e.toList.all (λa=>(bZ E a.type).isSome) then
   match hn (λc=>match e[c]? with
    | some a=>match bZ E a.type with
      |some n=>some (a.offset,n)
      |none=>none
    |none=>none) d.cells parts with
   |some b=>some (.agg b)
   |none=>none
   else none
 | some (.array _ f),some d=>
   match bZ E f with
   | some n=>match hn (λc=>some (c*n,n)) d.cells parts with
     |some b=>some (.agg b)
     |none=>none
   |none=>none
 |_,_=>none
def cT (t len:Nat) (parts:List (Nat×aa)) (H:af):Option (aa×af):=
 match aW E t with
 | some (.slice c)=>match bZ E c,bN E c with
   | some a,some d=>
     if 0<a/\d.cells.length=a/\len*a<=16777216 then
      match hn (λe=>some (e*a,a)) (List.replicate len d.cells).flatten parts with
      | some b=>match cD (aZ bR) b H with
        |some (b,H)=>re (chunk a len b) λf=>some (.A f true,H)
        |none=>none
      |none=>none
     else none
   |_,_=>none
 |_=>none
def e4 (k:Nat) (H:af):aa->Option (List aa×Nat)
 | .V=>some ([],0)
 | .A b _=>if b.all (λi=>i.length==k) then some (b.flatten,b.length) else none
 | .ref id gen h g a _=>match H.get id with
   |some (.cells _ f _ e)=>if f<=gen/\k=g then (match sub e h (a*k) with
    |some d=>some (d,a)
    |none=>none) else none
   |_=>none
 | .str a num=>if k=1 then some ((unpack a num).map λc=> .int .u8 (.ofNat c),a) else none
 |_=>none
def b7:Nat:=35184372088832
def hx (el:Nat) (k:Nat) (d2:TypeDesc) (x:aa) (H:af):Option (List aa×Nat):=
 match d2 with
 | .int _=>match x,bN E el with
   | .int .i64 (.ofNat n),some a=>if a.cells.length=k/\a.cells.all J=true/\n<=4294967296 then some ((List.replicate n a.cells).flatten,n) else none
   |_,_=>none
 |_=>e4 k H x
def ev (g:Nat):Nat:=g/1048576
def m_ (g el:Nat):Bool:=Nat.beq (ev (g+1)) (ev g)&&(Nat.beq (ev g) 0||Nat.beq (ev g) (el+1))
def q (el:Nat):Nat:=(el+1)*1048576
def cI (t1 t2 :Nat) (s x:aa) (H:af):Option (aa×af):=
 match aW E t1,aW E t2 with
 | some (.slice j),some p=>match E.T j with
   | some c =>
     if 0 < c.size/\c.bytes<=4096 then
      match hx E j c.size p x H with
      | some (_,0)=>match s with
        | .V=>some (s,H)
        | .A _ _=>some (s,H)
        | .ref _ _ _ _ _ _=>some (s,H)
        |_=>none
      | some (i,n)=>
        if i.all J=true then
        match s with
        | .V=>if n*(c.bytes+1)<=b7 then w i λa=>bC (q j) λb=>ed (.ref H.n b 0 c.size n false) λf=>ep (H.push (.cells b b 0 a)) λH=>some (f,H) else none
        | .A l true=>if (l.length+n)*(c.bytes+1)<=b7/\l.all (λt=>t.length==c.size)=true then
         w (l.flatten++i) λa=>ed (.ref H.n 0 0 c.size (l.length+n) false) λf=>ep (H.push (.cells 0 0 0 a)) λH=>some (f,H) else none
        | .ref id gen g d e o=>match H.get id with
          | some (.cells b m k h)=>
            if d=c.size/\(e+n)*(c.bytes+1)<=b7/\m<=gen then
             if o then
              match sub h g (e*d) with
              |some r=>w (r++i) λa=>ed (.ref H.n 0 0 d (e+n) false) λf=>ep (H.push (.cells 0 0 0 a)) λH=>some (f,H)
              |none=>none
             else if gen=b/\g+e*d=h.length/\k<=h.length/\m_ b j=true then
              w (h++i) λa=>ed (.ref id (gen+1) g d (e+n) false) λf=>bC (gen+1) λb=>ep (H.set id (.cells b m k a)) λH=>some (f,H)
             else if gen=b/\k<=g+e*d/\g+(e+n)*d<=h.length then
              match cB h (g+e*d) i with
              |some a=>w a λa=>ed (.ref id gen g d (e+n) false) λf=>ep (H.set id (.cells b gen k a)) λH=>some (f,H)
              |none=>none
             else none
            else none
          |_=>none
        |_=>none
        else none
      |none=>none
     else none
   |none=>none
 |_,_=>none
def zc:aa->Option Nat
 | .V=>some 0
 | .A b _=>some b.length
 | .ref _ _ _ _ a _=>some a
 |_=>none
def sV (t1 :Nat) (d s:aa) (H:af):Option (aa×af):=
 match aW E t1 with
 | some (.slice k)=>match bZ E k with
   | some c =>
     match zc d,e4 c H s with
     | some e,some (a,i)=>
       let b:=if Nat.ble i e then i else e
       if b=0 then some (.int .i64 0,H) else
       match d with
       | .ref id gen g l _ _=>match H.get id with
         | some (.cells f _ h j)=>
           if gen=f/\c=l/\h<=g/\a.all J=true then
            match cB j g (a.take (b*c)) with
            |some a=>w a λa=>bC b λb=>ep (H.set id (.cells f gen h a)) λH=>some (.int .i64 (.ofNat b),H)
            |none=>none
           else none
         |_=>none
       |_=>none
     |_,_=>none
   |none=>none
 |_=>none
def oH (t :Nat) (x:aa) (H:af):Option (aa×af):=match aW E t with
 | some (.slice c)=>match x with
   | .V=>some (.av [],H)
   | .A [] _=>some (.av [],H)
   | .ref id gen g e f _=>match Nat.beq f 0 with
     |true=>some (.av [],H)
     | false=>match bZ E c,bN E c,H.get id with
       | some j,some b,some (.cells d _ h i)=>
         if gen=d/\j=e/\h<=g/\b.cells.all J=true/\b.cells.length=e then
          match cB i g (List.replicate f b.cells).flatten with
          |some a=>w a λa=>ep (H.set id (.cells d gen h a)) λH=>some (.av [],H)
          |none=>none
         else none
       |_,_,_=>none
   |_=>none
 |_=>none
def fE (t:Nat) (x:aa) (H:af):Option aa:=
 match aW E t,x with
 |some .string,.str c _=>some (.int .i64 (.ofNat c))
 |some (.array a _),_=>some (.int .i64 (.ofNat a))
 | some (.pointer d),_=>match aW E d with
   |some (.array a _)=>some (.int .i64 (.ofNat a))
   |_=>none
 |some (.slice _),.V=>some (.int .i64 (.ofNat 0))
 |some (.slice _),.A e _=>bC e.length λa=>some (.int .i64 (.ofNat a))
 |some (.slice _),.ref _ _ _ _ c _=>some (.int .i64 (.ofNat c))
 |some (.map _ _),.ef=>some (.int .i64 (.ofNat 0))
 |some (.map _ _),.ck b _=>bC b.length λa=>some (.int .i64 (.ofNat a))
 | some (.map _ _),.map id=>match H.get id with
   |some (.map _ b _)=>bC b.length λa=>some (.int .i64 (.ofNat a))
   |_=>none
 |_,_=>none
def q_ (t:Nat) (x:aa):Option aa:=
 match aW E t,x with
 |some (.array a _),_=>some (.int .i64 (.ofNat a))
 |some (.slice _),.V=>some (.int .i64 (.ofNat 0))
 |some (.slice _),.A c true=>bC c.length λa=>some (.int .i64 (.ofNat a))
 |some (.slice _),.ref _ _ _ _ b true=>some (.int .i64 (.ofNat b))
 |_,_=>none
def ji (d:Nat) (t:Nat) (k:aa):List aa->List aa->Nat->Option (Option (Nat×aa))
 | [],[],_=>some none
 | b::ks,c::vs,a=>match eF E d t k b with
   |some true=>some (some (a,c))
   |some false=>ji d t k ks vs (a+1)
   |none=>none
 |_,_,_=>none
def mapOf (H:af):aa->Option (List aa×List aa)
 | .ef=>some ([],[])
 | .ck a b=>some (a,b)
 | .map id=>match H.get id with
   |some (.map _ a b)=>some (a,b)
   |_=>none
 |_=>none
def hr:Nat->Nat->aa->Bool
 |0,_,_=>false
 | c +1,e,g=>match aW E e,g with
   |some .bool,.bool _=>true
   |some (.int _),.int _ _=>true
   |some .string,.str _ _=>true
   | some (.struct d),.agg b=>d.toList.all λa=>if a.name≠ "_" then (match n7 E a.type b a.offset with
     |some f=>hr c a.type f
     |none=>false) else true
   |_,_=>false
def zf (a:Nat) (k:aa) (z:aa) (ok:Bool) (ks vs:List aa):Option aa:=
 match hr E 20 a k with
 | true=>match ji E 20 a k ks vs 0 with
   |some (some (_,b))=>if ok then some (.av [b,.bool true]) else some b
   |some none=>if ok then ed z λz=>some (.av [z,.bool false]) else ed z λz=>some z
   |none=>none
 |false=>none
def iM (t:Nat) (m k:aa) (ok:Bool) (H:af):Option aa:=
 match aW E t with
 | some (.map c a)=>match mapOf H m,bN E a with
   |some (b,d),some e=>zf E c k e ok b d
   |_,_=>none
 |_=>none
def s3:List aa->List aa->Bool
 | [],[]=>true
 | a::l,b::m=>match s0 a b with
   |some true=>s3 l m
   |_=>false
 |_,_=>false
def uk:Option aa->aa->Bool
 |some (.agg c),.agg d=>s3 c d
 | some a,b=>match s0 a b with
   |some true=>true
   |_=>false
 |none,_=>false
def Fg (b:Nat) (k v:aa) (id:Nat) (ks vs:List aa) (H:af):Option af:=
 match hr E 20 b k with
 | true=>match ji E 20 b k ks vs 0 with
   | some (some (a,_))=>match uk ks[a]? k with
     |true=>w (dM ks a k) λks=>w (dM vs a v) λvs=>ep (H.set id (.map false ks vs)) λH=>some H
     |false=>none
   |some none=>w (ks++ [k]) λks=>w (vs++ [v]) λvs=>ep (H.set id (.map false ks vs)) λH=>some H
   |none=>none
 |false=>none
def tS (t:Nat) (m k v:aa) (H:af):Option af:=
 match aW E t,m with
 | some (.map b _),.map id=>match H.get id with
   |some (.map false a c)=>Fg E b k v id a c H
   |_=>none
 |_,_=>none
def pL (len num b:Nat):Nat×Nat:=
 let a:=en num b
 if a<128 then (a,1) else Utf8.decode (Go.aj.bytesOf len num) b
def jg (s d:Nat) (x:aa) (H:af):Option aa:=
 match aW E s,aW E d,x with
 |some _,some (.int e),.int _ a=>h1 (e.wrap a) λa=>some (.int e a)
 |some _,some .string,.str f c=>some (.str f c)
 | some (.slice i),some .string,x=>match aW E i with
   | some (.int .u8)=>match e4 1 H x with
     | some (h,a)=>
       match h.foldr (λg j=>match g,j with
        | .int .u8 (.ofNat c),some b=>if c<256 then bC (c+256*b) λb=>some b else none
        |_,_=>none) (some 0) with
       |some b=>some (.str a b)
       |none=>none
     |none=>none
   |_=>none
 |_,_,_=>none
def sD (x:aa) (e a:Nat) (ok:Bool):Option aa:=
 match aW E a,x with
 |some (.interface _),_=>none
 |some _,.dj=>if ok then (match bN E a with
  |some b=>ed b λb=>some (.av [b,.bool false])
  |none=>none) else none
 | some _,.iface d c=>if d=a then (if ok then some (.av [c,.bool true]) else some c)
   else if ok then (match bN E a with
    |some b=>ed b λb=>some (.av [b,.bool false])
    |none=>none) else none
 |_,_=>none
end
def y (n:Nat):Nat->aa->Bool
 |0,_=>false
 | a+1,c=>match c with
   | .ptr id _ _ _=>Nat.blt id n
   | .ref id _ _ _ _ _=>Nat.blt id n
   | .map id=>Nat.blt id n
   | .it id=>Nat.blt id n
   | .agg b=>b.all (y n a)
   | .av b=>b.all (y n a)
   | .fn _ d e=>d.all (y n a)&&e.all (y n a)
   | .iface _ c=>y n a c
   | .W _ _=>false
   | .cR _ _ _=>false
   |_=>true
def gL (n:Nat):Obj->Bool
 | .cells _ _ _ a=>a.all (y n 20)
 | .map _ b c=>b.all (y n 20)&&c.all (y n 20)
 |_=>true
def gc (n0:Nat) (v:aa) (H:af):af:=
 if Nat.ble H.n n0 then H else
 let a:=H.l.drop (H.n-n0)
 if y n0 20 v&&a.all (gL n0) then ⟨n0,a⟩ else H
def aD:aa->Bool
 | .W _ _=>false
 | .cR _ _ _=>false
 |_=>true
def nX:Bool->aa->Bool
 |false,_=>true
 |true,.W _ _=>true
 |true,_=>false
abbrev cb:=Nat->List aa->af->cY
section
variable (E:Env) (cf:cb)
def nB (f:Nat) (args:List aa) (H:af) (tm:List aa):bf:=
 match cD (aZ bR) args H with
 | some (args,H)=>w args λargs=>
   match cf f args af.empty with
   | .ret a b=>match aZ bR a b with
     |some (a,_)=>ed a λa=> .ok a tm H
     |none=> .fail
   | .aK a b=>match aZ bR a b with
     |some (a,_)=>ed a λa=> .aK a H
     |none=> .fail
   | .fail=> .fail
 |none=> .fail
def sX (f:Nat) (args:List aa) (H:af) (tm:List aa):bf:=
 match cf f args H with
 | .ret a b=>
   if E.bS f then ed a λa=>ep (gc H.n a b) λb=> .ok a tm b
   else match aZ bR a b with
    |some (a,b)=>ed a λa=>ep (gc H.n a b) λb=> .ok a tm b
    |none=> .fail
 | .aK a b=>match aZ bR a b with
   |some (a,b)=>ed a λa=>ep (gc H.n a b) λb=> .aK a b
   |none=> .fail
 | .fail=> .fail
def az (f:Nat) (args:List aa) (H:af) (tm:List aa):bf:=
 match args.all aD with
 | true=>match E.pure f with
   |true=>nB cf f args H tm
   |false=>sX E cf f args H tm
 |false=> .fail
def bb (r:Option aa) (tm:List aa) (H:af):bf:=match r with
 |some a=>ed a λa=> .ok a tm H
 |none=> .fail
def ha (r:Option (aa×af)) (tm:List aa):bf:=match r with
 |some (b,a)=> .ok b tm a
 |none=> .fail
def mR (k:IntKind):Int->List aa->Option aa
 |a,[]=>some (.int k a)
 |a,.int c b::l=>if k=c then (if b>a then mR k b l else mR k a l) else none
 |_,_=>none
def tU (k:IntKind):Int->List aa->Option aa
 |a,[]=>some (.int k a)
 |a,.int c b::l=>if k=c then (if b<a then tU k b l else tU k a l) else none
 |_,_=>none
def kj (b:Builtin) (j:List Nat) (args:List aa) (tm:List aa) (H:af):bf:=
 match b,j,args with
 | .len,[c],[a]=>bb (fE E c a H) tm H
 | .cap,[c],[a]=>bb (q_ E c a) tm H
 | .append,[g,i],[f,a]=>ha (cI E g i f a H) tm
 | .copy,g::_,[h,f]=>ha (sV E g h f H) tm
 | .clear,[c],[a]=>ha (oH E c a H) tm
 | .min,_,.int e d::l=>bb (tU e d l) tm H
 | .max,_,.int e d::l=>bb (mR e d l) tm H
 |_,_,_=> .fail
def lY (c a b:aa) (tm:List aa) (H:af):bf:=match c with
 | .bool true=>bb (some a) tm H
 | .bool false=>bb (some b) tm H
 |_=> .fail
def newLocal (d:Nat) (cs:List aa) (tm:List aa) (H:af):bf:=match M tm d with
 | .W a _=>bb (some (.W (a+1) cs)) tm H
 |_=>bb (some (.W 0 cs)) tm H
def o4 (g:Nat) (cs:List aa) (tm:List aa) (H:af):bf:=
 bC g λg=>ed (.ptr H.n g 0 cs.length) λb=>w cs λa=>ep (H.push (.cells g g 0 a)) λH=> .ok b tm H
def fF (loc:Bool) (d:Option Nat) (el:Nat) (z:Option aa) (tm:List aa) (H:af):bf:=match z,d with
 | some z,some d=>match z.cells.all J with
   | true=>match loc with
     |true=>newLocal d z.cells tm H
     |false=>o4 (q el) z.cells tm H
   |false=> .fail
 |_,_=> .fail
def j1 (x:aa) (tm:List aa) (H:af):bf:=match x with
 | .dz=> .fail
 | .dj=> .fail
 | .eA=> .fail
 | .bad=> .fail
 | .fn (.func c) a b=>bb (some (.fn (.func c) a b)) tm H
 | .fn _ _ _=> .fail
 |v=>bb (some v) tm H
def n5 (t:Nat) (d:Option TypeDesc) (x:aa) (tm:List aa) (H:af):bf:=match d with
 |some (.interface _)=> .fail
 |some _=>if aD x then ed x λa=> .ok (.iface t a) tm H else .fail
 |none=> .fail
def t_ (f:Nat) (a c:List aa) (tm:List aa) (H:af):bf:=
 if a.all aD&&c.all aD then
  if E.aI f then ha (aZ bR (.fn (.func f) a c) H) tm
  else bb (some (.fn (.func f) a c)) tm H
 else .fail
def qw (tm:List aa) (H:af):bf:=ed (.map H.n) λa=>ep (H.push (.map false [] [])) λH=> .ok a tm H
def mX (t:Nat) (l c:aa) (tm:List aa) (H:af):bf:=match aW E t,l,c with
 | some (.slice e),.int _ (.ofNat f),.int _ (.ofNat b)=>match E.T e,bN E e with
   | some a,some d=>
     if f<=b/\b*(a.bytes+1)<=b7/\0<a.size/\d.cells.length=a.size/\d.cells.all J=true then
      ed (.ref H.n 0 0 a.size f false) λh=>w (List.replicate b d.cells).flatten λg=>ep (H.push (.cells 0 0 0 g)) λH=> .ok h tm H
     else .fail
   |_,_=> .fail
 |_,_,_=> .fail
def hC (t:Nat) (x:aa) (lo h mx:Option aa) (H:af):Option aa:=match aW E t with
 | some (.slice f)=>match bZ E f,x,mx with
   | some l,.ref id gen d a i false,none=>match ey 0 lo,ey i h,H.get id with
     |some c,some b,some (.cells g _ _ e)=>if l=a/\gen=g/\c<b/\d+b*a<=e.length then bC (d+c*a) λk=>bC (b-c) λj=>some (.ref id gen k a j false) else none
     |_,_,_=>none
   |_,_,_=>none
 |_=>none
def kL (r s:Option aa):Option aa:=match r with
 |some a=>some a
 |none=>s
def ij (t:Nat) (d:Option TypeDesc) (x:aa) (lo a mx:Option aa) (tm:List aa) (H:af):bf:=match d with
 |some (.array _ _)=> .fail
 |some (.pointer _)=> .fail
 |_=>bb (kL (gO E t x lo a mx) (hC E t x lo a mx H)) tm H
def ih (t:Nat) (m k v:aa) (tm:List aa) (H:af):bf:=match aD k&&aD v with
 | true=>match tS E t m k v H with
   |some H=> .ok (.av []) tm H
   |none=> .fail
 |false=> .fail
def mY (d:Option TypeDesc) (x:aa) (tm:List aa) (H:af):bf:=match d,x with
 |some .string,.str a num=>ed (.it H.n) λb=>ep (H.push (.iter a num 0)) λH=> .ok b tm H
 |_,_=> .fail
def wj (id len num a:Nat) (tm:List aa) (H:af):bf:=
 if a<len then
  match pL len num a with
  |(b,d)=>bC (a+d) λc=>bC b λb=>ep (H.set id (.iter len num c)) λH=> .ok (.av [.bool true,.int .i64 (.ofNat a),.int .i32 (.ofNat b)]) tm H
 else .ok (.av [.bool false]) tm H
def rV (x:aa) (tm:List aa) (H:af):bf:=match x with
 | .it id=>match H.get id with
   |some (.iter a num b)=>wj id a num b tm H
   |_=> .fail
 |_=> .fail
def lX (x:aa) (i:Nat) (tm:List aa) (H:af):bf:=match x with
 | .av a=>bb a[i]? tm H
 |_=> .fail
def qz (x:aa) (H:af):bf:=match x with
 | .iface a b=> .aK (.iface a b) H
 |_=> .fail
def cx (f:aa) (args:List aa) (H:af) (tm:List aa):bf:=match f with
 | .fn (.func f) first a=>w (first++(args++a)) λargs=>az E cf f args H tm
 |_=> .fail
def hy (b:Builtin) (a:List Nat) (args:List aa) (tm:List aa) (H:af):bf:=match b with
 | .panic=>(match args with
   | [c]=>qz c H
   |_=> .fail)
 |b=>kj E b a args tm H
def o7 (c:Callee) (d:List Nat) (args:List aa) (tm:List aa) (H:af):bf:=match c with
 | .builtin a=>hy E a d args tm H
 | .value b=>cx E cf (B E tm b) args H tm
 | .invoke _ _=> .fail
def lu (f:Fn) (a c:List aa) (tm:List aa) (H:af):bf:=match f with
 | .func f=>t_ E f a c tm H
 |_=> .fail
def qx (r:Option Operand) (tm:List aa) (H:af):bf:=match r with
 |none=>qw tm H
 |some _=> .fail
def qy (s:Bool) (x:aa) (tm:List aa) (H:af):bf:=match s with
 |true=>rV x tm H
 |false=> .fail
def nW (fid:Nat) (d:Option Nat):Bool:=match d with
 |some d=>E.loc fid d
 |none=>false
def evalOp (fid:Nat) (o:Oper) (tm:List aa) (H:af):bf:=
 match o.op with
 | .move a=>bb (some (B E tm a)) tm H
 | .assign a=>bb (some (B E tm a)) tm H
 | .pick d c n=>lY (B E tm d) (B E tm c) (B E tm n) tm H
 | .alloc k=>fF (nW E fid o.dst) o.dst k (bN E k) tm H
 | .box k a=>fF (nW E fid o.dst) o.dst k (some (B E tm a)) tm H
 | .build b l=>bb (oE E b (l.toList.map λi=>(i.1,B E tm i.2))) tm H
 | .buildSlice b s l=>ha (cT E b s (l.toList.map λi=>(i.1,B E tm i.2)) H) tm
 | .load b c=>bb (dW E b (B E tm c) tm H) tm H
 | .store b c a=>hd E b (B E tm c) (B E tm a) tm H
 | .nilCheck a=>j1 (B E tm a) tm H
 | .binOp op b a x _=>bb (b4 E op b (B E tm a) (B E tm x)) tm H
 | .unOp op _ a=>bb (nc op (B E tm a)) tm H
 | .convert j p a=>bb (jg E j p (B E tm a) H) tm H
 | .makeInterface b a=>n5 b (aW E b) (B E tm a) tm H
 | .makeFunc e c d=>lu E e (c.toList.map (B E tm)) (d.toList.map (B E tm)) tm H
 | .makeMap _ v=>qx v tm H
 | .makeSlice b r d=>mX E b (B E tm r) (B E tm d) tm H
 | .slice b a t q u=>ij E b (aW E b) (B E tm a) (t.map (B E tm)) (q.map (B E tm)) (u.map (B E tm)) tm H
 | .fieldAddr j a e=>bb (jh E j (B E tm a) e) tm H
 | .field b a e=>bb (pR E b (B E tm a) e) tm H
 | .indexAddr b a f=>bb (jR E b (B E tm a) (B E tm f)) tm H
 | .index b a f=>bb (oU E b (B E tm a) (B E tm f)) tm H
 | .lookup b h g ok=>bb (iM E b (B E tm h) (B E tm g) ok H) tm H
 | .mapUpdate b h g m=>ih E b (B E tm h) (B E tm g) (B E tm m) tm H
 | .insert b h g m=>ih E b (B E tm h) (B E tm g) (B E tm m) tm H
 | .range b a=>mY (aW E b) (B E tm a) tm H
 | .next a j=>qy j (B E tm a) tm H
 | .typeAssert a w c ok=>bb (sD E (B E tm a) w c ok) tm H
 | .extract a f=>lX (B E tm a) f tm H
 | .panic a=>qz (B E tm a) H
 | .call d=>o7 E cf d.callee d.argTypes.toList (d.args.toList.map (B E tm)) tm H
 |_=> .fail
end
inductive bP where
  |normal (tm:List aa) (H:af) (ds:List (Nat×List aa))
  |exit (id:Nat) (tm:List aa) (H:af) (ds:List (Nat×List aa))
  |ret (tm:List aa) (H:af) (ds:List (Nat×List aa))
  |aK (v:aa) (tm:List aa) (H:af) (ds:List (Nat×List aa))
  |fail
  deriving Inhabited
def lb (v:aa) (b:Bool):Option Bool:=match v with
 | .bool a=>some (a==b)
 | .av _=>some false
 |_=>none
def cJ (ops:Array Oper) (tm:List aa) (o:Oper):Option Bool:=match o.guard with
 |none=>some true
 | some (b,d)=>match ops[b]? with
   | some c=>match c.dst with
     |some a=>lb (M tm a) d
     |none=>some false
   |none=>some false
section
variable (E:Env) (cf:cb)
def cH (fid:Nat) (d:Option Nat) (v:aa) (tm:List aa):Option (List aa):=match d with
 | some d=>match nX (E.loc fid d) v with
   |true=>w (r tm d v) λtm=>some tm
   |false=>none
 |none=>some tm
def dv (fid :Nat) (ops:Array Oper):List Oper->List aa->af->List (Nat×List aa)->bP
 | [],a,c,b=> .normal a c b
 | o ::rest,a,c,b=>
   match cJ ops a o with
   | some true=>
     match o.op with
     | .defer i=>match i.callee with
       | .value g=>match B E a g with
         | .fn (.func g) [] j=>
           let e:=i.args.toList.map (B E a)++j
           if e.all aD then (match cH E fid o.dst (.av []) a with
            |some d=>w e λe=>dv fid ops rest d c ((g,e)::b)
            |none=> .fail) else .fail
         |_=> .fail
       |_=> .fail
     | _ =>
       match evalOp E cf fid o a c with
       | .ok h d f=>match cH E fid o.dst h d with
         |some k=>dv fid ops rest k f b
         |none=> .fail
       | .aK h f=> .aK h a f b
       | .fail=> .fail
   | some false=>match cH E fid o.dst (.av []) a with
     |some d=>dv fid ops rest d c b
     |none=> .fail
   |none=> .fail
end
def ags:= @B.match_1.congr_eq_1
def agt:= @cI.match_1.congr_eq_1
def agE:= @cI.match_2.congr_eq_1
def agO:= @cT.match_1.congr_eq_1
def agP:= @fE.match_1.congr_eq_1
def agQ:= @fE.match_2.congr_eq_1
def agR:= @s.match_1.congr_eq_1
def agS:= @ij.match_1.congr_eq_1
def agT:= @hr.match_2.congr_eq_1
def agU:= @gq.match_1.congr_eq_1
def agu:= @hC.match_1.congr_eq_1
def agv:= @hC.match_2.congr_eq_1
def agw:= @gO.match_2.congr_eq_1
def agx:= @gO.match_3.congr_eq_1
def agy:= @evalOp.match_1.congr_eq_1
def agz:= @dv.match_4.congr_eq_1
def agA:= @jg.match_2.congr_eq_1
def agB:= @jg.match_3.congr_eq_1
def agC:= @jg.match_4.congr_eq_1
mutual
def cN:aa->aa->Bool
 | .bool a,.bool b=>a==b
 | .int p a,.int q b=>decide (p=q)&&decide (a=b)
 | .str a b,.str c d=>Nat.beq a c&&Nat.beq b d
 | .agg e,.agg f=>eu e f
 | .av e,.av f=>eu e f
 | .dz,.dz=>true
 | .ptr a b c d,.ptr g i h j=>Nat.beq a g&&(Nat.beq b i&&(Nat.beq c h&&Nat.beq d j))
 | .b5 e o,.b5 f r=>Nat.beq o r&&eu e f
 | .V,.V=>true
 | .A e c,.A f d=>c==d&&qH e f
 | .ref a b c d m k,.ref g i h j n l=>Nat.beq a g&&(Nat.beq b i&&(Nat.beq c h&&(Nat.beq d j&&(Nat.beq m n&&k==l))))
 | .ef,.ef=>true
 | .map a,.map b=>Nat.beq a b
 | .ck a b,.ck c d=>eu a c&&eu b d
 | .eA,.eA=>true
 | .fn k a c,.fn l g h=>decide (k=l)&&(eu a g&&eu c h)
 | .dj,.dj=>true
 | .iface s u,.iface t v=>Nat.beq s t&&cN u v
 | .it a,.it b=>Nat.beq a b
 |_,_=>false
def eu:List aa->List aa->Bool
 | [],[]=>true
 |a::l,b::m=>cN a b&&eu l m
 |_,_=>false
def qH:Y->Y->Bool
 | [],[]=>true
 |a::l,b::m=>eu a b&&qH l m
 |_,_=>false
end
def D:Nat->aa->Bool
 |0,_=>false
 | n+1,b=>match b with
   | .bool _=>true
   | .int _ _=>true
   | .str _ _=>true
   | .dz=>true
   | .b5 _ _=>true
   | .V=>true
   | .A _ _=>true
   | .ef=>true
   | .ck _ _=>true
   | .eA=>true
   | .dj=>true
   | .agg a=>a.all (D n)
   | .av a=>a.all (D n)
   | .iface _ b=>D n b
   | .fn _ c d=>c.all (D n)&&d.all (D n)
   |_=>false
inductive bV where
  |plain
  |aI
  |loc (s:Nat)
  |heap
  |read (ks:List Nat)
  |m (k:Nat)
  deriving Inhabited
structure e0 where
  dV:List bV
  M:List (List Nat)
  R:List (List Nat)
  W:List (List Nat)
  rs:List (Option Nat)
  m:Nat
  aK:Bool
  deriving Inhabited
section
variable (E:Env) (cf:cb)
def fh:aa->Bool
 | .cR _ _ _=>false
 |_=>true
def lS (s:Nat):aa->Bool
 | .cR a _ _=>Nat.beq a s
 |_=>false
def s8:aa->List aa->Bool
 | .fn (.func c) first b,a=>E.pure c&&(first++(a++b)).all (D bR)
 |_,_=>false
def cZ (o:Oper) (a:bV) (tm:List aa):Bool:=match a with
 | .plain=>match o.op with
   | .slice k b g f h=>(gO E k (B E tm b) (g.map (B E tm)) (f.map (B E tm)) (h.map (B E tm))).isSome
   |_=>true
 | .aI=>match o.op with
   | .call c=>match c.callee with
     | .value d=>s8 E (B E tm d) (c.args.toList.map (B E tm))
     |_=>false
   | .buildSlice _ _ j=>(j.toList.map λi=>B E tm i.2).all (D bR)
   | .makeFunc d a c=>D bR (.fn d (a.toList.map (B E tm)) (c.toList.map (B E tm)))
   |_=>false
 | .loc e=>match o.op with
   | .load _ b=>lS e (B E tm b)
   | .store _ b _=>lS e (B E tm b)
   |_=>false
 | _=>match o.op with
   | .load _ b=>fh (B E tm b)
   | .store _ b _=>fh (B E tm b)
   |_=>true
abbrev bK:=List aa×af
def fj (fid:Nat) (d:Option Nat) (v:aa) (tm:List aa) (H:af):Option bK:=match cH E fid d v tm with
 |some tm=>some (tm,H)
 |none=>none
def fm (fid:Nat) (o:Oper):bf->Option bK
 | .ok c b a=>fj E fid o.dst c b a
 |_=>none
def jz (fid:Nat) (ops:Array Oper) (o:Oper) (s:bK):Option bK:=match cJ ops s.1 o with
 |some true=>fm E fid o (evalOp E cf fid o s.1 s.2)
 |some false=>fj E fid o.dst (.av []) s.1 s.2
 |none=>none
def fy (fid:Nat) (ops:Array Oper) (o:Oper) (a:bV) (s:bK):Option bK:=match cJ ops s.1 o with
 | some true=>match cZ E o a s.1 with
   |true=>fm E fid o (evalOp E cf fid o s.1 s.2)
   |false=>none
 |some false=>fj E fid o.dst (.av []) s.1 s.2
 |none=>none
def dY (fid:Nat) (ops:Array Oper):List Oper->List bV->bK->Option (List bK)
 | o ::os,b::as,a=>match fy E cf fid ops o b a with
   | some d=>match dY fid ops os as d with
     |some c=>some (a::c)
     |none=>none
   |none=>none
 | [],_,a=>some [a]
 |_,_,_=>none
def f_:Option aa->Option aa->Bool
 |some a,some b=>cN a b
 |_,_=>false
def gn (o:Oper) (tm:List aa) (H:af):Option aa:=match o.op with
 | .load a d=>dW E a (B E tm d) tm H
 | .lookup a c b ok=>iM E a (B E tm c) (B E tm b) ok H
 |_=>none
def qQ (o:Oper) (tm:List aa) (H:af) (a:List bK):List Nat->Bool
 | []=>true
 | b::ks=>match a[b]? with
   |some c=>f_ (gn E o tm c.2) (gn E o tm H)&&qQ o tm H a ks
   |none=>false
def CG:aa->Bool
 | .ptr _ _ _ _=>true
 |_=>false
def qR (ops:Array Oper) (o:Oper) (a:bV) (s:bK) (c:List bK):Bool:=match a with
 | .read b=>match cJ ops s.1 o with
   | some true=>match o.op with
     | .load e d=>match CG (B E s.1 d) with
       |true=>qQ E o s.1 s.2 c b
       |false=>true
     |_=>qQ E o s.1 s.2 c b
   |_=>true
 |_=>true
def kS (ops:Array Oper) (a:List bK):List Oper->List bV->List bK->Bool
 |o::os,b::as,c::aap=>qR E ops o b c a&&kS ops a os as aap
 |_,_,_=>true
def jq:List bK->Option bK
 | []=>none
 | [a]=>some a
 |_::l=>jq l
def mw (fid:Nat) (ops:Array Oper) (d:e0) (tm:List aa) (H:af):Option bK:=match dY E cf fid ops ops.toList d.dV (tm,H) with
 | some a=>match kS E ops a ops.toList d.dV a with
   |true=>jq a
   |false=>none
 |none=>none
def r1 (o:Oper):Oper:=⟨none,.assign (.const (.bool false)),0,"",o.after,none⟩
def ir (ops:Array Oper) (o:Oper):Array Oper:=ops.pop.push (r1 o)
def ub (d:e0):e0:=⟨d.dV.dropLast++ [.plain],d.M,d.R.dropLast++ [[]],d.W.dropLast++ [[]],[],0,false⟩
def mB (fid:Nat) (ops:Array Oper) (d:e0) (tm:List aa) (H:af) (ds:List (Nat×List aa)):bP:=match d.aK,ops.back? with
 | true,some o=>match mw E cf fid (ir ops o) (ub d) tm H with
   | some (tm,H)=>match cJ ops tm o,evalOp E cf fid o tm H with
     |some true,.aK a H=> .aK a tm H ds
     |_,_=> .fail
   |none=> .fail
 |_,_=> .fail
abbrev bU:=Nat->Nat->Option e0
def hK (fid:Nat) (ops:Array Oper) (d:Option e0) (tm:List aa) (H:af) (ds:List (Nat×List aa)):bP:=match d with
 | some d=>match d.rs with
   | []=>match mw E cf fid ops d tm H with
     |some (tm,H)=> .normal tm H ds
     |none=>mB E cf fid ops d tm H ds
   |_::_=> .fail
 |none=> .fail
def iter (d:List aa->af->List (Nat×List aa)->bP):Nat->List aa->af->List (Nat×List aa)->bP
 |0,_,_,_=> .fail
 | n+1,c,a,b=>match d c a b with
   | .normal c a b=>iter d n c a b
   |r=>r
def evalCode (g:bU) (ad fid:Nat):Code->List aa->af->List (Nat×List aa)->bP
 | .skip,a,b,c=> .normal a b c
 | .region id h j,a,b,c=>match j with
   |true=>hK E cf fid h (g fid id) a b c
   |false=>dv E cf fid h h.toList a b c
 | .seq e f,a,b,c=>match evalCode g ad fid e a b c with
   | .normal a b c=>evalCode g ad fid f a b c
   |r=>r
 | .cond d e f,a,b,c=>match B E a d with
   | .bool true=>evalCode g ad fid e a b c
   | .bool false=>evalCode g ad fid f a b c
   |_=> .fail
 | .block id d,a,b,c=>match evalCode g ad fid d a b c with
   | .exit i a b c=>if i=id then .normal a b c else .exit i a b c
   |r=>r
 | .loop d,a,b,c=>iter (evalCode g ad fid d) ad a b c
 | .exit id,a,b,c=> .exit id a b c
 | .label _,a,b,c=> .normal a b c
 | .ret,a,b,c=> .ret a b c
 |_,_,_,_=> .fail
def lx (tm:List aa) (H:af):ResultVar->Option aa
 | .tmp a=>some (M tm a)
 | .cell b a=>dW E a (B E tm (.tmp b)) tm H
def hU (tm:List aa) (H:af):List ResultVar->Option (List aa)
 | []=>some []
 | a ::rs=>match lx E tm H a with
   | some b=>match hU tm H rs with
     |some c=>some (b::c)
     |none=>none
   |none=>none
def hA (fn:Func) (tm:List aa) (H:af):cY:=
 match hU E tm H fn.results.toList with
 |some [a]=>if aD a then ed a λa=> .ret a H else .fail
 |some b=>if b.all aD then w b λb=> .ret (.av b) H else .fail
 |none=> .fail
end
def agD:= @mB.match_1.congr_eq_1
def agF:= @mB.match_3.congr_eq_1
def agG:= @evalCode.match_1.congr_eq_1
def agH:= @evalCode.match_2.congr_eq_1
def agI:= @iter.match_1.congr_eq_1
def agJ:= @cZ.match_4.congr_eq_1
def agK:= @gn.match_1.congr_eq_1
def agL:= @qR.match_1.congr_eq_1
section
variable (E:Env) (cf:cb)
def jN (fid:Nat) (ops:Array Oper):List Oper->Option aa->List aa->af->bP×Option aa
 | [],b,a,c=>(.normal a c [],b)
 | o ::rest,b,a,c=>
   match cJ ops a o with
   | some true=>
     match o.op with
     | .defer _=>(.fail,none)
     | .call ⟨.builtin .recover,_,_⟩=>match cH E fid o.dst (b.getD .dj) a with
       |some d=>jN fid ops rest none d c
       |none=>(.fail,none)
     | _ =>
       match evalOp E cf fid o a c with
       | .ok f d e=>match cH E fid o.dst f d with
         |some g=>jN fid ops rest b g e
         |none=>(.fail,none)
       | .aK f e=>(.aK f a e [],b)
       | .fail=>(.fail,none)
   | some false=>match cH E fid o.dst (.av []) a with
     |some d=>jN fid ops rest b d c
     |none=>(.fail,none)
   |none=>(.fail,none)
def k6 (g:bU) (ad fid:Nat):Code->Option aa->List aa->af->bP×Option aa
 | .region _ d false,b,c,a=>jN E cf fid d d.toList b c a
 | .seq e f,b,c,a=>match k6 g ad fid e b c a with
   |(.normal c a [],b)=>k6 g ad fid f b c a
   |(.normal _ _ _,_)=>(.fail,none)
   |r=>r
 |h,b,c,a=>(evalCode E cf g ad fid h c a [],b)
inductive xa where
  |ok (mode:Option aa) (H:af)
  |fail
def mv (g:bU) (ad:Nat) (f:Nat) (args:List aa) (d:Option aa) (H:af):xa:=
 match E.fns f with
 | some fn=>match fn.body with
   | some c=>if args.length<=fn.ntmps then
      match k6 E cf g ad f c d (args++List.replicate (fn.ntmps-args.length) (.av [])) H with
      | (.normal b H [],a)=>(match hA E fn b H with
        | .ret _ H=> .ok a H
        |_=> .fail)
      | (.ret b H [],a)=>(match hA E fn b H with
        | .ret _ H=> .ok a H
        |_=> .fail)
      |(.aK e _ H [],_)=> .ok (some e) H
      |_=> .fail
     else .fail
   |none=> .fail
 |none=> .fail
def mO (g:bU) (ad:Nat) (fn:Func) (tm:List aa):List (Nat×List aa)->Option aa->af->cY
 | [],none,a=>hA E fn tm a
 | [],some e,a=> .aK e a
 | (d,c)::ds,b,a=>match mv E cf g ad d c b a with
   | .ok b a=>mO g ad fn tm ds b a
   | .fail=> .fail
def finish (g:bU) (ad:Nat) (fn:Func):bP->cY
 | .normal c a b=>mO E cf g ad fn c b none a
 | .ret c a b=>mO E cf g ad fn c b none a
 | .aK d c a b=>mO E cf g ad fn c b (some d) a
 |_=> .fail
def nE (g:bU) (ad:Nat) (f:Nat) (args:List aa) (H:af):cY:=
 match E.cL f with
 |some b=>b args H
 | none =>match E.fns f with
   | some fn=>match fn.body with
     | some a=>if args.length<=fn.ntmps then
        finish E cf g ad fn (evalCode E cf g ad f a (args++List.replicate (fn.ntmps-args.length) (.av [])) H [])
       else .fail
     |none=> .fail
   |none=> .fail
end
def X (E:Env) (g:bU) (ad:Nat):Nat->cb
 |0=>λ_ _ _=> .fail
 |n+1=>λc b a=>nE E (X E g ad n) g ad c b a
def agM:= @k6.match_1.congr_eq_1
def agN:= @jN.match_3.congr_eq_1
abbrev ma:=List (Nat×List aa)
abbrev AF:=List aa->af->bP
structure Tok {α:Type} (a:α):Type
def l3 (r:bP) (k:List aa->af->ma->bP) (_:Tok k):bP:=match r with
 | .normal c a b=>k c a b
 |r=>r
@[go_sem] theorem ET (tm H ds k u):l3 (.normal tm H ds) k u=k tm H ds:=rfl
@[go_sem] theorem ZX (i tm H ds k u):l3 (.exit i tm H ds) k u= .exit i tm H ds:=rfl
@[go_sem] theorem ahf (tm H ds k u):l3 (.ret tm H ds) k u= .ret tm H ds:=rfl
@[go_sem] theorem ahe (v tm H ds k u):l3 (.aK v tm H ds) k u= .aK v tm H ds:=rfl
@[go_sem] theorem ahc (k u):l3 .fail k u= .fail:=rfl
def eH (b:Bool) (x y:Unit->bP) (_:Tok x) (_:Tok y):bP:=match b with
 |true=>x ()
 |false=>y ()
@[go_sem] theorem CC (x y u w):eH true x y u w=x ():=rfl
@[go_sem] theorem Ts (x y u w):eH false x y u w=y ():=rfl
def Bw (v:aa) (x y:Unit->bP) (_:Tok x) (_:Tok y):bP:=match v with
 | .bool true=>x ()
 | .bool false=>y ()
 |_=> .fail
@[go_sem] theorem Qo (b x y u w):Bw (.bool b) x y u w=eH b x y u w:=by cases b<;>rfl
def gU (i:Nat) (r:bP):bP:=match r with
 | .exit c d a b=>if c=i then .normal d a b else .exit c d a b
 |r=>r
@[go_sem] theorem acM (i tm H ds):gU i (.normal tm H ds)= .normal tm H ds:=rfl
@[go_sem] theorem acJ (i vD tm H ds):gU i (.exit vD tm H ds)=if vD=i then .normal tm H ds else .exit vD tm H ds:=rfl
@[go_sem] theorem acO (i tm H ds):gU i (.ret tm H ds)= .ret tm H ds:=rfl
@[go_sem] theorem acN (i v tm H ds):gU i (.aK v tm H ds)= .aK v tm H ds:=rfl
@[go_sem] theorem acK (i):gU i .fail= .fail:=rfl
section
variable (E:Env) (cf:cb) (bk:bU) (ad fid:Nat)
def wm (dst:Option Nat) (d:List aa) (r:bf) (ds:ma) (k:AF) (_:Tok k):bP:=match r with
 | .ok c b a=>match cH E fid dst c b with
   |some b=>k b a
   |none=> .fail
 | .aK c a=> .aK c d a ds
 | .fail=> .fail
def jy (dst:Option Nat) (v:aa) (tm:List aa) (k:List aa->bP) (_:Tok k):bP:=match cH E fid dst v tm with
    |some tm=>k tm
    |none=> .fail
end
@[go_sem] theorem Km (E fid dst uy v tm H ds k u):wm E fid dst uy (.ok v tm H) ds k u=jy E fid dst v tm (λtm=>k tm H) ⟨⟩:=rfl
@[go_sem] theorem ahg (E fid v tm k u):jy E fid none v tm k u=k tm:=rfl
@[go_sem] theorem LY (E:Env) (fid d v tm k u):jy E fid (some d) v tm k u=eH (nX (E.loc fid d) v) (λ_=>k (r tm d v)) (λ_=> .fail) ⟨⟩ ⟨⟩:=by unfold jy cH;cases a:nX (E.loc fid d) v<;>simp only [eH,a,bu]
def nf (w:Option Bool) (x y:Unit->bP) (_:Tok x) (_:Tok y):bP:=match w with
 |some true=>x ()
 |some false=>y ()
 |none=> .fail
@[go_sem] theorem ahs (b x y u w):nf (some b) x y u w=eH b x y u w:=by cases b<;>rfl
@[reducible] def eI:Op->Bool
 | .defer _=>true
 |_=>false
section
variable (E:Env) (cf:cb) (bk:bU) (ad fid:Nat)
@[go_sem ↓] theorem Hu (ops tm H ds):dv E cf fid ops [] tm H ds= .normal tm H ds:=rfl
theorem Ht (ops:Array Oper) (o:Oper) (rest tm H ds) (a:eI o.op=false):
  dv E cf fid ops (o::rest) tm H ds=nf (cJ ops tm o) (λ_=>wm E fid o.dst tm (evalOp E cf fid o tm H) ds (λtm H=>dv E cf fid ops rest tm H ds) ⟨⟩)
   (λ_=>jy E fid o.dst (.av []) tm (λtm=>dv E cf fid ops rest tm H ds) ⟨⟩) ⟨⟩ ⟨⟩:=by
 rw [dv];unfold nf wm jy
 grind
@[go_sem ↓] theorem aea (ops:Array Oper) (dst op ty pos after j w rest tm H ds) (a:eI op=false):
 dv E cf fid ops (⟨dst,op,ty,pos,after,some (j,w)⟩::rest) tm H ds=
  nf (cJ ops tm ⟨dst,op,ty,pos,after,some (j,w)⟩) (λ_=>wm E fid dst tm (evalOp E cf fid ⟨dst,op,ty,pos,after,some (j,w)⟩ tm H) ds (λtm H=>dv E cf fid ops rest tm H ds) ⟨⟩)
  (λ_=>jy E fid dst (.av []) tm (λtm=>dv E cf fid ops rest tm H ds) ⟨⟩) ⟨⟩ ⟨⟩:=Ht E cf fid ops ⟨dst,op,ty,pos,after,some (j,w)⟩ rest tm H ds a
@[go_sem ↓] theorem Hv (ops:Array Oper) (dst op ty pos after rest tm H ds) (a:eI op=false):
  dv E cf fid ops (⟨dst,op,ty,pos,after,none⟩::rest) tm H ds=
   wm E fid dst tm (evalOp E cf fid ⟨dst,op,ty,pos,after,none⟩ tm H) ds (λtm H=>dv E cf fid ops rest tm H ds) ⟨⟩:=by
 rw [Ht E cf fid ops _ rest tm H ds a];rfl
def vb (ops:List Oper) (j:Nat):Option Nat:=match ops[j]? with
 |some o=>o.dst
 |none=>none
theorem QJ (dst op ty pos after g l):vb (⟨dst,op,ty,pos,after,g⟩::l) 0=dst:=rfl
theorem QI (o l j):vb (o::l) (j+1)=vb l j:=rfl
def Ig (tm:List aa) (w:Bool):Option Nat->Option Bool
 |some a=>lb (M tm a) w
 |none=>some false
@[go_sem ↓] theorem aht (ops:List Oper) (dst op ty pos after j w tm):cJ ops.toArray tm ⟨dst,op,ty,pos,after,some (j,w)⟩=Ig tm w (vb ops j):=by
 simp only [cJ,vb,List.getElem?_toArray]
 cases ops[j]? with
 |none=>rfl
 |some o=>rfl
attribute [go_sem] QJ QI Ig
@[go_sem] theorem aer (b w):lb (.bool b) w=some (b==w):=rfl
@[go_sem] theorem aes (l w):lb (.av l) w=some false:=rfl
@[go_sem ↓] theorem QS (tm H ds):evalCode E cf bk ad fid .skip tm H ds= .normal tm H ds:=by simp only [evalCode]
@[go_sem ↓] theorem Hc (id) (ops:List Oper) (tm H ds):evalCode E cf bk ad fid (.region id ops.toArray false) tm H ds=dv E cf fid ops.toArray ops tm H ds:=by simp only [evalCode]
@[go_sem ↓] theorem adD (id ops tm H ds):evalCode E cf bk ad fid (.region id ops true) tm H ds=hK E cf fid ops (bk fid id) tm H ds:=by simp only [evalCode]
@[go_sem ↓] theorem nC (a b tm H ds):evalCode E cf bk ad fid (.seq a b) tm H ds=l3 (evalCode E cf bk ad fid a tm H ds) (λtm H ds=>evalCode E cf bk ad fid b tm H ds) ⟨⟩:=by simp only [evalCode,l3]<;>grind
@[go_sem ↓] theorem QN (c a b tm H ds):evalCode E cf bk ad fid (.cond c a b) tm H ds=Bw (B E tm c) (λ_=>evalCode E cf bk ad fid a tm H ds) (λ_=>evalCode E cf bk ad fid b tm H ds) ⟨⟩ ⟨⟩:=by simp only [evalCode,Bw]<;>grind
@[go_sem ↓] theorem QM (i c tm H ds):evalCode E cf bk ad fid (.block i c) tm H ds=gU i (evalCode E cf bk ad fid c tm H ds):=by simp only [evalCode,gU]<;>grind
def a1 (c:Code) (n:Nat) (tm:List aa) (H:af) (ds:ma):bP:=iter (evalCode E cf bk ad fid c) n tm H ds
@[go_sem ↓] theorem adE (c tm H ds):evalCode E cf bk ad fid (.loop c) tm H ds=a1 E cf bk ad fid c ad tm H ds:=by simp only [evalCode,a1]
@[go_sem ↓] theorem QQ (i tm H ds):evalCode E cf bk ad fid (.exit i) tm H ds= .exit i tm H ds:=by simp only [evalCode]
@[go_sem ↓] theorem adF (tm H ds):evalCode E cf bk ad fid .ret tm H ds= .ret tm H ds:=by simp only [evalCode]
def O (t:Nat) (v:aa):aa:=match v with
 | .W a _=> .cR t a 0
 |v=>v
@[go_sem] theorem Er (tm t):B E tm (.tmp t)=O t (M tm t):=rfl
@[go_sem] theorem X3 (tm c):B E tm (.const c)=s 2 c:=rfl
@[go_sem] theorem agp (tm g):B E tm (.global g)=E.G g:=rfl
@[go_sem] theorem ago (tm g):B E tm (.func g)= .fn (.func g) [] []:=rfl
@[go_sem] theorem X2 (t b):O t (.bool b)= .bool b:=rfl
@[go_sem] theorem KH (t k n):O t (.int k n)= .int k n:=rfl
@[go_sem] theorem agm (t a b):O t (.str a b)= .str a b:=rfl
@[go_sem] theorem agh (t):O t (.dz)= .dz:=rfl
@[go_sem] theorem agj (t a b c d):O t (.ptr a b c d)= .ptr a b c d:=rfl
@[go_sem] theorem af7 (t a b):O t (.b5 a b)= .b5 a b:=rfl
@[go_sem] theorem agi (t):O t (.V)= .V:=rfl
@[go_sem] theorem agl (t a b):O t (.A a b)= .A a b:=rfl
@[go_sem] theorem agk (t a b c d e f):O t (.ref a b c d e f)= .ref a b c d e f:=rfl
@[go_sem] theorem agf (t):O t (.ef)= .ef:=rfl
@[go_sem] theorem agc (t a):O t (.map a)= .map a:=rfl
@[go_sem] theorem af5 (t a b):O t (.ck a b)= .ck a b:=rfl
@[go_sem] theorem agd (t):O t (.eA)= .eA:=rfl
@[go_sem] theorem af6 (t a b c):O t (.fn a b c)= .fn a b c:=rfl
@[go_sem] theorem age (t):O t (.dj)= .dj:=rfl
@[go_sem] theorem af8 (t a b):O t (.iface a b)= .iface a b:=rfl
@[go_sem] theorem af4 (t a):O t (.agg a)= .agg a:=rfl
@[go_sem] theorem agn (t a):O t (.av a)= .av a:=rfl
@[go_sem] theorem aga (t a b c):O t (.cR a b c)= .cR a b c:=rfl
@[go_sem] theorem af9 (t a):O t (.it a)= .it a:=rfl
@[go_sem] theorem agb (t s c):O t (.W s c)= .cR t s 0:=rfl
@[go_sem] theorem Xe (d k n):s d (.int k n)= .int k n:=by cases d<;>rfl
@[go_sem] theorem afP (d b):s d (.bool b)= .bool b:=by cases d<;>rfl
@[go_sem] theorem afS (d):s d (.slice none 0 0)= .V:=by cases d<;>rfl
@[go_sem] theorem afR (d):s d (.pointer none)= .dz:=by cases d<;>rfl
@[go_sem] theorem afQ (d):s d .nilIface= .dj:=by cases d<;>rfl
theorem vn (l:List aa) (i j:Nat) (v:aa):M (r l i v) j=if j=i/\i<l.length then v else M l j:=by
 induction l generalizing i j with
 |nil=>cases j<;>simp [r,M]
 | cons b l a=>cases i with
   |zero=>cases j<;>simp [r,M]
   | succ i=>cases j with
     |zero=>simp [r,M]
     |succ j=>simp [r,M,a]
theorem JV (l:List aa) (i:Nat) (v:aa):(r l i v).length=l.length:=by
 induction l generalizing i with
 |nil=>rfl
 |cons b l a=>cases i<;>simp [r,a]
attribute [go_sem] vn JV
@[go_sem] theorem jj (v l):M (v::l) 0=v:=by rw [M]
@[go_sem] theorem ael (v l i):M (v::l) (i+1)=M l i:=by rw [M]
@[go_sem] theorem aek (n i):M (List.replicate n (.av [])) i= .av []:=by
 induction n generalizing i with
 |zero=>cases i<;>rfl
 |succ n a=>cases i<;>simp [List.replicate,M,a]
@[go_sem] theorem J0 (v):nX false v=true:=rfl
@[go_sem] theorem afF (b s c):nX b (.W s c)=true:=by cases b<;>rfl
@[congr] theorem afT {r a:Option aa} {tm H} (b:r=a):bb r tm H=bb a tm H:=by rw [b]
@[go_sem] theorem zq (v tm H):bb (some v) tm H= .ok v tm H:=by simp [bb]
@[go_sem] theorem afU (tm H):bb none tm H= .fail:=rfl
@[go_sem ↓] theorem QW (d ty pos b1 g tm H) (x):evalOp E cf fid ⟨d,.move x,ty,pos,b1,g⟩ tm H=bb (some (B E tm x)) tm H:=rfl
@[go_sem ↓] theorem adI (d ty pos b1 g tm H) (x):evalOp E cf fid ⟨d,.assign x,ty,pos,b1,g⟩ tm H=bb (some (B E tm x)) tm H:=rfl
@[go_sem ↓] theorem ad4 (d ty pos b1 g tm H) (c a b):evalOp E cf fid ⟨d,.pick c a b,ty,pos,b1,g⟩ tm H=lY (B E tm c) (B E tm a) (B E tm b) tm H:=rfl
@[go_sem ↓] theorem adH (d ty pos b1 g tm H) (el):evalOp E cf fid ⟨d,.alloc el,ty,pos,b1,g⟩ tm H=fF (nW E fid d) d el (bN E el) tm H:=rfl
@[go_sem ↓] theorem adJ (d ty pos b1 g tm H) (el x):evalOp E cf fid ⟨d,.box el x,ty,pos,b1,g⟩ tm H=fF (nW E fid d) d el (some (B E tm x)) tm H:=rfl
@[go_sem ↓] theorem adK (d ty pos b1 g tm H) (t) (l:List (Nat×Operand)):evalOp E cf fid ⟨d,.build t l.toArray,ty,pos,b1,g⟩ tm H=bb (oE E t (l.map λp=>(p.1,B E tm p.2))) tm H:=rfl
@[go_sem ↓] theorem adL (d ty pos b1 g tm H) (t n) (l:List (Nat×Operand)):evalOp E cf fid ⟨d,.buildSlice t n l.toArray,ty,pos,b1,g⟩ tm H=ha (cT E t n (l.map λp=>(p.1,B E tm p.2)) H) tm:=rfl
@[go_sem ↓] theorem adU (d ty pos b1 g tm H) (t a):evalOp E cf fid ⟨d,.load t a,ty,pos,b1,g⟩ tm H=bb (dW E t (B E tm a) tm H) tm H:=rfl
@[go_sem ↓] theorem ad7 (d ty pos b1 g tm H) (t a x):evalOp E cf fid ⟨d,.store t a x,ty,pos,b1,g⟩ tm H=hd E t (B E tm a) (B E tm x) tm H:=rfl
@[go_sem ↓] theorem ad2 (d ty pos b1 g tm H) (x):evalOp E cf fid ⟨d,.nilCheck x,ty,pos,b1,g⟩ tm H=j1 (B E tm x) tm H:=rfl
@[go_sem ↓] theorem Hf (d ty pos b1 g tm H) (op t x y z):evalOp E cf fid ⟨d,.binOp op t x y z,ty,pos,b1,g⟩ tm H=bb (b4 E op t (B E tm x) (B E tm y)) tm H:=rfl
@[go_sem ↓] theorem ad9 (d ty pos b1 g tm H) (op t x):evalOp E cf fid ⟨d,.unOp op t x,ty,pos,b1,g⟩ tm H=bb (nc op (B E tm x)) tm H:=rfl
@[go_sem ↓] theorem adO (d ty pos b1 g tm H) (s t x):evalOp E cf fid ⟨d,.convert s t x,ty,pos,b1,g⟩ tm H=bb (jg E s t (B E tm x) H) tm H:=rfl
@[go_sem ↓] theorem adX (d ty pos b1 g tm H) (t x):evalOp E cf fid ⟨d,.makeInterface t x,ty,pos,b1,g⟩ tm H=n5 t (aW E t) (B E tm x) tm H:=rfl
@[go_sem ↓] theorem adW (d ty pos b1 g tm H) (f) (a c:List Operand):evalOp E cf fid ⟨d,.makeFunc f a.toArray c.toArray,ty,pos,b1,g⟩ tm H=lu E f (a.map (B E tm)) (c.map (B E tm)) tm H:=rfl
@[go_sem ↓] theorem adY (d ty pos b1 g tm H) (t r):evalOp E cf fid ⟨d,.makeMap t r,ty,pos,b1,g⟩ tm H=qx r tm H:=rfl
@[go_sem ↓] theorem adZ (d ty pos b1 g tm H) (t l c):evalOp E cf fid ⟨d,.makeSlice t l c,ty,pos,b1,g⟩ tm H=mX E t (B E tm l) (B E tm c) tm H:=rfl
@[go_sem ↓] theorem ad6 (d ty pos b1 g tm H) (t x lo a8 mx):evalOp E cf fid ⟨d,.slice t x lo a8 mx,ty,pos,b1,g⟩ tm H=ij E t (aW E t) (B E tm x) (lo.map (B E tm)) (a8.map (B E tm)) (mx.map (B E tm)) tm H:=rfl
@[go_sem ↓] theorem adR (d ty pos b1 g tm H) (s x f):evalOp E cf fid ⟨d,.fieldAddr s x f,ty,pos,b1,g⟩ tm H=bb (jh E s (B E tm x) f) tm H:=rfl
@[go_sem ↓] theorem adQ (d ty pos b1 g tm H) (s x f):evalOp E cf fid ⟨d,.field s x f,ty,pos,b1,g⟩ tm H=bb (pR E s (B E tm x) f) tm H:=rfl
@[go_sem ↓] theorem adT (d ty pos b1 g tm H) (t x i):evalOp E cf fid ⟨d,.indexAddr t x i,ty,pos,b1,g⟩ tm H=bb (jR E t (B E tm x) (B E tm i)) tm H:=rfl
@[go_sem ↓] theorem adS (d ty pos b1 g tm H) (t x i):evalOp E cf fid ⟨d,.index t x i,ty,pos,b1,g⟩ tm H=bb (oU E t (B E tm x) (B E tm i)) tm H:=rfl
@[go_sem ↓] theorem adV (d ty pos b1 g tm H) (t m k ok):evalOp E cf fid ⟨d,.lookup t m k ok,ty,pos,b1,g⟩ tm H=bb (iM E t (B E tm m) (B E tm k) ok H) tm H:=rfl
@[go_sem ↓] theorem ad0 (d ty pos b1 g tm H) (t m k v):evalOp E cf fid ⟨d,.mapUpdate t m k v,ty,pos,b1,g⟩ tm H=ih E t (B E tm m) (B E tm k) (B E tm v) tm H:=rfl
@[go_sem ↓] theorem adP (d ty pos b1 g tm H) (x i):evalOp E cf fid ⟨d,.extract x i,ty,pos,b1,g⟩ tm H=lX (B E tm x) i tm H:=rfl
@[go_sem ↓] theorem ad3 (d ty pos b1 g tm H) (x):evalOp E cf fid ⟨d,.panic x,ty,pos,b1,g⟩ tm H=qz (B E tm x) H:=rfl
@[go_sem ↓] theorem adM (d ty pos b1 g tm H) (b) (a:List Nat) (as:List Operand):evalOp E cf fid ⟨d,.call ⟨.builtin b,as.toArray,a.toArray⟩,ty,pos,b1,g⟩ tm H=hy E b a (as.map (B E tm)) tm H:=rfl
@[go_sem ↓] theorem adN (d ty pos b1 g tm H) (f) (a:List Nat) (as:List Operand):evalOp E cf fid ⟨d,.call ⟨.value f,as.toArray,a.toArray⟩,ty,pos,b1,g⟩ tm H=cx E cf (B E tm f) (as.map (B E tm)) H tm:=rfl
@[go_sem] theorem afq (x):eI (.move x)=false:=rfl
@[go_sem] theorem ae6 (x):eI (.assign x)=false:=rfl
@[go_sem] theorem aft (c a b):eI (.pick c a b)=false:=rfl
@[go_sem] theorem ae5 (el):eI (.alloc el)=false:=rfl
@[go_sem] theorem ae8 (el x):eI (.box el x)=false:=rfl
@[go_sem] theorem ae9 (t) (l:List (Nat×Operand)):eI (.build t l.toArray)=false:=rfl
@[go_sem] theorem afa (t n) (l:List (Nat×Operand)):eI (.buildSlice t n l.toArray)=false:=rfl
@[go_sem] theorem afj (t a):eI (.load t a)=false:=rfl
@[go_sem] theorem afv (t a x):eI (.store t a x)=false:=rfl
@[go_sem] theorem afr (x):eI (.nilCheck x)=false:=rfl
@[go_sem] theorem ae7 (op t x y z):eI (.binOp op t x y z)=false:=rfl
@[go_sem] theorem afw (op t x):eI (.unOp op t x)=false:=rfl
@[go_sem] theorem afd (s t x):eI (.convert s t x)=false:=rfl
@[go_sem] theorem afm (t x):eI (.makeInterface t x)=false:=rfl
@[go_sem] theorem afl (f) (a c:List Operand):eI (.makeFunc f a.toArray c.toArray)=false:=rfl
@[go_sem] theorem afn (t r):eI (.makeMap t r)=false:=rfl
@[go_sem] theorem afo (t l c):eI (.makeSlice t l c)=false:=rfl
@[go_sem] theorem afu (t x lo a8 mx):eI (.slice t x lo a8 mx)=false:=rfl
@[go_sem] theorem afg (s x f):eI (.fieldAddr s x f)=false:=rfl
@[go_sem] theorem aff (s x f):eI (.field s x f)=false:=rfl
@[go_sem] theorem afi (t x i):eI (.indexAddr t x i)=false:=rfl
@[go_sem] theorem afh (t x i):eI (.index t x i)=false:=rfl
@[go_sem] theorem afk (t m k ok):eI (.lookup t m k ok)=false:=rfl
@[go_sem] theorem afp (t m k v):eI (.mapUpdate t m k v)=false:=rfl
@[go_sem] theorem afe (x i):eI (.extract x i)=false:=rfl
@[go_sem] theorem afs (x):eI (.panic x)=false:=rfl
@[go_sem] theorem afb (b) (a:List Nat) (as:List Operand):eI (.call ⟨.builtin b,as.toArray,a.toArray⟩)=false:=rfl
@[go_sem] theorem afc (f) (a:List Nat) (as:List Operand):eI (.call ⟨.value f,as.toArray,a.toArray⟩)=false:=rfl
end
theorem Xn (k n):J (.int k n)=true:=rfl
theorem Xi (b):J (.bool b)=true:=rfl
attribute [go_sem] Xn Xi
@[go_sem] theorem af2 (b x y tm H):lY (.bool b) x y tm H= .ok (if b then x else y) tm H:=by cases b<;>simp [lY,bb]
@[go_sem] theorem afX (vs i tm H):lX (.av vs) i tm H=bb vs[i]? tm H:=rfl
def pn:aa->Nat
 | .W c _=>c+1
 |_=>0
@[go_sem] theorem afW (d el z tm H):fF true (some d) el (some z) tm H=match z.cells.all J with
  |true=> .ok (.W (pn (M tm d)) z.cells) tm H
  |false=> .fail:=by
 simp only [fF]
 cases z.cells.all J with
 |false=>rfl
 | true=>
   simp only [newLocal];cases M tm d<;>simp [bb,pn]
@[go_sem] theorem afV (d el z tm H):fF false (some d) el (some z) tm H=match z.cells.all J with
  |true=> .ok (.ptr H.n (q el) 0 z.cells.length) tm (H.push (.cells (q el) (q el) 0 z.cells))
  |false=> .fail:=by
 simp only [fF]
 cases z.cells.all J with
 |false=>rfl
 |true=>simp [o4]
theorem PL (l):(aa.agg l).cells=l:=rfl
theorem PM (b):(aa.bool b).cells= [.bool b]:=rfl
theorem PS (k n):(aa.int k n).cells= [.int k n]:=rfl
attribute [go_sem] PL PM PS
@[go_sem] theorem acy (l o n):gT (.b5 l o) n=some (.b5 l (o+n)):=by simp [gT]
@[go_sem] theorem acA (a b c d n):gT (.ptr a b c d) n=some (.ptr a b (c+n) d):=by simp [gT]
@[go_sem] theorem acz (a b c n):gT (.cR a b c) n=some (.cR a b (c+n)):=by simp [gT]
@[go_sem] theorem Zo (tm H cs off):gq tm H (.b5 cs off)=some (cs,off,cs.length):=rfl
def zJ (st off:Nat):aa->Option (List aa×Nat×Nat)
 | .W d c=>if st=d then some (c,off,c.length) else none
 |_=>none
@[go_sem] theorem ag2 (tm H slot st off):gq tm H (.cR slot st off)=zJ st off (M tm slot):=by simp only [gq,zJ]<;>grind
@[go_sem] theorem ag3 (st off cs):zJ st off (.W st cs)=some (cs,off,cs.length):=by simp [zJ]
def Lq (e off f:Nat):Option Obj->Option (List aa×Nat×Nat)
 |some (.cells _ d _ c)=>if d<=e then some (c,off,f) else none
 |_=>none
@[go_sem] theorem Lp (tm H id gen off lim):gq tm H (.ptr id gen off lim)=Lq gen off lim (H.get id):=rfl
@[go_sem] theorem Lr (gen off lim g d ro cs):Lq gen off lim (some (.cells g d ro cs))=if d<=gen then some (cs,off,lim) else none:=rfl
@[go_sem] theorem Wd (cs off lim):jY 1 false (some (cs,off,lim))=if off+1<=lim then cs[off]? else none:=by
 simp only [jY]
 cases c:Nat.ble (off+1) lim with
 |true=>simp_all
 |false=>rw [if_neg (λd=>by rw [h_ d] at c;cases c)]
@[go_sem] theorem JX (n cs off lim):jY n true (some (cs,off,lim))=if off+n<=lim then (if off+n<=cs.length then some (.agg ((cs.drop off).take n)) else none) else none:=by
 simp only [jY]
 cases c:Nat.ble (off+n) lim with
 | true=>
   rw [if_pos (er c)];simp only [AR,sub];split
   all_goals simp_all
 |false=>rw [if_neg (λd=>by rw [h_ d] at c;cases c)]
section
variable (E:Env) (t:Nat) (k:IntKind) (a b:Int)
@[go_sem] theorem OL:b4 E .add t (.int k a) (.int k b)=some (.int k (k.wrap (a+b))):=by simp [b4,jb,kh]
@[go_sem] theorem acI:b4 E .sub t (.int k a) (.int k b)=some (.int k (k.wrap (a-b))):=by simp [b4,jb,kh]
@[go_sem] theorem asG:b4 E .mul t (.int k a) (.int k b)=some (.int k (k.wrap (a*b))):=by simp [b4,jb,kh]
@[go_sem] theorem acG:b4 E .quo t (.int k a) (.int k b)=if b=0 then none else some (.int k (k.wrap (a.tdiv b))):=by simp [b4,jb,kh]
@[go_sem] theorem acH:b4 E .rem t (.int k a) (.int k b)=if b=0 then none else some (.int k (a.tmod b)):=by simp [b4,jb,kh]
@[go_sem] theorem acB:b4 E .eql t (.int k a) (.int k b)=some (.bool (a==b)):=by simp [b4,jb,kh]
@[go_sem] theorem acF:b4 E .neq t (.int k a) (.int k b)=some (.bool (a !=b)):=by simp [b4,jb,kh]
@[go_sem] theorem OM:b4 E .lss t (.int k a) (.int k b)=some (.bool (decide (a<b))):=by simp [b4,jb,kh]
@[go_sem] theorem acE:b4 E .leq t (.int k a) (.int k b)=some (.bool (decide (a<=b))):=by simp [b4,jb,kh]
@[go_sem] theorem acD:b4 E .gtr t (.int k a) (.int k b)=some (.bool (decide (a>b))):=by simp [b4,jb,kh]
@[go_sem] theorem acC:b4 E .geq t (.int k a) (.int k b)=some (.bool (decide (a>=b))):=by simp [b4,jb,kh]
@[go_sem] theorem aho (c:Bool):nc .not (.bool c)=some (.bool (!c)):=by simp [nc]
end
section
variable (E:Env) (cf:cb) (bk:bU) (ad:Nat)
theorem lN (n f m:Nat) (args:List aa) (H:af) (fn:Func) (c:Code) (i:E.cL f=none) (h:E.fns f=some fn) (g:fn.body=some c) (j:fn.ntmps=args.length+m):
  X E bk ad (n+1) f args H=finish E (X E bk ad n) bk ad fn (evalCode E (X E bk ad n) bk ad f c (args++List.replicate m (.av [])) H []):=by
 have d:args.length<=fn.ntmps:=ab;have e:fn.ntmps-args.length=m:=ab;simp only [X,nE,i,h,g,if_pos d,e]
theorem RP (fn tm H):finish E cf bk ad fn (.normal tm H [])=hA E fn tm H:=rfl
theorem RQ (fn tm H):finish E cf bk ad fn (.ret tm H [])=hA E fn tm H:=rfl
attribute [go_sem] RP RQ
def dX (v:aa) (H:af):cY:=if aD v then .ret v H else .fail
end
@[go_sem] theorem agW (b H):dX (.bool b) H= .ret (.bool b) H:=rfl
@[go_sem] theorem agX (k n H):dX (.int k n) H= .ret (.int k n) H:=rfl
def kA (k:Nat) (x i:aa):Option aa:=match x,i with
 | .A g _,.int _ (.ofNat n)=>match g[n]? with
   |some d=>if d.length=k then some (.b5 d 0) else none
   |none=>none
 | .ref id gen c e f _,.int _ (.ofNat n)=>if k=e/\n<f then some (.ptr id gen (c+n*k) (c+n*k+k)) else none
 |_,_=>none
def Tv (E:Env) (t el k:Nat) (x i:aa) (d:aW E t=some (.slice el)) (c:bZ E el=some k):jR E t x i=kA k x i:=by
 unfold jR kA;rw [d]
 cases i with
 | int e n=>cases n with
   |ofNat n=>cases x<;>simp [k1,c]<;>rfl
   |negSucc n=>cases x<;>simp [k1]
 |_=>cases x<;>simp [k1]
def iL (x:aa):Option aa:=match x with
 | .V=>some (.int .i64 0)
 | .A d _=>some (.int .i64 d.length)
 | .ref _ _ _ _ c _=>some (.int .i64 c)
 |_=>none
theorem V5 (E:Env) (t el:Nat) (x:aa) (H:af) (c:aW E t=some (.slice el)):fE E t x H=iL x:=by unfold fE iL;rw [c];cases x<;>simp<;>rfl
@[go_sem] theorem afB:iL .V=some (.int .i64 0):=rfl
@[go_sem] theorem afD (rows c):iL (.A rows c)=some (.int .i64 rows.length):=rfl
@[go_sem] theorem afC (a b c d e f):iL (.ref a b c d e f)=some (.int .i64 e):=rfl
def Wh (E:Env) (t n:Nat) (d:TypeDesc) (p:aa) (tm:List aa) (H:af) (c:bZ E t=some n) (e:aW E t=some d):dW E t p tm H=jY n (jS d) (gq tm H p):=by
 simp only [dW,c,e]
def aay (E:Env) (t n:Nat) (p v:aa) (tm:List aa) (H:af) (c:bZ E t=some n):hd E t p v tm H=hf n p v.cells tm H:=by
 simp only [hd,c]
def RF (E:Env) (s f o m:Nat) (d:Array Field) (c:Field) (p:aa) (h:aW E s=some (.struct d)) (e:d[f]? =some c) (g:c.offset=o) (i:bZ E c.type=some (m+1)):
    jh E s p f=gT p o:=by
 simp only [jh,h,e,i,g]
@[go_sem] theorem builtin_len (E t x tm H):hy E .len [t] [x] tm H=bb (fE E t x H) tm H:=rfl
def hV (E:Env) (f:Nat) (n0:Nat) (tm:List aa) (r:cY):bf:=match r with
 | .ret c d=>if E.bS f then .ok c tm (gc n0 c d) else (match aZ bR c d with
  |some (c,d)=> .ok c tm (gc n0 c d)
  |none=> .fail)
 | .aK c d=>(match aZ bR c d with
   |some (c,d)=> .aK c (gc n0 c d)
   |none=> .fail)
 | .fail=> .fail
def jL (E:Env) (cf:cb) (f args H tm) (d:E.pure f=false) (c:args.all aD=true):az E cf f args H tm=hV E f H.n tm (cf f args H):=by
 simp only [az,c,d,sX,hV];cases cf f args H<;>simp<;>(grind)
@[go_sem] theorem eg (E cf f a c args H tm):cx E cf (.fn (.func f) a c) args H tm=az E cf f (a++(args++c)) H tm:=by simp [cx]
attribute [go_sem] List.cons_append List.nil_append List.all_cons List.all_nil List.length_cons List.length_replicate List.length_nil Bool.true_and Bool.and_true Bool.false_and Bool.and_false Bool.true_or Bool.or_true Bool.false_or Bool.or_false
 List.map_cons List.map_nil List.getElem?_cons_zero List.getElem?_cons_succ List.getElem?_nil List.take_succ_cons List.drop_succ_cons List.take_zero List.drop_zero List.append_nil and_true true_and if_true Option.map_some Option.map_none Bool.not_true Bool.not_false
@[go_sem] theorem afE (E:Env) (f d):nW E f (some d)=E.loc f d:=rfl
def WH (x y):Nat.beq x y=decide (x=y):=by
 cases c:Nat.beq x y with
 |true=>simp_all
 |false=>simp [Nat.ne_of_beq_eq_false c]
attribute [go_sem] WH decide_true decide_false eq_self if_false false_and and_false true_or or_true
@[go_sem] theorem ahn (l):pn (.av l)=0:=rfl
@[go_sem] theorem ahm (s c):pn (.W s c)=s+1:=rfl
@[go_sem] theorem ae4 (l):jS (.struct l)=true:=rfl
def OA (b:Bool):(b==true)=b:=ai
def OB (b:Bool):(b==false)= !b:=ai
attribute [go_sem] OA OB
def wrap64 (x:Int) (c: -9223372036854775808<=x) (d:x<9223372036854775808):IntKind.i64.wrap x=x:=by
 have a:(2:Int)^64=18446744073709551616:=al;have b:(2:Int)^(64-1)=9223372036854775808:=al;simp only [IntKind.wrap,IntKind.bits,IntKind.signed,aiF,a,b]
 grind
def pW (H:af) (o:Obj) (id:Nat) (a:id<H.n):(H.push o).get id=H.get id:=by
 have b:id<H.n+1:=ab;have:H.n+1-1-id=(H.n-1-id)+1:=ab;unfold af.get;rw [if_pos a,if_pos (show id<(H.push o).n from b)];show (o::H.l)[H.n+1-1-id]? =_
 grind
def dL (H:af) (o:Obj):(H.push o).get H.n=some o:=by
 simp [af.get,af.push]
def gW {H:af} {id:Nat} {o:Obj} (a:H.get id=some o):id<H.n:=by
 simp only [af.get] at a
 grind
@[reducible] def wK:aa->Bool
 | .bool _=>true
 | .int _ _=>true
 | .str _ _=>true
 | .av []=>true
 |_=>false
def Yy (v:aa) (H:af) (a:wK v=true):aZ bR v H=some (v,H):=by
 cases v with
 |bool c=>rfl
 |int e n=>rfl
 |str d c=>rfl
 | av b=>cases b with
   |nil=>rfl
   |cons f b=>cases a
 |_=>cases a
def Zd (E:Env) (f n0 tm v H) (a:wK v=true):hV E f n0 tm (.ret v H)= .ok v tm (gc n0 v H):=by
 simp only [hV,Yy v H a];simp
def ts:bP->Bool
 | .normal _ _ _=>true
 |_=>false
def J3 (a:List aa->af->ma->bP) (Q:bP->Prop) (b:Nat->List aa->af->Prop) (N:Nat)
    (g: ∀j tm H,j<=N->b j tm H->(∃L H',a tm H []= .normal L H' []/\j<N/\b (j+1) L H')\/(ts (a tm H [])=false/\Q (a tm H [])))
    (n:Nat): ∀i tm H,i<=N->N-i<n->b i tm H->Q (iter a n tm H []):=by
 induction n with
 |zero=>omega
 | succ n m=>
   intro i tm H f l d;rcases g i tm H f d with ⟨L,H',c,k,h⟩|⟨c,e⟩
   . simp only [iter,c]
     grind
   . simp only [iter];revert c e;cases a tm H []<;>simp [ts]
def F (x:aa) (rows:Y):Prop:=(x= .V/\rows= [])\/ ∃a,x= .A rows a
section
variable {x:aa} {rows:Y} (ag:F x rows)
include ag
theorem F.len:iL x=some (.int .i64 rows.length):=by rcases ag with ⟨rfl,rfl⟩|⟨a,rfl⟩<;>rfl
theorem F.O (t:Nat):O t x=x:=by rcases ag with ⟨rfl,rfl⟩|⟨a,rfl⟩<;>rfl
theorem F.aD:aD x=true:=by rcases ag with ⟨rfl,rfl⟩|⟨a,rfl⟩<;>rfl
theorem F.J:J x=true:=by rcases ag with ⟨rfl,rfl⟩|⟨a,rfl⟩<;>rfl
theorem F.cells:x.cells= [x]:=by rcases ag with ⟨rfl,rfl⟩|⟨a,rfl⟩<;>rfl
theorem F.a_ {k j:Nat} {r:List aa} (a:rows[j]? =some r) (c:r.length=k):kA k x (.int .i64 (j:Nat))=some (.b5 r 0):=by
 rcases ag with ⟨rfl,rfl⟩|⟨b,rfl⟩
 . cases a
 . show (match rows[j]? with|some r=>_|none=>_)=_
   grind
end
theorem ZS (b):wK (.bool b)=true:=rfl
theorem ZT (k n):wK (.int k n)=true:=rfl
theorem ZU:wK (.av [])=true:=rfl
theorem WT (b):aD (.bool b)=true:=rfl
theorem WY (k n):aD (.int k n)=true:=rfl
theorem WS (l):aD (.agg l)=true:=rfl
theorem WV (f a c):aD (.fn f a c)=true:=rfl
theorem W3 (a b c d):aD (.ptr a b c d)=true:=rfl
theorem W4 (a b c d e f):aD (.ref a b c d e f)=true:=rfl
theorem W5 (a b):aD (.A a b)=true:=rfl
theorem W2:aD .V=true:=rfl
attribute [go_sem] ZS ZT ZU WT WY WS WV W3 W4 W5 W2 Zd
def o_ (H:af) (o o':Obj):(H.push o).set H.n o'=H.push o':=by
 simp [af.set,af.push,dM]
attribute [go_sem] o_ dL
def E2 (id b off f n:Nat) (vs:List aa) (tm:List aa) (H:af):Option Obj->bf
 |some (.cells a _ c d)=>if b=a/\c<=off/\off+n<=f then (match cB d off vs with
  |some e=> .ok (.av []) tm (H.set id (.cells a b c e))
  |none=> .fail) else .fail
 |_=> .fail
@[go_sem] theorem Mj (n id gen off lim vs tm H):hf n (.ptr id gen off lim) vs tm H=if vs.length=n/\vs.all J=true then E2 id gen off lim n vs tm H (H.get id) else .fail:=by
 simp only [hf,hD,E2];split
 . cases H.get id with
   |none=>rfl
   |some o=>cases o<;>simp only [bu,c8]<;>rfl
 . rfl
@[go_sem] theorem Mk (id gen off lim n vs tm H g d ro cs):E2 id gen off lim n vs tm H (some (.cells g d ro cs))=if gen=g/\ro<=off/\off+n<=lim then (match cB cs off vs with
 |some cs'=> .ok (.av []) tm (H.set id (.cells g gen ro cs'))
 |none=> .fail) else .fail:=rfl
def z1 (c st off:Nat) (vs:List aa) (tm:List aa) (H:af):aa->bf
 | .W d a=>if st=d then (match cB a off vs with
  |some b=> .ok (.av []) (r tm c (.W st b)) H
  |none=> .fail) else .fail
 |_=> .fail
@[go_sem] theorem ahk (n slot st off vs tm H):hf n (.cR slot st off) vs tm H=if vs.length=n/\vs.all J=true then z1 slot st off vs tm H (M tm slot) else .fail:=by
 simp only [hf,m9,z1];split
 . cases M tm slot<;>simp only [bu]<;>rfl
 . rfl
@[go_sem] theorem ahl (slot st off vs tm H cs):z1 slot st off vs tm H (.W st cs)=match cB cs off vs with
 |some a=> .ok (.av []) (r tm slot (.W st a)) H
 |none=> .fail:=by simp [z1]
def abK (cs:List aa) (off:Nat) (v:aa):cB cs off [v]=if off<cs.length then some (cs.set off v) else none:=by
 simp only [cB,yQ];by_cases ag:off<cs.length
 . rw [if_pos ag,if_pos ab,List.set_eq_take_append_cons_drop,if_pos ag];rfl
 grind
attribute [go_sem] abK List.set_cons_zero List.set_cons_succ
theorem Xs:J .V=true:=rfl
theorem Xv (a b c d e f):J (.ref a b c d e f)=true:=rfl
theorem Xw (a b):J (.A a b)=true:=rfl
theorem Xu (a b c d):J (.ptr a b c d)=true:=rfl
theorem Xq:J .ef=true:=rfl
theorem Xo (a):J (.map a)=true:=rfl
theorem Xp:J .eA=true:=rfl
theorem Xk (a b c):J (.fn a b c)=true:=rfl
theorem Xx (a b):J (.str a b)=true:=rfl
attribute [go_sem] Xs Xv Xw Xu Xq Xo Xp Xk Xx
@[go_sem] theorem adf (a b c d e f):(aa.ref a b c d e f).cells= [.ref a b c d e f]:=rfl
@[go_sem] theorem adg (a b):(aa.A a b).cells= [.A a b]:=rfl
@[go_sem] theorem adb:(aa.V).cells= [.V]:=rfl
@[go_sem] theorem ada:(aa.ef).cells= [.ef]:=rfl
@[go_sem] theorem ac8 (a):(aa.map a).cells= [.map a]:=rfl
@[go_sem] theorem ade (a b c d):(aa.ptr a b c d).cells= [.ptr a b c d]:=rfl
@[go_sem] theorem ac9:(aa.eA).cells= [.eA]:=rfl
@[go_sem] theorem ac7 (a b c):(aa.fn a b c).cells= [.fn a b c]:=rfl
abbrev sw:=Nat->Nat->Option Value
abbrev nj:=Nat->Option Go.Obj
structure jB where
  c:Nat
  s:Nat
instance:OfNat jB 0:=⟨⟨0,0⟩⟩
abbrev lE:=Nat->Nat->Option (Nat×jB×Nat)
def eQ:lE:=λ_ _=>none
inductive bt (F:sw) (M:nj):lE->aa->Value->Prop where
  |bad {μ} (x:Value):bt F M μ .bad x
  |bool {μ} (b:Bool):bt F M μ (.bool b) (.bool b)
  |int {μ} (k:IntKind) (n:Int):bt F M μ (.int k n) (.int k n)
  |str {μ} (s:ByteArray) (len num:Nat):s.size=len->et s=num->bt F M μ (.str len num) (.string s)
  |agg {μ} (cs:List aa) (xs:Array Value):cs.length=xs.size->(∀(i:Nat) (v:aa) (x:Value),cs[i]? =some v->xs[i]? =some x->bt F M μ v x)->bt F M μ (.agg cs) (.agg xs)
  |av {μ} (cs:List aa) (xs:Array Value):cs.length=xs.size->(∀(i:Nat) (v:aa) (x:Value),cs[i]? =some v->xs[i]? =some x->bt F M μ v x)->bt F M μ (.av cs) (.tuple xs)
  |dz {μ}:bt F M μ .dz (.pointer none)
  |ptr {μ} (id gen off lim b:Nat) (C:jB) (L:Nat):μ id gen=some (b,C,L)->lim<=L->C.s<=off->bt F M μ (.ptr id gen off lim) (.pointer (some ⟨b,off-C.s,none⟩))
  |b5 {μ} (cs:List aa) (off b o:Nat) (X:Nat->Value):(∀i,i<cs.length->F b (o+i)=some (X i))->(∀(i:Nat) (v:aa),cs[i]? =some v->bt F M eQ v (X i))->
      bt F M μ (.b5 cs off) (.pointer (some ⟨b,o+off,none⟩))
  |V {μ}:bt F M μ .V (.slice none 0 0)
  | A {μ} (rows:List (List aa)) (clip:Bool) (a:Option Addr) (cap k b o:Nat) (X:Nat->Nat->Value):
      rows.length<=cap->(clip=true->cap=rows.length)->(a≠none)->(rows≠ []->a=some ⟨b,o,none⟩)->
      (∀(i:Nat) (row:List aa),rows[i]? =some row->row.length=k)->
      (∀i j,i<rows.length->j<k->F b (o+(i*k+j))=some (X i j))->
      (∀(i j:Nat) (row:List aa) (v:aa),rows[i]? =some row->row[j]? =some v->bt F M eQ v (X i j))->
      bt F M μ (.A rows clip) (.slice a rows.length cap)
  |ref {μ} (id gen off k len:Nat) (clip:Bool) (b:Nat) (C:jB) (L cap:Nat):μ id gen=some (b,C,L)->off+len*k<=L->0<k->(clip=true->cap=len)->(clip=false->off+cap*k=C.c)->
      len<=cap->C.s<=off->bt F M μ (.ref id gen off k len clip) (.slice (some ⟨b,off-C.s,none⟩) len cap)
  |ef {μ}:bt F M μ .ef (.map none)
  |map {μ} (id b:Nat):μ id 0=some (b,0,0)->bt F M μ (.map id) (.map (some b))
  |ck {μ} (ks vs:List aa) (b:Nat) (es:Array MapEntry) (clock:Nat):M b=some (.map es clock)->ks.length=es.size->vs.length=es.size->
      (∀(i:Nat) (v:aa) (e:MapEntry),ks[i]? =some v->es[i]? =some e->bt F M eQ v e.key)->(∀(i:Nat) (v:aa) (e:MapEntry),vs[i]? =some v->es[i]? =some e->bt F M eQ v e.val)->
      bt F M μ (.ck ks vs) (.map (some b))
  |eA {μ}:bt F M μ .eA .nilFunc
  |fn {μ} (f:Fn) (first cap:List aa) (xs bI:Array Value):first.length=xs.size->cap.length=bI.size->
      (∀(i:Nat) (v:aa) (x:Value),first[i]? =some v->xs[i]? =some x->bt F M μ v x)->(∀(i:Nat) (v:aa) (x:Value),cap[i]? =some v->bI[i]? =some x->bt F M μ v x)->
      bt F M μ (.fn f first cap) (.func f xs bI)
  |dj {μ}:bt F M μ .dj .nilIface
  |iface {μ} (t:TypeId) (v:aa) (x:Value):bt F M μ v x->bt F M μ (.iface t v) (.iface t x)
  |it {μ} (id b:Nat):μ id 0=some (b,0,0)->bt F M μ (.it id) (.pointer (some ⟨b,0,none⟩))
structure aF where
  F:sw
  M:nj
  μ:lE
def aF.bare (ae:aF):aF:=⟨ae.F,ae.M,eQ⟩
def aC (ae:aF) (v:aa) (x:Value):Prop:=bt ae.F ae.M ae.μ v x
def bt.mono {F B:sw} {M C:nj} {μ:lE} {v:aa} {x:Value} (f:bt F M μ v x)
    (hF: ∀b o y,F b o=some y->B b o=some y) (K: ∀b y,M b=some y->C b=some y):
    ∀ {ga:lE},(∀i g y,μ i g=some y->ga i g=some y)->bt B C ga v x:=by
 induction f with
 |bad x=>intro ga a;exact .bad x
 |bool b=>intro ga a;exact .bool b
 |int m n=>intro ga a;exact .int m n
 |str R z num c d=>intro ga a;exact .str R z num c d
 |agg j q c d l=>intro ga a;exact .agg j q c ah
 |av j q c d l=>intro ga a;exact .av j q c ah
 |dz=>intro ga a;exact .dz
 |ptr id gen p P b s t c d e=>intro ga a;exact .ptr id gen p P b s t ah d e
 |b5 j p b o u c d l=>intro ga a;exact .b5 j p b o u ah ah
 |V=>intro ga a;exact .V
 | A Q w G h m b o u c d e k r D E l=>
   intro ga a;exact .A Q w G h m b o u c d e k r ah ah
 |ref id gen p m z w b s t h c d e k r D E=>intro ga a;exact .ref id gen p m z w b s t h ah d e k r D E
 |ef=>intro ga a;exact .ef
 |map id b f=>intro ga a;exact .map id b (a _ _ _ f)
 | ck O T b I H c d e k r L N=>
   intro ga a;exact .ck O T b I H (K _ _ c) d e ah ah
 |eA=>intro ga a;exact .eA
 | fn J first h q U c d e k L N=>
   intro ga a;exact .fn J first h q U c d ah ah
 |dj=>intro ga a;exact .dj
 |iface S v x f l=>intro ga a;exact .iface S v x (l a)
 |it id b f=>intro ga a;exact .it id b (a _ _ _ f)
def bt.n4 {F:sw} {M:nj} {μ:lE} {v:aa} {x:Value} (a:bt F M eQ v x):bt F M μ v x:=
 a.mono ai ai (λ_ _ _ a=>by simp [eQ] at a)
def cellAt (w:World) (b o:Nat):Option Value:=match w.heap[b]? with
 |some (.cells a _ _)=>a[o]?
 |_=>none
def BX (w:World) (b C:Nat):Prop:= ∃c f e d,w.heap[b]? =some (.cells c f (e,d))/\C<=c.size/\ ∀a,a<C+(a+1)-> ¬(e<=a/\a<d)
def HR (w:World) (b C:Nat):Prop:= ∃c f e d,w.heap[b]? =some (.cells c f (e,d))/\C<=c.size/\ ∀a,a<C-> ¬(e<=a/\a<d)
def BX.lo {w:World} {b C:Nat} (d:BX w b C):HR w b C:=let ⟨a,c,lo,h,e,f,g⟩:=d;⟨a,c,lo,h,e,f,λi _=>g i ab⟩
def qY (w:World) (b g:Nat):Prop:= ∀a,ev g=a+1-> ∃c d,w.heap[b]? =some (.cells c a d)
def qY.of_eq {w w':World} {b g:Nat} (a:qY w b g) (e:w'.heap[b]? =w.heap[b]?):qY w' b g:=λd c=>let ⟨f,h,i⟩:=a d c;ah
def qY.Xh {w:World} {b g g':Nat} (a:qY w b g) (e:ev g'=ev g):qY w b g':=λd c=>a d (e▸c)
structure Ax (ae:aF) (id gen u_ ro:Nat) (cs:List aa) (w:World) (b:Nat) (C:jB):Prop where
  at_:ae.μ id gen=some (b,C,cs.length)
  room:cs.length<=C.c
  sle:C.s<=C.c
  free:BX w b (C.c-C.s)
  nK: ∀(i:Nat) (v:aa),i<C.s->cs[i]? =some v-> ∃x,aC ae v x
  cont: ∀g jJ qW ov,u_<=g->ae.μ id g=some (jJ,qW,ov)->ov<=cs.length/\ ∀(i:Nat) (v:aa),qW.s<=i->i<ov->cs[i]? =some v-> ∃x,cellAt w jJ (i-qW.s)=some x/\aC ae v x
  wr: ∀o,ro<=o->o<C.c->C.s<=o->ae.F b (o-C.s)=none
  last: ∀g,gen<g->ae.μ id g=none
  km:u_<=gen
  pO:qY w b gen
structure FI (ae:aF) (id:Nat) (aI:Bool) (ks vs:List aa) (w:World) (b:Nat) (es:Array MapEntry) (clock:Nat):Prop where
  at_:ae.μ id 0=some (b,0,0)
  dH:w.heap[b]? =some (.map es clock)
  jt:ks.length=es.size
  kK:vs.length=es.size
  keys: ∀(i:Nat) (v:aa) (e:MapEntry),ks[i]? =some v->es[i]? =some e->aC ae v e.key
  nd: ∀(i:Nat) (v:aa) (e:MapEntry),vs[i]? =some v->es[i]? =some e->aC ae v e.val
  free:aI=false->ae.M b=none
structure NP (ae:aF) (id len num pos:Nat) (w:World) (b:Nat) (s:ByteArray):Prop where
  at_:ae.μ id 0=some (b,0,0)
  dH:w.heap[b]? =some (.stringIter s pos)
  size:s.size=len
  num:et s=num
  free:ae.M b=none
def q1 (ae:aF) (id:Nat) (w:World):Obj->Prop
 | .cells gen e k d=> ∃a b,Ax ae id gen e k d w a b
 | .map aI h m=> ∃a f c,FI ae id aI h m w a f c
 | .iter i num j=> ∃a l,NP ae id i num j w a l
 | .gone=>True
 | .uj=> ∀g,ae.μ id g=none
structure Q (ae:aF) (H:af) (w:World):Prop where
  aI: ∀b o v,ae.F b o=some v->cellAt w b o=some v
  gK: ∀b o,ae.M b=some o->w.heap[b]? =some o
  hR: ∀b o,ae.M b=some o-> ∃es c,o=Go.Obj.map es c
  len:H.l.length=H.n
  obj: ∀id o,H.get id=some o->q1 ae id w o
  hI: ∀id g y,ae.μ id g=some y->id<H.n
  e3: ∀id g b C L,ae.μ id g=some (b,C,L)->b<w.heap.size
  sep: ∀id g b C L Cz g' qW ov,ae.μ id g=some (b,C,L)->ae.μ Cz g'=some (b,qW,ov)->id=Cz/\C.s=qW.s
def aF.own (ae:aF) (b:Nat):Prop:= ∃id d a c,ae.μ id d=some (b,a,c)
structure Fr (own:Nat->Prop) (ae cF:aF) (w w':World):Prop where
  size:w.heap.size<=w'.heap.size
  bS: ∀b,b<w.heap.size-> ¬own b->w'.heap[b]? =w.heap[b]?
  jO: ∀b o v,ae.F b o=some v->cF.F b o=some v
  s6: ∀b o v,cF.F b o=some v->ae.F b o=some v\/own b\/w.heap.size<=b
  kH: ∀b o,ae.M b=some o->cF.M b=some o
  tV: ∀b o,cF.M b=some o->ae.M b=some o\/own b\/w.heap.size<=b
  iP: ∀b,cF.own b->own b\/w.heap.size<=b
  uC: ∀i g y,ae.μ i g=some y->cF.μ i g=some y
  os:w'.os=w.os
  output:w'.output=w.output
  tape:w'.tape=w.tape
def Fr.refl {a:Nat->Prop} {ae:aF} {w:World} (c: ∀b,ae.own b->a b):Fr a ae ae w w:=
 ⟨ai,ai,ai,ah,ai,ah,ah,ai,rfl,rfl,rfl⟩
def Fr.trans {h j:Nat->Prop} {ae l m:aF} {w w' k:World} (a:Fr h ae l w w') (d:Fr j l m w' k)
    (q: ∀b,j b->h b\/w.heap.size<=b):Fr h ae m w k:=by
 refine ⟨eT a.size d.size,λb g n=> ?_,λb f i e=>d.jO _ _ _ (a.jO _ _ _ e),λb f i e=> ?_,λb f e=>d.kH _ _ (a.kH _ _ e),λb f e=> ?_,λb g=> ?_,λr p s o=>d.uC _ _ _ (a.uC _ _ _ o),d.os.trans a.os,d.output.trans a.output,d.tape.trans a.tape⟩
 . rw [d.bS b (yX g a.size) ah];exact a.bS b g n
 . rcases d.s6 b f i e with c|c|c
   . exact a.s6 b f i c
   . grind
   . exact .inr (.inr (eT a.size c))
 . rcases d.tV b f e with c|c|c
   . exact a.tV b f c
   . grind
   . exact .inr (.inr (eT a.size c))
 . rcases d.iP b g with c|c
   . grind
   . exact .inr (eT a.size c)
def aC.aR {c:Nat->Prop} {ae a:aF} {w w':World} {v:aa} {x:Value} (b:aC ae v x) (f:Fr c ae a w w'):aC a v x:=
 bt.mono b f.jO f.kH f.uC
def aF.X9 (ae:aF) (b:Nat): ¬ae.bare.own b:=λ⟨_,_,_,_,a⟩=>by simp [aF.bare,eQ] at a
def EV {β:Type} (l:List β) (i:Nat) (x:β):(dM l i x).length=l.length:=by
 induction l generalizing i with
 |nil=>rfl
 |cons b l a=>cases i<;>simp [dM,a]
def EU {β:Type} (l:List β) (i j:Nat) (x:β) (a:i<l.length):(dM l i x)[j]? =if i=j then some x else l[j]? :=by
 induction l generalizing i j with
 |nil=>grind
 | cons c l b=>
   cases i with
   |zero=>cases j<;>simp [dM]
   | succ i=>
     cases j with
     |zero=>simp [dM]
     |succ j=>simp only [dM,tA];grind
def af.gW {H:af} {id:Nat} {o:Obj} (a:H.get id=some o):id<H.n:=by
 unfold af.get at a;grind
def af.k_ (H:af) (c:H.l.length=H.n) (id:Nat) (o:Obj) (a:id<H.n) (j:Nat):(H.set id o).get j=if j=id then some o else H.get j:=by
 unfold af.set af.get;simp only [a,if_true];by_cases b:j<H.n
 . simp only [b,if_true];rw [EU _ _ _ _ ab]
   grind
 grind
def af.m7 (H:af) (id:Nat) (o:Obj):(H.set id o).n=H.n:=by
 unfold af.set;grind
def af.r_ (H:af) (id:Nat) (o:Obj) (a:H.l.length=H.n):(H.set id o).l.length=(H.set id o).n:=by
 unfold af.set;split
 . simp [EV,a]
 omega
def af.Ia (H:af) (a:H.l.length=H.n) (o:Obj) (j:Nat):(H.push o).get j=if j=H.n then some o else H.get j:=by
 unfold af.push af.get
 grind
def af.KY (H:af) (o:Obj) (a:H.l.length=H.n):(H.push o).l.length=(H.push o).n:=by simp [af.push,a]
def Et (l:List UInt8):cV l<2^(8*l.length):=by
 induction l with
 |nil=>simp [cV]
 | cons a l c=>
   simp only [cV,cl];have b:a.toNat<256:=a.toNat_lt
   grind
def KN (l m:List UInt8):cV (l++m)=cV l+2^(8*l.length)*cV m:=by
 induction l with
 |nil=>simp [cV]
 | cons b l a=>
   simp only [cV,bl,cl,a]
   grind
def KO (l:List UInt8) (a:Nat):cV (l.drop a)=cV l/2^(8*a):=by
 induction a generalizing l with
 |zero=>simp
 | succ a c=>
   cases l with
   |nil=>simp [cV]
   | cons b l=>
     simp only [List.drop_succ_cons,cV];rw [c,show 8*(a+1)=8+8*a by omega,amy,<-aou];congr 1;have d:b.toNat<256:=b.toNat_lt;omega
def Yj (l:List UInt8) (n:Nat):cV (l.take n)=cV l%2^(8*n):=by
 by_cases c:n<=l.length
 . have b:=KN (l.take n) (l.drop n);rw [yT] at b;have a:=Et (l.take n);have d:(l.take n).length=n:=by simp [c]
   rw [d] at b a;rw [b,aot,tE a]
 . rw [fT ab];have a:=Et l;rw [tE];exact yX a (Nat.pow_le_pow_right ab ab)
def KP (l m:List UInt8) (c:l.length=m.length) (e:cV l=cV m):l=m:=by
 induction l generalizing m with
 |nil=>grind
 | cons a l g=>cases m with
   |nil=>grind
   | cons b m=>
     simp only [cV] at e;have h:a.toNat<256:=a.toNat_lt;have i:b.toNat<256:=b.toNat_lt;have d:a.toNat=b.toNat:=ab;have f:cV l=cV m:=ab;rw [g m (by simpa using c) f,UInt8.toNat_inj.1 d]
def Gp (l:List UInt8) (i:Nat) (a:i<l.length):en (cV l) i=(l[i]).toNat:=by
 unfold en;rw [yZ,<-KO,CQ a];simp only [cV];simp
def Ff (l:List UInt8):unpack l.length (cV l)=l.map (·.toNat):=by
 induction l with
 |nil=>rfl
 | cons a l c=>
   simp only [cl,unpack,cV,fS];have b:a.toNat<256:=a.toNat_lt
   grind
def size_data (s:ByteArray):s.data.toList.length=s.size:=by
 simp
def Yh (s:ByteArray) (l a:Nat):et (s.extract l a)=(et s>>>(8*l))%2^(8*(a-l)):=by
 unfold et;rw [show (s.extract l a).data.toList=(s.data.toList.drop l).take (a-l) by simp [ByteArray.data_extract]];rw [Yj,KO,yZ]
def Yg (s t:ByteArray):et (s++t)=et s+et t<<<(8*s.size):=by
 unfold et;rw [show (s++t).data.toList=s.data.toList++t.data.toList by simp [ByteArray.data_append],KN,size_data,yY,rK]
def KM (s t:ByteArray):(s.toList==t.toList)=(s.size==t.size&&et s==et t):=by
 rw [ByteArray.toList_eq,ByteArray.toList_eq,jU];simp only [br,beq_iff_eq];constructor
 . intro a;rw [<-size_data,<-size_data,et,et,a];omega
 . intro a;exact KP _ _ de a.2
open Go
def Yi (s:ByteArray):et s<256^s.size:=by
 have a:=Et s.data.toList;rw [show s.data.toList.length=s.size from vM ..] at a;rw [show (256:Nat)=2^8 from rfl,<-vW];exact a
def wT (P:Program):List Field->Nat->Option Nat
 | [],o=>some o
 |a::ee,o=>if a.offset=o then wT P ee (o+P.cellsOf a.type) else none
def sk (P:Program) (t:TypeId):Bool:=match P.underlying t with
 |some (.struct b)=>wT P b.toList 0==some (P.cellsOf t)
 |some (.array c a)=>c*P.cellsOf a==P.cellsOf t
 |_=>false
def lH (P:Program) (R:TypeId->List aa->Prop):List TypeId->List aa->Prop
 | [],b=>b= []
 |d::dT,b=> ∃a c,b=a++c/\a.length=P.cellsOf d/\R d a/\lH P R dT c
def ew (P:Program):Nat->TypeId->List aa->Prop
 |0,_,_=>True
 | n+1,f,b=>match P.underlying f with
   |some .bool=> ∃k,b= [.bool k]
   |some (.int h)=> ∃g,b= [.int h g]/\(Lit.int h g).wf=true
   |some .string=> ∃d c,b= [.str d c]/\d<=reachBytes/\c<256^d
   |some (.slice a)=>0<P.cellsOf a-> ∃j e,b= [j]/\F j e/\e.length*P.bytesOf a<=reachBytes/\ ∀i∈e,i.length=P.cellsOf a/\ew P n a i
   |some (.struct l)=>sk P f=true->lH P (ew P n) (l.toList.map (·.type)) b
   |some (.array c a)=>sk P f=true->lH P (ew P n) (List.replicate c a) b
   |_=>True
section
variable {H:Type} (enc:TypeId×Value->H) (P:Program) (w:World) (M:nj)
def ow (vs:List aa) (cs:List Value):Prop:=vs.length=cs.length/\ ∀(b:Nat) (c:aa) (a:Value),vs[b]? =some c->cs[b]? =some a->bt (cellAt w) M eQ c a
theorem Y0 (cs:List Value):ow w M (cs.map λ_=> .bad) cs:=by
 refine ⟨ai,λc e d a _=> ?_⟩;rw [hO] at a
 cases b:cs[c]? with
 |none=>rw [b] at a;cases a
 |some f=>rw [b] at a;cases a;exact .bad _
theorem Lg {v:aa} {c:Value} (d:bt (cellAt w) M eQ v c):ow w M [v] [c]:=by
 refine ⟨rfl,λb g f a e=> ?_⟩
 cases b with
 |zero=>cases a;cases e;exact d
 |succ b=>cases a
theorem Lf {a b:List aa} {c d:List Value} (g:ow w M a c) (i:ow w M b d):ow w M (a++b) (c++d):=by
 refine ⟨by simp [g.1,i.1],λl j k f e=> ?_⟩;rw [kC] at f e;rw [<-g.1] at e;split at f
 . next h=>rw [if_pos h] at e;exact g.2 l j k f e
 . next h=>rw [if_neg h] at e;exact i.2 _ j k f e
theorem mapM_cons {α β:Type} (f:α->Option β) (a:α) (l:List α) (e:List β) (b:(a::l).mapM f=some e): ∃y zs,f a=some y/\l.mapM f=some zs/\e=y::zs:=by
 rw [List.mapM_cons] at b
 cases c:f a with
 |none=>rw [c] at b;cases b
 | some y=>
   rw [c] at b
   cases d:l.mapM f with
   |none=>rw [d] at b;cases b
   |some zs=>rw [d] at b;cases b;exact ⟨y,zs,rfl,rfl,rfl⟩
theorem wh {α β:Type} (f:α->Option β): ∀(l:List α) (a:List β),l.mapM f=some a->a.length=l.length
 | [],a,b=>by rw [List.mapM_nil] at b;cases b;rfl
 |c::l,a,b=>by obtain ⟨g,e,-,d,rfl⟩:=mapM_cons f c l a b;simp [wh f l e d]
theorem tR {α β:Type} (f:α->Option β): ∀(l:List α) (b:List β) (j:Nat) (a:α),l.mapM f=some b->l[j]? =some a-> ∃y,f a=some y/\b[j]? =some y
 | [],_,_,_,_,c=>by cases c
 | a::l,b,j,e,c,d=>by
   obtain ⟨y,i,g,h,rfl⟩:=mapM_cons f a l b c
   cases j with
   |zero=>cases d;exact ⟨y,g,rfl⟩
   |succ j=>exact tR f l i j e h d
theorem Fl {P:Program} {e:TypeId} {R:Nat}: ∀(l:List (DataW H)),(DataW.weightsAll P e l).all (· <=R)=true-> ∀d∈l,(d.weights P e).all (· <=R)=true
 | [],_,_,a=>by cases a
 | c::l,a,d,b=>by
   rw [DataW.weightsAll,rE,br] at a;rcases b2.1 b with rfl|b
   . exact a.1
   . exact Fl l a.2 d b
theorem NB {P:Program} {R:Nat}: ∀(b:List TypeId) (l:List (DataW H)),(DataW.weightsEach P b l).all (· <=R)=true-> ∀(j:Nat) (t:TypeId) (d:DataW H),b[j]? =some t->l[j]? =some d->(d.weights P t).all (· <=R)=true
 | [],_,_,_,_,_,a,_=>by cases a
 |_::_,[],_,_,_,_,_,a=>by cases a
 | t::b,g::l,a,j,f,d,e,c=>by
   rw [DataW.weightsEach,rE,br] at a
   cases j with
   |zero=>cases e;cases c;exact a.1
   |succ j=>exact NB b l a.2 j f d e c
theorem Lw {Q:Nat->List aa->Prop}: ∀(n:Nat),(∀i,i<n-> ∃r,Q i r)-> ∃rows:Y,rows.length=n/\ ∀i r,rows[i]? =some r->Q i r
 |0,_=>⟨[],rfl,λi r b=>by cases b⟩
 | n +1,b=>by
   obtain ⟨rows,c,d⟩:=Lw n λi e=>b i ab;obtain ⟨r,g⟩:=b n ab;refine ⟨rows++ [r],by simp [c],λi h a=> ?_⟩;rw [kC] at a;split at a
   . exact d i h a
   . next e=>
     have:i-rows.length=0:=by
      cases f:i-rows.length with
      |zero=>rfl
      |succ j=>rw [f] at a;cases a
     rw [this] at a;cases a;have:i=n:=ab;subst this;exact g
theorem F2 (b o j:Nat):(⟨b,o,none⟩:Addr).add j=⟨b,o+j,none⟩:=by
 unfold Addr.add;split
 . next a=>subst a;rfl
 . rfl
theorem GH {w:World} {b o:Nat} {c:Option Nat} {k:Nat} {f:List Value} (d:w.cells? 0 ⟨b,o,c⟩ k=some f):f.length=k/\(0<k->c=none)/\ ∀j x,f[j]? =some x->j<k/\cellAt w b (o+j)=some x:=by
 unfold World.cells? at d;rw [if_pos (fV _)] at d;have h:=wh _ _ _ d;rw [nS] at h;have l: ∀j,j<k-> ∃g,w.cell? ((⟨b,o,c⟩:Addr).add j)=some g/\f[j]? =some g:=λj e=>tR _ _ _ j j d (by simp [e]);have m:0<k->c=none:=λq=>by
  obtain ⟨g,a,-⟩:=l 0 q;have p:(⟨b,o,c⟩:Addr).add 0=⟨b,o,c⟩:=by unfold Addr.add;rfl
  rw [p] at a
  cases c with
  |none=>rfl
  | some r=>
    unfold World.cell? at a;split at a
    . cases a
    . cases a
 refine ⟨h,m,λj x n=> ?_⟩;have e:j<k:=by rw [<-h];exact (e6.1 n).1
 refine ⟨e,?_⟩;have:=m ab;subst this;obtain ⟨g,a,i⟩:=l j e;rw [n] at i;cases i;rw [F2] at a;exact a
end
mutual
def iS:aa->Nat
 | .A a _=>1+hY a
 | .bad=>0
 |_=>1
def hY:Y->Nat
 | []=>0
 |a::rows=>E a+hY rows
def E:List aa->Nat
 | []=>0
 |a::l=>iS a+E l
end
def sj (a b:List aa):E (a++b)=E a+E b:=by
 induction a with
 |nil=>simp [E]
 |cons d a c=>simp only [bl,E,c];omega
def aaL {α:Type} (c:List α):E (c.map λ_=>aa.bad)=0:=by
 induction c with
 |nil=>rfl
 |cons b c a=>simp only [fS,E,a,iS]
structure FD (H:Type) (ax:DataW H->Nat):Prop where
  one: ∀d,1<=ax d
  A: ∀elems sp,(elems.map ax).sum+1<=ax (.slice elems sp)
  agg: ∀parts,(parts.map ax).sum+1<=ax (.agg parts)
section
variable {H:Type} (enc:TypeId×Value->H) (P:Program) (w:World) (M:nj)
def kd (t:TypeId) (c:List Value) (b:Nat):Prop:= ∃a,ow w M a c/\(∀d,ew P d t a)/\E a<=b
variable (ax:DataW H->Nat) (fP:FD H ax)
def uP (g:Nat->Bool) (e:Bool) (d:Nat) (t:TypeId) (c:List Value) (b:Nat):Prop:= ∃a f,DataW.trod enc P w 0 g e d t c=some (a,f)/\(a.weights P t).all (· <=reachBytes)=true/\ax a=b
include fP in
theorem wU (d:DataW H) (t:TypeId) (c:List Value) (h: ∀n vs,ew P (n+1) t vs):kd P w M t c (ax d):=
 ⟨_,Y0 w M c,λn=>(by cases n with
  |zero=>trivial
  |succ n=>grind),by rw [aaL];omega⟩
include fP in
theorem Aa (d:DataW H) {t:TypeId} {x:Value} (v:aa) (aP:bt (cellAt w) M eQ v x) (h: ∀n,ew P (n+1) t [v]) (bB:iS v<=1):kd P w M t [x] (ax d):=
 ⟨[v],Lg w M aP,λn=>(by cases n with
  |zero=>trivial
  |succ n=>grind),by simp only [E];have:=fP.one d;omega⟩
theorem HC (S:TypeId->List Value->Nat->Prop) (Q:TypeId->List aa->Prop) (m: ∀t c b,S t c b-> ∃a,ow w M a c/\Q t a/\E a<=b):
  ∀ (g:List Field) (h:List Nat) (o:Nat) (e:Nat) (cs:List Value),wT P g o=some e->e<=cs.length->h.length=g.length->(∀(j:Nat) (f:Field) (b:Nat),g[j]? =some f->h[j]? =some b->S f.type ((cs.drop f.offset).take (P.cellsOf f.type)) b)->
    ∃vs,ow w M vs ((cs.drop o).take (e-o))/\lH P Q (g.map (·.type)) vs/\o<=e/\E vs<=h.sum
 | [],h,o,e,cs,d,k,_,_=>by simp only [wT,N] at d;subst d;refine ⟨[],?_,rfl,ai,fV _⟩;simp only [Nat.sub_self,List.take_zero];exact ⟨rfl,λF G c A=>by cases A⟩
 |f::g,[],o,e,cs,d,k,n,l=>by cases n
 | f::g,b::h,o,e,cs,d,k,n,l=>by
   simp only [wT] at d;split at d
   case isFalse=>cases d
   next y=>
   obtain ⟨vs,r,s,B,C⟩:=HC S Q m g h _ e cs d k ah (λj q p x v=>l (j+1) q p x v);obtain ⟨a,i,u,D⟩:=m _ _ _ (l 0 f b rfl rfl);rw [y] at i;have z:(cs.drop o).take (e-o)=(cs.drop o).take (P.cellsOf f.type)++(cs.drop (o+P.cellsOf f.type)).take (e-(o+P.cellsOf f.type)):=by rw [show e-o=P.cellsOf f.type+(e-(o+P.cellsOf f.type)) by omega,List.take_add,qi]
   refine ⟨a++vs,by rw [z];exact Lf w M i r,⟨a,vs,rfl,?_,u,s⟩,ab,by rw [sj,kE];omega⟩;show a.length=P.cellsOf f.type;rw [i.1,h6,oW];omega
include fP in
theorem aaH {spare:Nat->Bool} {held:Bool} {fuel:Nat} {t:TypeId} {c:List Value} {ee:Array Field} (hu:P.underlying t=some (.struct ee)) (ot: ∀t c b,uP enc P w ax spare held fuel t c b->kd P w M t c b)
  (cQ:c.length=P.cellsOf t) (xs:List (DataW H×List MemPlace)) (hm:(ee.toList.mapM λf=>DataW.trod enc P w 0 spare held fuel f.type ((c.drop f.offset).take (P.cellsOf f.type)))=some xs)
  (hw:(DataW.weightsEach P (ee.toList.map (·.type)) (xs.map (·.1))).all (· <=reachBytes)=true):kd P w M t c (ax (.agg (xs.map (·.1)))):=by
 cases lg:sk P t with
 |false=>exact wU P w M ax fP _ t c λn vs=>by unfold ew;grind
 | true =>
   have p_:=lg;unfold sk at p_;rw [hu] at p_;simp only [beq_iff_eq] at p_;have hlen:=wh _ _ _ hm;obtain ⟨vs,aS,bG,-,fO⟩:=HC P w M (S:=uP enc P w ax spare held fuel) (Q:=λt a=> ∀n,ew P n t a) (λt c b h=>ot t c b h) ee.toList ((xs.map (·.1)).map ax) 0 (P.cellsOf t) c p_ ab ah (λj f b cy Io=>by obtain ⟨y,aS,bG⟩:=tR _ _ _ j _ hm cy;have dh:(xs.map (·.1))[j]? =some y.1:=ah;rw [hO,dh] at Io;cases Io;exact ⟨y.1,y.2,aS,NB _ _ hw j _ _ ah dh,rfl⟩);have bp:(c.drop 0).take (P.cellsOf t-0)=c:=ah;rw [bp] at aS;refine ⟨vs,aS,λn=> ?_,by have:=fP.agg (xs.map (·.1));omega⟩
   cases n with
   |zero=>trivial
   | succ n=>
     unfold ew;rw [hu];intro _;have: ∀(dT:List TypeId) (vs:List aa),lH P (λt a=> ∀n,ew P n t a) dT vs->lH P (ew P n) dT vs:=by
      intro dT
      induction dT with
      |nil=>intro vs h;exact h
      | cons t dT ff=>
        rintro vs ⟨a,b,e,l,r,s⟩;exact ⟨a,b,e,l,r n,ff b s⟩
     grind
theorem aaK {l:List Nat} {i:Nat} {x:Nat} (a:l[i]? =some x):(l.drop i).sum=x+(l.drop (i+1)).sum:=by
 have b:=(e6.1 a).1;rw [CQ b,kE]
 grind
include fP in
theorem Ov {spare:Nat->Bool} {held:Bool} {fuel:Nat} {t e:TypeId} {m:Nat} {c:List Value} (hu:P.underlying t=some (.array m e)) (ot: ∀t c b,uP enc P w ax spare held fuel t c b->kd P w M t c b)
  (cQ:c.length=P.cellsOf t) (xs:List (DataW H×List MemPlace)) (hm:((List.range m).mapM λi=>DataW.trod enc P w 0 spare held fuel e ((c.drop (i*P.cellsOf e)).take (P.cellsOf e)))=some xs)
  (hw:(DataW.weightsAll P e (xs.map (·.1))).all (· <=reachBytes)=true):kd P w M t c (ax (.agg (xs.map (·.1)))):=by
 cases lg:sk P t with
 |false=>exact wU P w M ax fP _ t c λn vs=>by unfold ew;grind
 | true =>
   have p_:=lg;unfold sk at p_;rw [hu] at p_;simp only [beq_iff_eq] at p_;have hlen:=wh _ _ _ hm;rw [nS] at hlen;have SC: ∀i,i<m-> ∃d,(xs.map (·.1))[i]? =some d/\kd P w M e ((c.drop (i*P.cellsOf e)).take (P.cellsOf e)) (ax d):=λi a8=>by obtain ⟨y,aS,bG⟩:=tR _ _ _ i i hm ah;exact ⟨y.1,ah,ot _ _ _ ⟨y.1,y.2,aS,Fl _ hw _ ah,rfl⟩⟩
   have key: ∀(k i:Nat),i+k=m-> ∃vs,ow w M vs (c.drop (i*P.cellsOf e))/\(∀n,lH P (ew P n) (List.replicate k e) vs)/\E vs<=(((xs.map (·.1)).map ax).drop i).sum:=by
    intro k
    induction k with
    | zero=>
      intro i a8;refine ⟨[],?_,λn=>rfl,fV _⟩;have:c.drop (i*P.cellsOf e)= []:=ah;rw [this];exact ⟨rfl,λi v c aP=>by cases aP⟩
    | succ k ff=>
      intro i a8;obtain ⟨vs,aS,bG,dS⟩:=ff (i+1) ab;obtain ⟨d,aH,a,Ij,SD,aeB⟩:=SC i ab;have Tb:c.drop (i*P.cellsOf e)=(c.drop (i*P.cellsOf e)).take (P.cellsOf e)++c.drop ((i+1)*P.cellsOf e):=by rw [ql,<-qi,yT]
      refine ⟨a++vs,by rw [Tb];exact Lf w M Ij aS,λn=>⟨a,vs,rfl,?_,SD n,bG n⟩,?_⟩
      . rw [Ij.1,h6,oW];have:(i+1)*P.cellsOf e<=m*P.cellsOf e:=fU _ ab
        grind
      . rw [sj,aaK (x:=ax d) ah];omega
   obtain ⟨vs,aS,bG,dS⟩:=key m 0 ab;rw [y0,rF] at aS;rw [rF] at dS;refine ⟨vs,aS,λn=> ?_,by have:=fP.agg (xs.map (·.1));omega⟩
   cases n with
   |zero=>trivial
   |succ n=>unfold ew;grind
theorem Ms: ∀(rows:Y) (a:List Nat),rows.length=a.length->(∀(i:Nat) (r:List aa) (b:Nat),rows[i]? =some r->a[i]? =some b->E r<=b)->hY rows<=a.sum
 | [],_,_,_=>fV _
 |r::rows,[],c,_=>by cases c
 |r::rows,b::a,c,d=>by have f:=d 0 r b rfl rfl;have g:=Ms rows a ah λi r b e fP=>d (i+1) r b e fP;simp only [hY,kE];omega
include fP in
theorem aaa {spare:Nat->Bool} {held:Bool} {fuel:Nat} {t e:TypeId} {a:Addr} {len cap:Nat} (hu:P.underlying t=some (.slice e)) (ot: ∀t c b,uP enc P w ax spare held fuel t c b->kd P w M t c b) (ym:len<=cap)
  (elems:List (DataW H×List MemPlace)) (sp:List (DataW H)) (hm:((List.range len).mapM λi=>(w.cells? 0 (a.add (i*P.cellsOf e)) (P.cellsOf e)).bind (DataW.trod enc P w 0 spare held fuel e))=some elems)
  (hw:((elems.length+sp.length)*P.bytesOf e::(DataW.weightsAll P e (elems.map (·.1))++DataW.weightsAll P e sp)).all (· <=reachBytes)=true):kd P w M t [.slice (some a) len cap] (ax (.slice (elems.map (·.1)) sp)):=by
 rcases Nat.eq_zero_or_pos (P.cellsOf e) with dp|dp
 . exact wU P w M ax fP _ t _ λn vs=>by unfold ew;grind
 obtain ⟨b,o,spot⟩:=a;rw [aO,rE,br,br] at hw;obtain ⟨Te,Cu,-⟩:=hw;have hlen:=wh _ _ _ hm;rw [nS] at hlen;have Te:(elems.length+sp.length)*P.bytesOf e<=reachBytes:=ah;have Sz: ∀i,i<len-> ∃r:List aa,r.length=P.cellsOf e/\spot=none/\(∀j v,r[j]? =some v->j<P.cellsOf e/\ ∃x,cellAt w b (o+(i*P.cellsOf e+j))=some x/\bt (cellAt w) M eQ v x)/\(∀j,j<P.cellsOf e-> ∃x,cellAt w b (o+(i*P.cellsOf e+j))=some x)/\(∀n,ew P n e r)/\ ∀A2,((elems.map (·.1)).map ax)[i]? =some A2->E r<=A2:=λi a8=>by
  obtain ⟨y,aS,bG⟩:=tR _ _ _ i i hm ah
  cases bp:w.cells? 0 ((⟨b,o,spot⟩:Addr).add (i*P.cellsOf e)) (P.cellsOf e) with
  |none=>grind
  | some row=>
    rw [bp] at aS;have aS:DataW.trod enc P w 0 spare held fuel e row=some y:=aS;have IE:spot=none:=by
     obtain ⟨acd,Ih,-⟩:=tR _ _ _ 0 0 hm ah;rw [y0] at Ih;have ra:(⟨b,o,spot⟩:Addr).add 0=⟨b,o,spot⟩:=by unfold Addr.add;rfl
     rw [ra] at Ih
     cases rq:w.cells? 0 ⟨b,o,spot⟩ (P.cellsOf e) with
     |none=>grind
     |some ag1=>exact (GH rq).2.1 dp
    subst IE;rw [F2] at bp;obtain ⟨nu,-,xy⟩:=GH bp;obtain ⟨r,n_,pc,zE⟩:=ot e row _ ⟨y.1,y.2,aS,Fl _ Cu _ ah,rfl⟩;have vy:r.length=P.cellsOf e:=by rw [n_.1,nu]
    refine ⟨r,vy,rfl,λj v aP=> ?_,λj gE=> ?_,pc,λA2 kx=> ?_⟩
    . have gE:j<P.cellsOf e:=ah;have bj:row[j]? =some (row[j]'ab):=ai;obtain ⟨-,kr⟩:=xy j _ bj;exact ⟨gE,_,ah,n_.2 j v _ aP bj⟩
    . have bj:row[j]? =some (row[j]'ab):=ai
      grind
    grind
 obtain ⟨rows,vy,IC⟩:=Lw len Sz;have IE:rows≠ []->spot=none:=λp3=>by obtain ⟨r,rs,rfl⟩:=List.exists_cons_of_ne_nil p3;exact (IC 0 r rfl).2.1
 refine ⟨[.A rows false],Lg w M ?_,λn=> ?_,?_⟩
 . rw [<-vy];refine .A rows false (some ⟨b,o,spot⟩) cap (P.cellsOf e) b o (λi j=>(cellAt w b (o+(i*P.cellsOf e+j))).getD default) ab ai ai ah
    ah ah ah
   all_goals grind
 . cases n with
   |zero=>trivial
   |succ n=>
   unfold ew;rw [hu];intro _;refine ⟨_,rows,rfl,.inr ⟨false,rfl⟩,?_,λr bh=> ?_⟩
   . grind
   . obtain ⟨i,a8,rfl⟩:=List.getElem_of_mem bh;have:=IC i _ (lj a8)
     grind
 . have aS:=Ms rows ((elems.map (·.1)).map ax) ah ah;have bG:=fP.A (elems.map (·.1)) sp;simp only [E,iS];omega
include fP in
theorem ED (spare:Nat->Bool) (held:Bool): ∀(fuel:Nat) (t:TypeId) (c:List Value) (b:Nat),uP enc P w ax spare held fuel t c b->kd P w M t c b
 |0,t,c,_,⟨d,p,h,_⟩=>by simp [DataW.trod] at h
 | fuel+1,t,c,jJ,⟨d,p,h,hw,SH⟩=>by
   subst SH;have ot:=ED spare held fuel;unfold DataW.trod at h;split at h
   case h_1 b hu=>exact Aa P w M ax fP _ (.bool b) (.bool b) (λn=>by unfold ew;grind) (aT 1)
   case h_2 k qf n hu=>
    split at h
    case isFalse=>cases h
    next bp=>
    obtain ⟨rfl,aeZ⟩:=bp;exact Aa P w M ax fP _ (.int qf n) (.int qf n) (λm=>by unfold ew;grind) (aT 1)
   case h_4 s hu=>
    split at h
    case isFalse=>cases h
    next bp=>
    cases h;refine Aa P w M ax fP _ (.str s.size (et s)) (.str s _ _ rfl rfl) (λm=> ?_) (aT 1);unfold ew;rw [hu];refine ⟨_,_,rfl,?_,Yi s⟩;rw [DataW.weights,aO,br] at hw
    simp_all
   case h_7 e hu=>exact Aa P w M ax fP _ .V .V (λn=>by unfold ew;rw [hu];exact λ_=>⟨_,[],rfl,.inl ⟨rfl,rfl⟩,ai,ai⟩) (aT 1)
   case h_8 _ e a len cap hu=>
    simp only [] at h;split at h
    case isFalse=>cases h
    next bp=>
    cases hm:((List.range len).mapM λi=>(w.cells? 0 (a.add (i*P.cellsOf e)) (P.cellsOf e)).bind (DataW.trod enc P w 0 spare held fuel e)) with
    |none=>grind
    | some elems=>
      rw [hm] at h;simp only [nT,tH] at h;obtain ⟨rest,-,h⟩:=h;cases h;rw [DataW.weights,hu] at hw;refine aaa enc P w M ax fP hu ot bp.2.1 elems (rest.map (·.1)) hm ?_
      grind
   case h_9 ee hu=>
    rename_i c _ _;split at h
    case isFalse=>cases h
    next bp=>
    cases hm:(ee.toList.mapM λf=>DataW.trod enc P w 0 spare held fuel f.type ((c.drop f.offset).take (P.cellsOf f.type))) with
    |none=>grind
    | some xs=>
      rw [hm] at h;simp only [jV] at h;cases h;rw [DataW.weights,hu] at hw;exact aaH enc P w M ax fP hu ot bp xs hm hw
   case h_10 m e hu=>
    rename_i c _ _;split at h
    case isFalse=>cases h
    next bp=>
    cases hm:((List.range m).mapM λi=>DataW.trod enc P w 0 spare held fuel e ((c.drop (i*P.cellsOf e)).take (P.cellsOf e))) with
    |none=>grind
    | some xs=>
      rw [hm] at h;simp only [jV] at h;cases h;rw [DataW.weights,hu] at hw;exact Ov enc P w M ax fP hu ot bp xs hm hw
   all_goals (
    first
    |(cases h;done)
    |(rename_i hu;exact wU P w M ax fP _ t _ λn vs=>by unfold ew;grind)
    |(rename_i hu _;exact wU P w M ax fP _ t _ λn vs=>by unfold ew;rw [hu];trivial))
end
end Go.aj
