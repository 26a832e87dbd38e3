/- A part of the proof. -/
import Derived.LoopN
import Derived.Test.YtiodgpibgiodcaaGreatDoorP00
import Derived.Test.YtiodgpibgiodcaaGreatDoorP01
import Derived.Test.YtiodgpibgiodcaaGreatDoorP03
import Derived.Test.YtiodgpibgiodcaaGreatDoorP05
set_option linter.all false
set_option maxHeartbeats 4000000
namespace Go.aj
def fY (H':af):bf->bf
 | .ok a b _=> .ok a b H'
 | .aK a _=> .aK a H'
 | .fail=> .fail
def vm {tm L:List aa} {s:Nat} (a:L[s]? =tm[s]?):M L s=M tm s:=by
 rw [k9,k9,a]
def gR (d:Nat) (v:aa):Prop:= ∃b:Option aa,∀a,aZ d v a=b.map λv=>(v,a)
def zh {f:aa->af->Option (aa×af)}: ∀ {vs:List aa},(∀v,v∈vs-> ∃r:Option aa,∀H,f v H=r.map λv=>(v,H))->
    ∃r:Option (List aa),∀H,cD f vs H=r.map λv=>(v,H)
 | [],_=>⟨some [],λ_=>rfl⟩
 | v ::vs,b=>by
   obtain ⟨r,a⟩:=b v ai;obtain ⟨e,c⟩:=zh (vs:=vs) λg d=>b g (by simp [d])
   cases r with
   |none=>exact ⟨none,λH=>by simp [cD,a]⟩
   | some h=>
     cases e with
     |none=>exact ⟨none,λH=>by simp [cD,a,c]⟩
     |some i=>exact ⟨some (h::i),λH=>by simp [cD,a,c]⟩
def qs {f:aa->af->Option (aa×af)}: ∀ {vs:List aa},(∀v,v∈vs-> ∀H,f v H=some (v,H))-> ∀H,cD f vs H=some (vs,H)
 | [],_,_=>rfl
 |v::vs,a,H=>by simp [cD,a v ai H,qs (vs:=vs) (λc b=>a c (by simp [b])) H]
def ya: ∀(d:Nat) (v:aa),D d v=true-> ∀H,aZ d v H=some (v,H):=by
 intro d
 induction d with
 |zero=>intro v a;simp [D] at a
 | succ d c=>
   intro v a H
   cases v with
   |agg e=>simp only [aZ,qs (λv b=>c v (ba.1 (by simpa [D] using a) v b)) H,bu]
   |av e=>simp only [aZ,qs (λv b=>c v (ba.1 (by simpa [D] using a) v b)) H,bu]
   |iface i v=>simp only [aZ,c v (by simpa [D] using a) H,dn]
   | fn h f g=>
     simp only [D,br] at a;simp only [aZ,qs (λv b=>c v (ba.1 a.1 v b)) H,qs (λv b=>c v (ba.1 a.2 v b)) H,bu]
   |_=>first|rfl|(simp [D] at a)
def R0: ∀(d:Nat) (v:aa),D d v=true->D (d+1) v=true:=by
 intro d
 induction d with
 |zero=>intro v a;simp [D] at a
 | succ d e=>
   intro v a;have b: ∀c:List aa,c.all (D d)=true->c.all (D (d+1))=true:=λc g=>ba.2 λv h=>e v (ba.1 g v h)
   cases v with
   |agg f=>exact b _ a
   |av f=>exact b _ a
   |iface l v=>exact e v a
   | fn k i j=>
     simp only [D,br] at a;rw [D,br];exact ⟨b _ a.1,b _ a.2⟩
   |_=>first|rfl|(simp [D] at a)
def gR.Ei {d:Nat} {v:aa} (b:D d v=true):gR d v:=⟨some v,λa=>ya d v b a⟩
def gR.agg {d:Nat} {cs:List aa} (c: ∀v,v∈cs->gR d v):gR (d+1) (.agg cs):=by
 obtain ⟨g,a⟩:=zh (f:=aZ d) c
 cases g with
 |none=>exact ⟨none,λb=>by simp [aZ,a]⟩
 |some e=>exact ⟨some (.agg e),λb=>by simp [aZ,a]⟩
def gR.av {d:Nat} {cs:List aa} (c: ∀v,v∈cs->gR d v):gR (d+1) (.av cs):=by
 obtain ⟨g,a⟩:=zh (f:=aZ d) c
 cases g with
 |none=>exact ⟨none,λb=>by simp [aZ,a]⟩
 |some e=>exact ⟨some (.av e),λb=>by simp [aZ,a]⟩
def gR.iface {d t:Nat} {v:aa} (c:gR d v):gR (d+1) (.iface t v):=by
 obtain ⟨f,a⟩:=c
 cases f with
 |none=>exact ⟨none,λb=>by simp [aZ,a]⟩
 |some e=>exact ⟨some (.iface t e),λb=>by simp [aZ,a]⟩
def gR.bad (d:Nat):gR d .bad:=by
 cases d<;>exact ⟨none,λa=>rfl⟩
def Eg : ∀(n:Nat) (x:Value) (d:Nat),gR d (s n x):=by
 intro n
 induction n with
 | zero=>
   intro x d
   cases d with
   |zero=>exact ⟨none,λb=>rfl⟩
   | succ d=>
     cases x<;>first
      |exact .bad _
      |exact ⟨some _,λb=>rfl⟩
      |(unfold s;split<;>first|exact .bad _|exact ⟨some _,λb=>rfl⟩|(rename_i e;cases e))
 | succ n f=>
   intro x d
   cases d with
   |zero=>exact ⟨none,λb=>rfl⟩
   | succ d=>
     have g: ∀a:Array Value,∀c,c∈a.toList.map (s n)->gR d c:=by intro a c h;obtain ⟨i,_,rfl⟩:=cd.1 h;exact f i d
     cases x with
     |agg a=>exact .agg (g a)
     |tuple a=>exact .av (g a)
     |iface j c=>exact .iface (f c d)
     | _=>first
       |exact .bad _
       |exact ⟨some _,λb=>rfl⟩
       |(unfold s;split<;>first|exact .bad _|exact ⟨some _,λb=>rfl⟩|(rename_i e;cases e))
def RG {Q:aa->Prop} {h:Nat->Option (Nat×Nat)}: ∀(parts:List (Nat×aa)) (d cs:List aa),(∀c,c∈d->Q c)->
    (∀p,p∈parts-> ∀c,c∈p.2.cells->Q c)->hn h d parts=some cs-> ∀c,c∈cs->Q c:=by
 intro parts
 induction parts with
 |nil=>intro d cs f _ a;simp only [hn,N] at a;grind
 | cons p parts g=>
   obtain ⟨k,l⟩:=p;intro d cs f j a;simp only [hn] at a;split at a
   . cases a
   . split at a
     . split at a
       . rename_i c e;simp only [bu] at a;refine g c cs ?_ (λp i=>ah) a;unfold cB at e;split at e
         . simp only [N] at e;subst e;intro m b;simp only [cr] at b;rcases b with b|b|b
           . grind
           . simp_all
           grind
         grind
       grind
     grind
def PU (n:Nat) (x:Value) (d:Nat): ∀c,c∈(s n x).cells->gR d c:=by
 intro c b;have h: ∀a:aa,gR d a->c∈a.cells->(∀f,a≠ .agg f)->gR d c:=by
  intro a l j k;have:a.cells= [a]:=by cases a<;>first|rfl|grind
  grind
 cases n with
 | zero=>
   refine h _ (Eg 0 x d) b ?_;intro f;cases x<;>first
    |(intro e;cases e;done)
    |(unfold s;grind)
 | succ n=>
   cases x with
   | agg g=>
     have:(s (n+1) (.agg g)).cells=g.toList.map (s n):=rfl;rw [this] at b;obtain ⟨i,_,rfl⟩:=cd.1 b;exact Eg n i d
   | _=>
     refine h _ (Eg (n+1) _ d) b ?_;intro f
     first
     |(intro e;cases e;done)
     |(unfold s;grind)
def PQ {d:Nat} {v:aa} (a:D d v=true): ∀c,c∈v.cells->gR d c:=by
 intro c b
 cases v with
 | agg e=>
   cases d with
   |zero=>simp [D] at a
   |succ d=>exact .Ei (R0 _ _ (ba.1 (show e.all (D d)=true from a) c b))
 |_=>(simp only [aa.cells,bs] at b;subst b;exact .Ei a)
section
variable {E:Env} {cf:cb} {fid:Nat} {tm:List aa} {H H':af}
theorem hc (r:Option aa):bb r tm H'=fY H' (bb r tm H):=by cases r<;>simp [bb,fY]
theorem Ek {r a:Option aa} (b:a=r):bb a tm H'=fY H' (bb r tm H):=by subst b;exact hc _
theorem Pb {t len:Nat} {parts:List (Nat×aa)} (g: ∀p,p∈parts->D bR p.2=true):
  ∃r:Option aa,∀H,cT E t len parts H=r.map λv=>(v,H):=by
 unfold cT;split
 . split
   . rename_i l _ k o m c;split
     . split
       . rename_i d i;have h: ∀a,a∈d->gR bR a:=by
          refine RG parts _ d ?_ (λp j a b=>PQ (g p j) a b) i;intro a b;simp only [kD,List.mem_replicate] at b;obtain ⟨e,⟨_,rfl⟩,b⟩:=b;unfold bN at c;split at c
          . split at c
            . simp only [N] at c;subst c;exact PU _ _ _ a b
            grind
          grind
         obtain ⟨r,n⟩:=zh (f:=aZ bR) h
         cases r with
         |none=>exact ⟨none,ah⟩
         |some e=>exact ⟨some (.A (chunk k len e) true),de⟩
       . exact ⟨none,λ_=>rfl⟩
     . exact ⟨none,λ_=>rfl⟩
   . exact ⟨none,λ_=>rfl⟩
 . exact ⟨none,λ_=>rfl⟩
theorem Kt {r:Option aa} {q q':Option (aa×af)} (a:q=r.map λv=>(v,H)) (b:q'=r.map λv=>(v,H')):ha q' tm=fY H' (ha q tm):=by subst a;subst b;cases r<;>rfl
theorem QC {f:Nat} {args:List aa} (c:args.all (D bR)=true):nB cf f args H' tm=fY H' (nB cf f args H tm):=by
 have a:=qs (f:=aZ bR) (vs:=args) λb d=>ya _ b ah;unfold nB;simp only [a,bu];split
 . split<;>simp [fY]
 . split<;>simp [fY]
 . rfl
theorem We {t s st off:Nat}:dW E t (.cR s st off) tm H'=dW E t (.cR s st off) tm H:=rfl
theorem aaw {t s st off:Nat} {v:aa}:hd E t (.cR s st off) v tm H'=fY H' (hd E t (.cR s st off) v tm H):=by
 unfold hd;split
 . unfold hf;split
   . simp only;unfold m9;split
     . split
       . split<;>simp [fY]
       . rfl
     . rfl
   . rfl
 . rfl
def kf (E:Env) (fid:Nat) (o:Oper) (a:bV):Bool:=match a with
 | .plain=>match o.op with
   | .move _=>true
   | .assign _=>true
   | .pick _ _ _=>true
   | .build _ _=>true
   | .nilCheck _=>true
   | .binOp _ _ _ _ _=>true
   | .unOp _ _ _=>true
   | .makeInterface _ _=>true
   | .slice _ _ _ _ _=>true
   | .fieldAddr _ _ _=>true
   | .field _ _ _=>true
   | .indexAddr _ _ _=>true
   | .index _ _ _=>true
   | .typeAssert _ _ _ _=>true
   | .extract _ _=>true
   | .convert e _ _=>match aW E e with
     |some (.slice _)=>false
     |some (.pointer _)=>false
     |some .unsafePointer=>false
     |_=>true
   | .makeFunc b _ _=>match b with
     | .func b=> !E.aI b
     |_=>true
   | .call c=>match c.callee with
     | .builtin d=>match d,c.argTypes.toList with
       | .len,[f]=>match aW E f with
         |some (.map _ _)=>false
         |_=>true
       | .cap,_=>true
       | .min,_=>true
       | .max,_=>true
       |_,_=>false
     |_=>false
   | .alloc _=>nW E fid o.dst
   | .box _ _=>nW E fid o.dst
   |_=>false
 | .aI=>match o.op with
   | .call _=>true
   | .buildSlice _ _ _=>true
   | .makeFunc _ _ _=>true
   |_=>false
 | .loc _=>match o.op with
   | .load _ _=>true
   | .store _ _ _=>true
   |_=>false
 | .read _=>match o.op with
   | .load _ _=>true
   | .lookup _ _ _ _=>true
   |_=>false
 | .m _=>match o.op with
   | .load _ _=>true
   | .lookup _ _ _ _=>true
   |_=>false
 | .heap=>match o.op with
   | .defer _=>false
   |_=>true
def bV.TK:bV->Bool
 | .plain=>true
 | .aI=>true
 | .loc _=>true
 |_=>false
theorem XI {f:Fn} {a c:List aa} (d:D bR (.fn f a c)=true):lu E f a c tm H'=fY H' (lu E f a c tm H):=by
 unfold lu;split
 . unfold t_;split
   . split
     . obtain ⟨e,b⟩:=gR.Ei d;exact Kt (b H) (b H')
     . exact hc _
   . rfl
 . rfl
theorem XT (c a b:aa):lY c a b tm H'=fY H' (lY c a b tm H):=by unfold lY;split<;>first|exact hc _|rfl
theorem XR (x:aa):j1 x tm H'=fY H' (j1 x tm H):=by unfold j1;split<;>first|exact hc _|rfl
theorem XJ (t:Nat) (d:Option TypeDesc) (x:aa):n5 t d x tm H'=fY H' (n5 t d x tm H):=by unfold n5;split<;>(try split)<;>simp [fY]
theorem X0 (t:Nat) (d:Option TypeDesc) (x:aa) (lo a mx:Option aa) (e:(gO E t x lo a mx).isSome=true):ij E t d x lo a mx tm H'=fY H' (ij E t d x lo a mx tm H):=by
 unfold ij
 cases c:gO E t x lo a mx with
 |none=>grind
 |some b=>split<;>first|exact hc (some b)|rfl
theorem XH (x:aa) (i:Nat):lX x i tm H'=fY H' (lX x i tm H):=by unfold lX;split<;>first|exact hc _|rfl
theorem Kv {d:Option Nat} {el:Nat} {z:Option aa}:fF true d el z tm H'=fY H' (fF true d el z tm H):=by
 unfold fF;split
 . split
   . simp only;unfold newLocal;split<;>exact hc _
   . rfl
 . rfl
theorem V4 {t:Nat} {x:aa} (a: ∀k v,aW E t≠some (.map k v)):fE E t x H'=fE E t x H:=by
 unfold fE
 grind
theorem Pe {t:Nat} {args:List aa} (b: ∀k v,aW E t≠some (.map k v)):kj E .len [t] args tm H'=fY H' (kj E .len [t] args tm H):=by
 cases args with
 |nil=>rfl
 | cons c a=>
   cases a with
   |nil=>exact Ek (V4 b)
   |cons d a=>rfl
theorem Pd {a:List Nat} {args:List aa}:kj E .cap a args tm H'=fY H' (kj E .cap a args tm H):=by
 rcases a with _|⟨c,_|⟨d,a⟩⟩
 . rfl
 . rcases args with _|⟨e,_|⟨f,b⟩⟩
   . rfl
   . exact hc _
   . rfl
 . rfl
theorem Pg {a:List Nat} {args:List aa}:kj E .min a args tm H'=fY H' (kj E .min a args tm H):=by
 rcases args with _|⟨b,c⟩
 . rfl
 . cases b<;>first|exact hc _|rfl
theorem Pf {a:List Nat} {args:List aa}:kj E .max a args tm H'=fY H' (kj E .max a args tm H):=by
 rcases args with _|⟨b,c⟩
 . rfl
 . cases b<;>first|exact hc _|rfl
theorem XE {f:aa} {args:List aa} (a:s8 E f args=true):cx E cf f args H' tm=fY H' (cx E cf f args H tm):=by
 unfold s8 at a;split at a
 . rename_i d first c b
   simp only [br] at a;unfold cx;simp only [bu];unfold az;split
   . rw [a.1];exact QC a.2
   . rfl
 grind
theorem Hs {o:Oper} {a:bV} (b:kf E fid o a=true) (i:a.TK=true) (c:cZ E o a tm=true):evalOp E cf fid o tm H'=fY H' (evalOp E cf fid o tm H):=by
 cases a with
 |heap=>cases i
 |read x=>cases i
 |m w=>cases i
 | loc r=>
   unfold kf at b;unfold cZ at c;unfold evalOp;cases d:o.op<;>simp only [d] at b c|- <;>try (cases b;done)
   . rename_i f g;cases j:B E tm g<;>rw [j] at c<;>try (cases c;done)
     exact Ek We
   . rename_i f g z;cases j:B E tm g<;>rw [j] at c<;>try (cases c;done)
     exact aaw
 | aI=>
   unfold kf at b;unfold cZ at c;unfold evalOp;cases d:o.op<;>simp only [d] at b c|- <;>try (cases b;done)
   . rename_i f p q;obtain ⟨y,k⟩:=Pb (E:=E) (t:=f) (len:=p) (parts:=q.toList.map λl=>(l.1,B E tm l.2)) ah;exact Kt (k H) (k H')
   . exact XI c
   . rename_i e;unfold o7;cases h:e.callee<;>simp only [h] at c|- <;>try (cases c;done)
     exact XE c
 | plain=>
   unfold kf at b;unfold evalOp;cases d:o.op<;>simp only [d] at b|- <;>try (cases b;done)
   case move=>exact hc _
   case assign=>exact hc _
   case pick=>exact XT _ _ _
   case alloc=>rw [b];exact Kv
   case box=>rw [b];exact Kv
   case build=>exact hc _
   case nilCheck=>exact XR _
   case binOp=>exact hc _
   case unOp=>exact hc _
   case makeInterface=>exact XJ _ _ _
   case slice=>unfold cZ at c;simp only [d] at c;exact X0 _ _ _ _ _ _ c
   case fieldAddr=>exact hc _
   case field=>exact hc _
   case indexAddr=>exact hc _
   case index=>exact hc _
   case typeAssert=>exact hc _
   case extract=>exact XH _ _
   case convert r u g=>
    refine Ek ?_;unfold jg
    grind
   case makeFunc v a e=>
    unfold lu;split
    . simp only at b;unfold t_;split
      . split
        . grind
        . exact hc _
      . rfl
    . rfl
   case call e=>
    unfold o7;cases h:e.callee<;>simp only [h] at b|- <;>try (cases b;done)
    rename_i s;unfold hy;split at b
    . rename_i f n;rw [n];refine Pe ?_
      grind
    . exact Pd
    . exact Pg
    . exact Pf
    grind
end
def zt (o:Oper):List Nat:=o.op.operands.toList.filterMap fun
 | .tmp b=>some b
 |_=>none
def yi (ops:Array Oper) (o:Oper):List Nat:=match o.guard with
 |none=> []
 | some (c,_)=>match ops[c]? with
   | some d=>match d.dst with
     |some b=> [b]
     |none=> []
   |none=> []
def kb (ops:Array Oper) (o:Oper) (a:bV):List Nat:=zt o++(yi ops o++(o.dst.toList++(match a with| .loc b=> [b]|_=> [])))
def iZ (o:Oper) (a:bV):List Nat:=o.dst.toList++(match a with
 | .loc b=>match o.op with
   | .store _ _ _=> [b]
   |_=> []
 |_=> [])
def bV.fD:bV->ou
 | .heap=> .heap
 | .read c=> .read c
 | .m b=> .read [b]
 |_=> .free
def lZ (d:Option Nat) (v:aa) (tm:List aa):List aa:=match d with
 |some d=>r tm d v
 |none=>tm
section
variable {E:Env} {cf:cb} {fid:Nat} {ops:Array Oper} {tm L:List aa} {H H':af} {o:Oper} {a:bV}
theorem ud (d:Option Nat) (v:aa) (tm:List aa):(lZ d v tm).length=tm.length:=by
 cases d with
 |none=>rfl
 |some d=>exact m6 _ _ _
theorem KZ {d:Option Nat} {v:aa} {s:bK} (b:fj E fid d v tm H=some s):s=(lZ d v tm,H)/\ ∀L H',fj E fid d v L H'=some (lZ d v L,H'):=by
 unfold fj cH at b
 cases d with
 | none=>
   simp only [N] at b;subst b;exact ⟨rfl,λ_ _=>rfl⟩
 | some d=>
   simp only [bu] at b;split at b
   . rename_i c;split at c
     . rename_i e;simp only [N] at c b;subst c;subst b;exact ⟨rfl,λL H'=>by simp [fj,cH,e,lZ]⟩
     grind
   grind
theorem lv {d:Option Nat} {v:aa} {tm L:List aa} (c:L.length=tm.length) (s:Nat):
  (s∈d.toList->(lZ d v L)[s]? =(lZ d v tm)[s]?)/\(s∉d.toList->(lZ d v L)[s]? =L[s]?):=by
 cases d with
 |none=>exact ⟨ai,λ_=>rfl⟩
 | some d=>
   refine ⟨λb=> ?_,λb=> ?_⟩
   . simp only [Option.toList_some,bs] at b;subst b;simp only [lZ,hW,c]
     grind
   . simp only [Option.toList_some,bs] at b;simp only [lZ,hW]
     grind
theorem Wx {t:Nat} (b:Operand.tmp t∈o.op.operands):t∈zt o:=
 List.mem_filterMap.2 ⟨.tmp t,ah,rfl⟩
theorem KI (b: ∀s,s∈zt o->L[s]? =tm[s]?): ∀x,x∈o.op.operands->B E L x=B E tm x:=by
 intro x c
 cases x with
 |tmp d=>simp only [B,vm (b d (Wx c))]
 |_=>rfl
theorem Fo (b: ∀s,s∈yi ops o->L[s]? =tm[s]?):cJ ops L o=cJ ops tm o:=by
 unfold cJ;unfold yi at b;split
 . rfl
 . rename_i g i e;rw [e] at b;simp only at b;split
   . rename_i h f;rw [f] at b;simp only at b;split
     . rename_i c d;rw [d] at b;rw [vm (b c ai)]
     . rfl
   . rfl
def zG (o:Oper):Bool:=match o.op with
 | .load _ _=>true
 | .lookup _ _ _ _=>true
 |_=>false
theorem Lc {ks:List Nat} (b:kf E fid o (.read ks)=true):zG o=true:=b
theorem Ld {k:Nat} (b:kf E fid o (.m k)=true):zG o=true:=b
theorem xQ (b:zG o=true) (tm:List aa) (H:af):evalOp E cf fid o tm H=bb (gn E o tm H) tm H:=by
 unfold zG at b;unfold evalOp gn
 grind
theorem zZ {G:bK} {dx:List aa} {gx:af} (l:fy E cf fid ops o a (dx,gx)=some G) (n:kf E fid o a=true):
  (∀s,s∉iZ o a->G.1[s]? =dx[s]?)/\(a.fD.hM=false->G.2=gx)/\G.1.length=dx.length/\
  ∀ tm H,tm.length=dx.length->(∀s,s∈kb ops o a->tm[s]? =dx[s]?)->
    (match a.fD with| .free=>True| .heap=>H=gx| .read _=>cJ ops dx o=some true->gn E o dx H=gn E o dx gx)->
    ∃L,jz E cf fid ops o (tm,H)=some (L,if a.fD.hM then G.2 else H)/\L.length=dx.length/\(∀s,s∈iZ o a->L[s]? =G.1[s]?)/\ ∀s,s∉iZ o a->L[s]? =tm[s]? :=by
 have X: ∀tm:List aa,(∀s,s∈kb ops o a->tm[s]? =dx[s]?)->(∀s,s∈zt o->tm[s]? =dx[s]?):=λtm y s R=>y s (by simp [kb,R]);have T: ∀tm:List aa,(∀s,s∈kb ops o a->tm[s]? =dx[s]?)->(∀s,s∈yi ops o->tm[s]? =dx[s]?):=λtm y s R=>y s (by simp [kb,R]);have aj: ∀tm:List aa,(∀s,s∈kb ops o a->tm[s]? =dx[s]?)-> ∀K,o.dst=some K->M tm K=M dx K:=λtm y K p=>vm (y K (by simp [kb,p]));have O: ∀s,s∉iZ o a->s∉o.dst.toList:=λs y R=>y (by simp only [iZ,cr];grind);unfold fy at l;simp only at l;split at l
 . rename_i D;split at l
   case h_2=>cases l
   rename_i f;unfold fm at l;split at l
   case h_2=>cases l
   rename_i U g V c;obtain ⟨x,P⟩:=KZ l;subst x;by_cases ao: ∃s I k t,a= .loc s/\o.op= .store I k t
   . obtain ⟨s,I,k,t,rfl,i⟩:=ao;have q: ∃A F,B E dx k= .cR s A F:=by
      unfold cZ at f;simp only [i] at f;unfold lS at f;split at f
      . rename_i b A F ax;have:=gk f;grind
      grind
     obtain ⟨A,F,q⟩:=q;have ay:s∈iZ o (.loc s):=by simp [iZ,i]
     have ae: ∀(tm:List aa) (H:af),B E tm k= .cR s A F->B E tm t=B E dx t->M tm s=M dx s->
       ∃J,evalOp E cf fid o tm H= .ok (.av []) (r tm s J) H/\evalOp E cf fid o dx gx= .ok (.av []) (r dx s J) gx:=by
      intro tm H v C u;unfold evalOp at c|-;simp only [i] at c|-;rw [v,C];rw [q] at c|-;unfold hd at c|-;split at c
      case h_2=>grind
      unfold hf at c|-;split at c
      case isFalse=>grind
      rename_i Z;rw [if_pos Z,if_pos Z];simp only at c|-;unfold m9 at c|-;rw [u];split at c
      case h_2=>grind
      split at c
      case isFalse=>grind
      rename_i ab;rw [if_pos ab,if_pos ab];split at c
      . rename_i ak _;exact ⟨.W A ak,ai,ai⟩
      grind
     obtain ⟨J,_,z⟩:=ae dx gx q rfl rfl;rw [c] at z;simp only [bf.ok.injEq] at z;obtain ⟨rfl,rfl,rfl⟩:=z;refine ⟨λb e=> ?_,λ_=>rfl,by simp [ud,m6],λtm H d h _=> ?_⟩
     . simp only;rw [(lv (tm:=r dx s J) rfl b).2 (O b e),hW]
       grind
     . have ad:=KI (E:=E) (X tm h);have v:B E tm k= .cR s A F:=by rw [ad k (by simp [i,Op.operands])];exact q
       have C:B E tm t=B E dx t:=ad t (by simp [i,Op.operands]);have u:M tm s=M dx s:=vm (h s (by simp [kb]));obtain ⟨S,au,z⟩:=ae tm H v C u;rw [c] at z;simp only [bf.ok.injEq,true_and,and_true] at z;refine ⟨lZ o.dst (.av []) (r tm s S),?_,by simp [ud,m6,d],λb e=> ?_,λb e=> ?_⟩
       . unfold jz;simp only [Fo (T tm h),D,au,fm,P];rfl
       . simp only;rw [z];by_cases p:b∈o.dst.toList
         . exact (lv (by simp [m6,d]) b).1 p
         . rw [(lv (tm:=r dx s S) (by simp [m6,d]) b).2 p,(lv (tm:=r dx s S) rfl b).2 p];have:b=s:=by
            simp only [iZ,i,cr,bs] at e
            grind
           subst this;simp only [hW,d]
           grind
       . rw [(lv (tm:=r dx s S) (by simp [m6,d]) b).2 (O b e),hW]
         grind
   ·
    have Y:iZ o a=o.dst.toList:=by
     unfold iZ
     grind
    have an: ∀I k t,o.op= .store I k t->fh (B E dx k)=true:=by
     intro I k t i
     cases a with
     |loc s=>grind
     |plain=>unfold kf at n;grind
     |aI=>unfold kf at n;grind
     |heap=>unfold cZ at f;grind
     |read ag=>unfold cZ at f;grind
     |m ar=>unfold cZ at f;grind
    have ah: ∀(tm:List aa) (H:af),(∀s,s∈kb ops o a->tm[s]? =dx[s]?)->evalOp E cf fid o tm H=cE tm (evalOp E cf fid o dx H):=by
     intro tm H h;refine Hr (KI (X tm h)) (aj tm h) ?_ an;intro I k s A F i q
     cases a with
     | loc b=>
       unfold cZ at f;simp only [i,q,lS] at f;have:=gk f;subst this;exact vm (h s (by simp [kb]))
     |plain=>unfold kf at n;grind
     |aI=>unfold kf at n;grind
     |heap=>unfold cZ at f;simp [i,q,fh] at f
     |read ag=>unfold cZ at f;simp [i,q,fh] at f
     |m ar=>unfold cZ at f;simp [i,q,fh] at f
    have al:g=dx:=by
     have:=ah dx gx (λ_ _=>rfl);rw [c] at this;simp only [cE,bf.ok.injEq] at this
     grind
    subst al;have aw:a.fD.hM=false-> ∀H,(match a.fD with| .read _=>cJ ops g o=some true->gn E o g H=gn E o g gx|_=>True)->
      evalOp E cf fid o g H= .ok U g H/\V=gx:=by
     intro j H Q
     cases a with
     |heap=>cases j
     | read ag=>
       simp only [bV.fD] at Q;have:=Q D;have x:=xQ (E:=E) (cf:=cf) (fid:=fid) (Lc n) g H;rw [xQ (Lc n) g gx] at c;rw [x,this]
       cases d:gn E o g gx with
       |none=>rw [d] at c;cases c
       | some J=>
         rw [d] at c;simp only [bb,dn,bf.ok.injEq,true_and] at c|-
         grind
     | m az=>
       simp only [bV.fD] at Q;have:=Q D;have x:=xQ (E:=E) (cf:=cf) (fid:=fid) (Ld n) g H;rw [xQ (Ld n) g gx] at c;rw [x,this]
       cases d:gn E o g gx with
       |none=>rw [d] at c;cases c
       | some J=>
         rw [d] at c;simp only [bb,dn,bf.ok.injEq,true_and] at c|-
         grind
     | _=>
       have v:=Hs (cf:=cf) (H:=gx) (H':=H) n rfl f;have C:=Hs (cf:=cf) (H:=gx) (H':=gx) n rfl f;rw [c] at v C;simp only [fY,bf.ok.injEq,true_and] at v C
       grind
    refine ⟨λb e=> ?_,λj=> ?_,by simp [ud],λtm H d h w=> ?_⟩
    . simp only;exact (lv (tm:=g) rfl b).2 (O b e)
    . grind
    . have aq:evalOp E cf fid o tm H= .ok U tm (if a.fD.hM then V else H):=by
       rw [ah tm H h]
       cases j:a.fD.hM with
       | true=>
         have:H=gx:=by
          cases N:a.fD<;>rw [N] at w j
          . cases j
          . exact w
          . cases j
         subst this;rw [c];rfl
       | false=>
         have v:=(aw j H (by cases N:a.fD<;>rw [N] at w<;>first|trivial|exact w)).1;rw [v];rfl
      refine ⟨lZ o.dst U tm,?_,by simp [ud,d],λb e=> ?_,λb e=> ?_⟩
      . unfold jz;simp only [Fo (T tm h),D,aq,fm,P]
      . rw [Y] at e;exact (lv d b).1 e
      . rw [Y] at e;exact (lv (tm:=g) d b).2 e
 . rename_i D;obtain ⟨x,P⟩:=KZ l;subst x;refine ⟨λb e=>(lv (tm:=dx) rfl b).2 (O b e),λ_=>rfl,by simp [ud],λtm H d h w=> ?_⟩;refine ⟨lZ o.dst (.av []) tm,?_,by simp [ud,d],λb e=> ?_,λb e=>(lv (tm:=dx) d b).2 (O b e)⟩
   . unfold jz;simp only [Fo (T tm h),D,P]
     cases j:a.fD.hM with
     |false=>rfl
     | true=>
       cases N:a.fD<;>rw [N] at w j
       . cases j
       . simp only at w;subst w;rfl
       . cases j
   . by_cases p:b∈o.dst.toList
     . exact (lv d b).1 p
     ·
      rw [(lv (tm:=dx) d b).2 p];simp only;rw [(lv (tm:=dx) rfl b).2 p];refine h b ?_;simp only [iZ,cr] at e;have u:=e.resolve_left p
      cases a with
      | loc s=>
        simp only at u;split at u
        . simp [kb,u]
        . simp at u
      |_=>simp at u
 grind
end
def at_ (l:List (List Nat)) (i:Nat):List Nat:=match l[i]? with
 |some a=>a
 |none=> []
def kg (d:e0) (i j:Nat):Bool:=(at_ d.M j).contains i
def o0 (d:e0) (i:Nat):ou:=match d.dV[i]? with
 |some a=>a.fD
 |none=> .free
def nM (d:e0) (i:Nat):Bool:=(o0 d i).hM
def pM (l m:List Nat):Bool:=l.all λa=> !m.contains a
def Em (E:Env) (fid:Nat) (ops:Array Oper) (d:e0) (i:Nat):Bool:=match ops[i]?,d.dV[i]? with
 |some o,some b=>kf E fid o b&&((kb ops o b).all λa=>(at_ d.R i).contains a)&&((iZ o b).all λa=>(at_ d.W i).contains a)&&((at_ d.W i).all λa=>(iZ o b).contains a)&&
  (o.after.toList.all λc=> !Region.binds .any c||Nat.blt c.on i)
 |_,_=>false
def H_ (ops:Array Oper) (d:e0) (i:Nat):Bool:=(at_ d.M i).all λb=>Nat.blt b i&&match ops[i]? with
 |some o=>o.after.toList.any λa=>Region.binds .any a&&(Nat.beq a.on b||kg d b a.on)
 |none=>false
def KQ (d:e0) (i j:Nat):Bool:=kg d i j||(pM (at_ d.W i) (at_ d.W j)&&(pM (at_ d.W i) (at_ d.R j)&&(pM (at_ d.R i) (at_ d.W j)&& !(nM d i&&nM d j))))
def La (n:Nat) (d:e0) (i:Nat):Bool:=match o0 d i with
 | .read c=>(c.contains 0||(List.range n).any λa=>nM d a&&kg d a i)&&
  (List.range n).all λa=> !nM d a||(c.contains (a+1)||(kg d i a||(List.range n).any λb=>Nat.blt a b&&(nM d b&&kg d b i)))
 |_=>true
def K_ (d:e0) (i:Nat):Bool:=match d.dV[i]? with
 |some (.m b)=>Nat.ble b i&&(List.range i).all λa=>Nat.blt a b|| !nM d a
 |_=>true
def sY (E:Env) (fid:Nat) (ops:Array Oper) (d:e0):Bool:=
 Nat.ble d.M.length ops.size&&((List.range ops.size).all λa=>Em E fid ops d a&&(H_ ops d a&&(La ops.size d a&&(K_ d a&&(List.range a).all λb=>KQ d b a))))
def BA {l m:List Nat} (a:pM l m=true) {x:Nat} (b:x∈l) (c:x∈m):False:=by
 have:=ba.1 a x b
 grind
mutual
def zN: ∀(a b:aa),cN a b=true->a=b
 | .bool _,b,c=>by cases b<;>simp_all [cN]
 | .int _ _,b,c=>by cases b<;>simp_all [cN]
 | .str _ _,b,c=>by cases b<;>simp_all [cN,lU]
 | .agg d,b,c=>by cases b<;>simp only [cN,eJ] at c;rw [ob _ _ c]
 | .av d,b,c=>by cases b<;>simp only [cN,eJ] at c;rw [ob _ _ c]
 | .dz,b,c=>by cases b<;>simp_all [cN]
 | .ptr _ _ _ _,b,c=>by cases b<;>simp_all [cN,lU]
 | .b5 d o,b,c=>by cases b<;>simp only [cN,eJ,br,lU] at c;rw [ob _ _ c.2,c.1]
 | .V,b,c=>by cases b<;>simp_all [cN]
 | .A d f,b,c=>by cases b<;>simp only [cN,eJ,br,beq_iff_eq] at c;rw [LR _ _ c.2,c.1]
 | .ref _ _ _ _ _ _,b,c=>by cases b<;>simp_all [cN,lU]
 | .ef,b,c=>by cases b<;>simp_all [cN]
 | .map _,b,c=>by cases b<;>simp_all [cN,lU]
 | .ck d e,b,c=>by cases b<;>simp only [cN,eJ,br] at c;rw [ob _ _ c.1,ob _ _ c.2]
 | .eA,b,c=>by cases b<;>simp_all [cN]
 | .fn g d e,b,c=>by cases b<;>simp only [cN,eJ,br,decide_eq_true_eq] at c;rw [c.1,ob _ _ c.2.1,ob _ _ c.2.2]
 | .dj,b,c=>by cases b<;>simp_all [cN]
 | .iface h i,b,c=>by cases b<;>simp only [cN,eJ,br] at c;rw [gk c.1,zN _ _ c.2]
 | .it _,b,c=>by cases b<;>simp_all [cN,lU]
 | .bad,b,c=>by cases b<;>simp_all [cN]
 | .W _ _,b,c=>by cases b<;>simp_all [cN]
 | .cR _ _ _,b,c=>by cases b<;>simp_all [cN]
def ob: ∀(a b:List aa),eu a b=true->a=b
 | [],[],_=>rfl
 | [],_::_,c=>by simp [eu] at c
 |_::_,[],c=>by simp [eu] at c
 |a::l,b::m,c=>by simp only [eu,br] at c;rw [zN _ _ c.1,ob _ _ c.2]
def LR: ∀(a b:Y),qH a b=true->a=b
 | [],[],_=>rfl
 | [],_::_,c=>by simp [qH] at c
 |_::_,[],c=>by simp [qH] at c
 |a::l,b::m,c=>by simp only [qH,br] at c;rw [ob _ _ c.1,LR _ _ c.2]
end
def ZO {a b:Option aa} (c:f_ a b=true):a=b:=by
 unfold f_ at c;split at c
 . rw [zN _ _ c]
 grind
section
variable {E:Env} {cf:cb} {fid:Nat} {ops:Array Oper} {tm:List aa} {H:af}
theorem Zw: ∀(c:List Oper) (as:List bV) (s:bK) (b:List bK),dY E cf fid ops c as s=some b->
  b.length=c.length+1/\b[0]? =some s/\ ∀i o,c[i]? =some o-> ∃a e f,as[i]? =some a/\b[i]? =some e/\b[i+1]? =some f/\fy E cf fid ops o a e=some f:=by
 intro c
 induction c with
 | nil=>
   intro as s b d;cases as<;>(simp only [dY,N] at d;grind)
 | cons o c g=>
   intro as s b d
   cases as with
   |nil=>simp [dY] at d
   | cons a as=>
     simp only [dY] at d;split at d
     all_goals grind
theorem abV {d:List bK}: ∀(b:List Oper) (as:List bV) (c:List bK),kS E ops d b as c=true->
  ∀(i:Nat) (o:Oper) (a:bV) (s:bK),b[i]? =some o->as[i]? =some a->c[i]? =some s->qR E ops o a s d=true:=by
 intro b
 induction b with
 |nil=>simp
 | cons o b k=>
   intro as c e i l f m g h j
   cases as with
   |nil=>grind
   | cons a as=>
     cases c with
     |nil=>grind
     | cons s c=>
       simp only [kS,br] at e
       grind
theorem abW {o:Oper} {c:List bK}: ∀(ks:List Nat),qQ E o tm H c ks=true-> ∀k,k∈ks-> ∃s,c[k]? =some s/\gn E o tm s.2=gn E o tm H:=by
 intro ks
 induction ks with
 |nil=>simp
 | cons f ks e=>
   intro a k b;simp only [qQ] at a;split at a
   . rename_i s d;simp only [br] at a
     cases b with
     |head=>exact ⟨s,d,ZO a.1⟩
     |tail _ b=>exact e a.2 k b
   grind
theorem JQ: ∀(l:List bK) (n:Nat),l.length=n+1->jq l=l[n]?
 | [],_,a=>by grind
 | [c], n, a => by simp only [yQ] at a;have:n=0:=ab
                   subst this;rfl
 | c::s'::l,n,a=>by
   simp only [cl] at a;obtain ⟨b,rfl⟩: ∃b,n=b+1:=⟨n-1,ab⟩;rw [jq,JQ (s'::l) b ah]
   all_goals simp
theorem Wf {t:Nat} {p:aa} {H':af} (a:CG p=false):dW E t p tm H'=dW E t p tm H:=by cases p<;>first|rfl|(simp [CG] at a)
theorem Ho {d:e0} (U:sY E fid ops d=true) {s:bK} (b:mw E cf fid ops d tm H=some s):
  ∃σ R W B,jF ops.size tm.length (λi s=>match ops[i]? with|some o=>jz E cf fid ops o s|none=>some s) σ R W (o0 d) B/\q4 ops B/\σ 0=(tm,H)/\σ ops.size=s/\B=kg d:=by
 unfold mw at b;split at b
 case h_2=>cases b
 rename_i w aq;split at b
 case h_2=>cases b
 rename_i V;obtain ⟨bh,aB,aC⟩:=Zw _ _ _ _ aq;have aP:=abV _ _ _ V;simp only [sY,br,ba,h9] at U;obtain ⟨S,x⟩:=U;have S:=er S;have aD:w.length=ops.size+1:=ab;let σ:Nat->bK:=λk=>(w[k]?).getD default;have X: ∀k s,w[k]? =some s->σ k=s:=ah;have y: ∀i,i<ops.size-> ∃o e,ops[i]? =some o/\d.dV[i]? =some e/\kf E fid o e=true/\(∀l,l∈kb ops o e->l∈at_ d.R i)/\(∀l,l∈iZ o e->l∈at_ d.W i)/\(∀l,l∈at_ d.W i->l∈iZ o e)/\
   (∀f,f∈o.after->Region.binds .any f=true->f.on<i)/\fy E cf fid ops o e (σ i)=some (σ (i+1))/\qR E ops o e (σ i) w=true:=by
  intro i j;have a:=(x i j).1;unfold Em at a;have n:ops[i]? =some ops[i]:=ai;obtain ⟨e,bd,bf,C,N,O,aH⟩:=aC i ops[i] ai;rw [n,C] at a;simp only [br,ba,mL,oV,List.contains_iff_mem] at a;refine ⟨ops[i],e,n,C,a.1.1.1.1,a.1.1.1.2,a.1.1.2,a.1.2,λf D T=> ?_,ah,ah⟩;rcases a.2 f (by simpa using D) with b|b
  all_goals simp_all
 have aN: ∀i,i<=ops.size->(σ i).1.length=tm.length:=by
  intro i
  induction i with
  |zero=>grind
  | succ i aQ=>
    intro j;obtain ⟨o,e,z,t,u,K,L,M,A,v,p⟩:=y i ab;rw [(zZ (dx:=(σ i).1) (gx:=(σ i).2) v u).2.2.1];omega
 have aa: ∀i c,kg d i c=true->c<ops.size:=by
  intro i c b;unfold kg at_ at b
  grind
 have af: ∀i c,kg d c i=true->c<i/\ ∃o f,ops[i]? =some o/\f∈o.after/\Region.binds .any f=true/\(f.on=c\/kg d c f.on=true):=by intro i c r;have j:=aa c i r;have a:=(x i j).2.1;unfold H_ at a;have g:=ba.1 a c (by simpa [kg] using r);simp only [br] at g;refine ⟨er g.1,?_⟩;have n:ops[i]? =some ops[i]:=ai;rw [n] at g;simp only [kB,br,mL] at g;obtain ⟨f,C,N,O⟩:=g.2;exact ⟨ops[i],f,n,ah,N,O.imp ai id⟩
 have a7: ∀i c,i<c->c<ops.size->kg d i c=true\/((∀s,s∈at_ d.W i->s∈at_ d.W c->False)/\(∀s,s∈at_ d.W i->s∈at_ d.R c->False)/\(∀s,s∈at_ d.R i->s∈at_ d.W c->False)/\
   ((o0 d i).hM=true->(o0 d c).hM=true->False)):=by
  intro i c aj r;have a:=(x c r).2.2.2.2 i (by simpa using aj);simp only [KQ,mL,br] at a;refine a.imp id λb=>⟨λs a g=>BA b.1 a g,λs a g=>BA b.2.1 a g,λs a g=>BA b.2.2.1 a g,λa g=> ?_⟩;have:=b.2.2.2;simp [nM,a,g] at this
 refine ⟨σ,at_ d.R,at_ d.W,kg d,⟨ah,ah,?_,?_,?_,?_,?_,?_,?_⟩,⟨?_,af⟩,X 0 _ aB,?_,rfl⟩
 ·
  intro i j aE Z aM aK q;obtain ⟨o,e,z,t,u,K,L,M,A,v,p⟩:=y i j;obtain ⟨ad,P,ae,Q⟩:=zZ (dx:=(σ i).1) (gx:=(σ i).2) v u;have F:o0 d i=e.fD:=by simp [o0,t]
  rw [F] at q|-;obtain ⟨aF,aS,aT,aU,aV⟩:=Q aE Z ah ah (by
   cases e with
   |heap=>exact q
   | read J=>
     simp only [bV.fD] at q|-;obtain ⟨k,ak,rfl⟩:=q;intro ar;unfold qR at p;simp only [ar] at p;have V:qQ E o (σ i).1 (σ i).2 w J=true->gn E o (σ i).1 (σ k).2=gn E o (σ i).1 (σ i).2:=by
      intro b;obtain ⟨s,a8,bb⟩:=abW J b k ak
      grind
     split at p
     . rename_i bg l an;split at p
       . grind
       . rename_i ao;unfold gn;simp only [an];exact Wf ao
     grind
   | m aR =>
     simp only [bV.fD,bs] at q|-;obtain ⟨k,rfl,rfl⟩:=q;intro _;have a:=(x i j).2.2.2.1;simp only [K_,t,br,ba,h9,mL,oV] at a;have aL:=er a.1;have bc: ∀h,k<=h->h<=i->(σ h).2=(σ k).2:=by
      intro h
      induction h with
      |zero=>grind
      | succ h au=>
        intro aI aJ;by_cases f:k=h+1
        . grind
        . rw [<-au ab ab];obtain ⟨ax,aG,aW,ay,az,aX,aY,aZ,a1,aA,a6⟩:=y h ab;have al:nM d h=false:=by
           rcases a.2 h ab with b|b
           . have:=er b;omega
           omega
          refine (zZ (dx:=(σ h).1) (gx:=(σ h).2) aA az).2.1 ?_;simpa [nM,o0,ay] using al
     grind
   |_=>trivial)
  refine ⟨aF,ah,ah,λs aO=> ?_,ah⟩
  grind
 . intro i j;obtain ⟨o,e,z,t,u,K,L,M,A,v,p⟩:=y i j;obtain ⟨ad,P,ae,Q⟩:=zZ (dx:=(σ i).1) (gx:=(σ i).2) v u;exact ⟨ah,λb=>P (by simpa [o0,t] using b)⟩
 . grind
 . grind
 . grind
 . grind
 . intro i J j F;have a:=(x i j).2.2.1;simp only [La,F,br,mL,kB,ba,h9,oV] at a;refine ⟨a.1.imp ai (λ⟨c,Y,G,I⟩=>⟨c,G,I⟩),λc r ag=> ?_⟩;rcases a.2 c r with b|b|b|⟨av,Y,G,I,aw⟩
   . rw [show nM d c=true from ag] at b;cases b
   . grind
   . exact .inr (.inl b)
   . exact .inr (.inr ⟨av,er G,Y,I,aw⟩)
 . intro i o f n D T;obtain ⟨ax,e,z,t,u,K,L,M,A,v,p⟩:=y i ah;rw [n] at z;cases z;exact A f D T
 . rw [JQ w ops.size aD] at b;exact X _ _ b
end
def Eu (E:Env) (fid:Nat) (ops:Array Oper) (d:e0):Bool:=match ops.back? with
 | some o=>sY E fid (ir ops o) (ub d)&&((match o.op with| .defer _=>false|_=>true)&&((List.range (ops.size-1)).all λa=>(at_ d.M (ops.size-1)).contains a&&(match ops[a]? with
   | some o=>(match o.guard with
     |some (b,_)=>Nat.blt b (ops.size-1)
     |none=>true)
   |none=>false)))
 |none=>false
section
variable {ops qB:Array Oper}
theorem Sp (c:Region.Mode) (k:qB.size=ops.size) (j: ∀i:Nat,(qB[i]?).map (·.after)=(ops[i]?).map (·.after)): ∀(d t:Nat) (b:Array Bool) (e:List Nat),
  Region.linearise.go c qB d t b e=Region.linearise.go c ops d t b e:=by
 intro d
 induction d with
 |zero=>intro t b e;rfl
 | succ d l=>
   intro t b e;have a:((List.range qB.size).filter λi=> !b.getD i true&&((qB[i]?).map (·.after.all λa=> !Region.binds c a||b.getD a.on false)).getD false)=
     (List.range ops.size).filter λi=> !b.getD i true&&((ops[i]?).map (·.after.all λa=> !Region.binds c a||b.getD a.on false)).getD false:=by
    rw [k];refine CU λi _=> ?_;have g: ∀f:Option Oper,(f.map (·.after.all λa=> !Region.binds c a||b.getD a.on false))=(f.map (·.after)).map λh=>h.all λa=> !Region.binds c a||b.getD a.on false:=λf=>by cases f<;>rfl
    rw [g,g,j]
   simp only [Region.linearise.go,a];split
   . exact l _ _ _
   . rfl
theorem ZW (a:qB.size=ops.size) (b: ∀i:Nat,(qB[i]?).map (·.after)=(ops[i]?).map (·.after)) (t:Nat):Region.schedule true qB t=Region.schedule true ops t:=by simp only [Region.schedule,yI,if_true,Region.linearise,a];exact Sp .any a b _ _ _ _
theorem Sl (b t:Nat) (a:Array Bool) (l:a.size=ops.size) (f: ∀k,k<ops.size->a.getD k false=true):Region.linearise.go .any ops b t a []= []:=by
 cases b with
 |zero=>rfl
 | succ b=>
   have i:Region.ready .any ops a= []:=by refine List.eq_nil_iff_forall_not_mem.2 λe g=> ?_;obtain ⟨c,m,j,-⟩:=mem_ready.1 g;have h:e<ops.size:=(qg.1 j).1;rw [vl ab,f e h] at c;cases c
   simp only [Region.linearise.go]
   change (match (Region.ready .any ops a)[t%(Region.ready .any ops a).length]? with
    |some d=>Region.linearise.go .any ops b (t/(Region.ready .any ops a).length) (a.setIfInBounds d true) [d]
    |none=> [].reverse)=_
   rw [i];rfl
theorem Sm {A:Nat->Nat->Bool} {m:Nat} (p:q4 ops A) (Y:ops.size=m+1) (N: ∀j,j<m->A j m=true): ∀(c t:Nat) (a:Array Bool),a.size=ops.size->a.getD m false=false->
  (∀i o e,a.getD i false=true->ops[i]? =some o->e∈o.after->Region.binds .any e=true->a.getD e.on false=true)->
  ((List.range ops.size).filter λk=> !a.getD k false).length<=c-> ∃l,Region.linearise.go .any ops c t a []=l++ [m]/\ ∀i∈l,i<m:=by
 intro c
 induction c with
 | zero=>
   intro t a y g q P;have:((List.range ops.size).filter λk=> !a.getD k false)= []:=CS ab;have:=List.filter_eq_nil_iff.1 this m da;simp [g] at this
 | succ c W=>
   intro t a y g q P;simp only [Region.linearise.go]
   change∃l,(match (Region.ready .any ops a)[t%(Region.ready .any ops a).length]? with
    |some i=>Region.linearise.go .any ops c (t/(Region.ready .any ops a).length) (a.setIfInBounds i true) [i]
    |none=> [].reverse)=l++ [m]/\_
   cases r:(Region.ready .any ops a)[t%(Region.ready .any ops a).length]? with
   | none =>
     exfalso;have U:Region.ready .any ops a= []:=by
      cases V:Region.ready .any ops a with
      |nil=>rfl
      | cons n I=>
        rw [V] at r;have v:t%(n::I).length<(n::I).length:=tF _ ai;simp at r;simp at v;omega
     have all: ∀k,k<ops.size->a.getD k false=true:=by
      intro k
      induction k using Nat.strongRecOn with
      | _ k X=>
        intro s
        cases u:a.getD k false with
        |true=>rfl
        | false=>
          exfalso;have F:k∈Region.ready .any ops a:=by refine mem_ready.2 ⟨by rw [vl ab];exact u,ops[k],by simp [s],λe h d=> ?_⟩;have S:=p.BE k ops[k] e (by simp [s]) h d;exact X e.on S ab
          rw [U] at F;cases F
     rw [all m ab] at g;cases g
   | some i=>
     simp only;rw [linearise_go_acc,List.reverse_singleton,List.singleton_append];have T:=aV r;obtain ⟨G,o,w,D⟩:=mem_ready.1 T;have v:i<ops.size:=(qg.1 w).1;rw [vl ab] at G;have O:=p.down q;by_cases E:i=m
     . subst E;refine ⟨[],?_,λ_ K=>by cases K⟩;rw [Sl]
       . rfl
       . simpa using y
       . intro k s;rw [rl ab];by_cases Q:k=i
         . simp [Q]
         . have d:=N k ab;obtain ⟨_,H,e,B,L,M,f⟩:=p.gen i k d;rw [w] at B;cases B;have C:=D e L M;rcases f with f|f
           . subst f;simp [C]
           . simp [O _ _ C f]
     . obtain ⟨l,u,R⟩:=W (t/(Region.ready .any ops a).length) (a.setIfInBounds i true) (by simpa using y) (by rw [rl ab];simp [g,Ne.symm E]) (by
        intro j H e b x h d;rw [rl ab] at b|-;simp only [mL,decide_eq_true_eq] at b|-;rcases b with b|b
        . exact .inl (q j H e b x h d)
        . subst b;rw [w] at x;cases x;exact .inl (D e h d)) (by
        have:=GM (λk=>a.getD k false) i G (List.range ops.size) (by simpa using v);have J:((List.range ops.size).filter λk=> !(a.setIfInBounds i true).getD k false)=(List.range ops.size).filter λk=> !(a.getD k false||decide (k=i)):=
         CU λk _=>by rw [rl ab]
        rw [J];omega)
       refine ⟨i::l,by rw [u];rfl,λn z=> ?_⟩;rcases b2.1 z with rfl|z
       . omega
       . exact R n z
theorem ZV {a:Nat->Nat->Bool} {m:Nat} (e:q4 ops a) (g:ops.size=m+1) (f: ∀j,j<m->a j m=true) (t:Nat): ∃l,Region.schedule true ops t=l++ [m]/\ ∀i∈l,i<m:=by
 have c: ∀d,(Array.replicate ops.size false).getD d false=false:=by intro d;simp only [CK,CL];split<;>rfl
 simp only [Region.schedule,yI,if_true,Region.linearise];exact Sm e g f _ _ _ ai (c m) (λi k h b=>by rw [c] at b;cases b) (eT (List.length_filter_le _ _) ai)
end
section
variable {E:Env} {P:Program} {loc:Nat->Bool} {bx ae:aF} {bw w:World} {β:Nat->Option Nat} {tm:List aa} {H:af} {cf:cb} {fid:Nat} {ops:Array Oper}
theorem zY {o:Oper} {rest:List Oper} {s':bK} {ds:List (Nat×List aa)} (e: ∀c,o.op≠ .defer c) (a:jz E cf fid ops o (tm,H)=some s'):
  dv E cf fid ops (o::rest) tm H ds=dv E cf fid ops rest s'.1 s'.2 ds:=by
 unfold jz at a;simp only at a;split at a
 . rename_i b;rw [xR e b];unfold fm at a;split at a
   . rename_i j h g d;rw [d];simp only;unfold fj at a
     grind
   grind
 . rename_i b;unfold fj at a;split at a
   . rename_i i f;simp only [N] at a;subst a;simp only [dv,b,f]
   grind
 grind
theorem Zx (d: ∀(i:Nat) (o:Oper),ops[i]? =some o-> ∀c,o.op≠ .defer c) {ds:List (Nat×List aa)}: ∀(l:List Nat) (s s':bK),
  gM (λi s=>match ops[i]? with|some o=>jz E cf fid ops o s|none=>some s) l s=some s'->
  dv E cf fid ops (l.filterMap (ops[·]?)) s.1 s.2 ds= .normal s'.1 s'.2 ds:=by
 intro l
 induction l with
 |nil=>intro s s' a;simp only [gM,N] at a;subst a;rfl
 | cons i l g=>
   intro s s' a;simp only [gM] at a
   cases b:ops[i]? with
   | none=>
     grind
   | some o=>
     simp only [b] at a;simp only [tw,b];split at a
     . rename_i f e;rw [zY (d i o b) (s':=f) e]
       grind
     grind
theorem LI {f:Nat->bK->Option bK}: ∀(l r:List Nat) (s s':bK),gM f (l++r) s=some s'-> ∃b,gM f l s=some b/\gM f r b=some s'
 | [],r,s,s',a=>⟨s,rfl,a⟩
 | d::l,r,s,s',a=>by
   simp only [bl,gM] at a|-;split at a
   . rename_i b c;exact LI l r b s' a
   grind
theorem LJ {f g:Nat->bK->Option bK}: ∀(l:List Nat) (s:bK),(∀i∈l,∀s,f i s=g i s)->gM f l s=gM g l s
 | [],_,_=>rfl
 | i::l,s,a=>by
   simp only [gM,a i (dF ..)];split
   . exact LJ l _ ah
   . rfl
theorem Zy {rest:List Oper} {ds:List (Nat×List aa)}: ∀(l:List Nat) (s s':bK),(∀i∈l,∀o,ops[i]? =some o-> ∀c,o.op≠ .defer c)->
  gM (λi s=>match ops[i]? with|some o=>jz E cf fid ops o s|none=>some s) l s=some s'->
  dv E cf fid ops (l.filterMap (ops[·]?)++rest) s.1 s.2 ds=dv E cf fid ops rest s'.1 s'.2 ds:=by
 intro l
 induction l with
 |nil=>intro s s' _ a;simp only [gM,N] at a;grind
 | cons i l g=>
   intro s s' f a;simp only [gM] at a
   cases b:ops[i]? with
   | none=>
     grind
   | some o=>
     simp only [b] at a;simp only [tw,b,bl];split at a
     . rename_i e d;rw [zY ah (s':=e) d]
       grind
     grind
theorem G8 {d:e0} (b:sY E fid ops d=true): ∀(i:Nat) (o:Oper),ops[i]? =some o-> ∀c,o.op≠ .defer c:=by
 intro i o e c j;simp only [sY,br,ba,h9] at b;have a:=(b.2 i (qg.1 e).1).1;unfold Em at a;rw [e] at a;split at a
 . rename_i k g f h;cases f;simp only [br] at a;have:=a.1.1.1.1;unfold kf at this
   grind
 grind
theorem Q.drawn {ae:aF} {H:af} {w:World} (n:Nat) (b:Q ae H w):Q ae H {w with drawn:=n}:=
 ⟨b.aI,b.gK,b.hR,b.len,λid e i=>by
  have:=b.obj id e i
  cases e with
  | cells o m q l=>
    obtain ⟨c,f,a⟩:=this;exact ⟨c,f,a.at_,a.room,a.sle,a.free,a.nK,a.cont,a.wr,a.last,a.km,a.pO⟩
  | map aI p r=>
    obtain ⟨c,h,d,a⟩:=this;exact ⟨c,h,d,a.at_,a.dH,a.jt,a.kK,a.keys,a.nd,a.free⟩
  | iter k c d=>
    obtain ⟨g,j,a⟩:=this;exact ⟨g,j,a.at_,a.dH,a.size,a.num,a.free⟩
  |gone=>trivial
  |uj=>exact this,b.hI,b.e3,b.sep⟩
theorem Fr.drawn {ae:aF} {w:World} (n:Nat) {a:Nat->Prop} (c: ∀b,ae.own b->a b):Fr a ae ae w {w with drawn:=n}:=
 ⟨ai,ai,ai,ah,ai,ah,ah,ai,rfl,rfl,rfl⟩
def fl (E:Env) (g:bU) (fid:Nat):Code->Bool
 | .region id ops true=>match g fid id with
   | some b=>(match b.rs with
     | []=>sY E fid ops b&&(!b.aK||Eu E fid ops b)
     |_::_=>true)
   |none=>true
 | .seq a c=>fl E g fid a&&fl E g fid c
 | .cond _ a c=>fl E g fid a&&fl E g fid c
 | .block _ a=>fl E g fid a
 | .loop a=>fl E g fid a
 |_=>true
theorem K9: ∀l:List Oper,(List.range l.length).filterMap (l[·]?)=l
 | []=>rfl
 |b::l=>by rw [cl,List.range_succ_eq_map,tw];simp only [mM,List.filterMap_map];refine congrArg (b:: ·) ?_;have:((λa=>(b::l)[a]?)∘Nat.succ)=λa=>l[a]? :=ah;rw [this,K9 l]
theorem zF (ops:Array Oper):(List.range ops.size).filterMap (ops[·]?)=ops.toList:=by obtain ⟨a⟩:=ops;simpa using K9 a
variable (aB:fJ E P) (p2:P.follows .mixedOrders=true)
include aB p2 in
theorem Yl (gh: ∀f args H,e9 E P f args H (cf f args H)) (gi:loc=E.loc fid) {d:e0} {id:Nat} {ds:List (Nat×List aa)} {a:Act} {Q:Exit->Act->World->Prop} (oQ:Eu E fid ops d=true)
  (st:gA E loc bx bw ae H w β tm ds a) (h:mB E cf fid ops d tm H ds≠ .fail) (k: ∀e a w,sy E loc bx bw (mB E cf fid ops d tm H ds) e a w->Q e a w):(Code.region id ops true).wp P Q a w:=by
 unfold mB at h k;split at h
 case h_2=>grind
 rename_i o vx Im;simp only [vx,Im] at k;split at h
 case h_2=>grind
 rename_i dB H1 lR;simp only [lR] at k;split at h
 case h_2=>grind
 rename_i v qZ IG b6;simp only [IG,b6] at k;unfold Eu at oQ;rw [Im] at oQ;simp only [br,ba,h9] at oQ;obtain ⟨aH,yt,mC⟩:=oQ;obtain ⟨σ,R,W,OE,gY,p0,rn,bO,SI⟩:=Ho aH lR;have aeV:0<ops.size:=by grind
 have SW:ops[ops.size-1]? =some o:=ah;have fQ:(ir ops o).size=ops.size:=by simp [ir];omega
 have Ci: ∀j,j<ops.size-1->(ir ops o)[j]? =ops[j]? :=λj gE=>by
  simp only [ir,vL,Array.size_pop,Array.getElem?_pop]
  grind
 have Ix:(ir ops o)[ops.size-1]? =some (r1 o):=by simp only [ir,vL,Array.size_pop];simp
 have eO: ∀i:Nat,((ir ops o)[i]?).map (·.after)=(ops[i]?).map (·.after):=λi=>by
  rcases vV i (ops.size-1) with a8|rfl|a8
  . grind
  . rw [Ix,SW];rfl
  grind
 refine wp_region_draw λt=> ?_;rw [p2];have Ta:=ZW fQ eO t;have td:=gY.any p0 t;rw [rn,bO] at td;obtain ⟨l,cQ,iH⟩:=ZV (m:=ops.size-1) p0 ab (λj gE=>by rw [SI];have:=(mC j gE).1;simpa [kg,ub] using this) t;rw [cQ] at td;rw [Ta] at cQ;obtain ⟨s1,fc,kn⟩:=LI _ _ _ _ td;have pN:s1=(dB,H1):=by
  simp only [gM,Ix] at kn;split at kn
  . rename_i s2 Cr;simp only [jz,cJ,r1,evalOp,bb,dn,fm,fj,cH] at Cr
    grind
  grind
 subst pN;have mu:gM (λi s=>match ops[i]? with|some o=>jz E cf fid ops o s|none=>some s) l (tm,H)=some (dB,H1):=by
  rw [<-fc];refine (LJ l _ λi a8 s=> ?_).symm;have kv:=iH i a8;simp only [Ci i kv];have bG:=(mC i kv).2
  cases b9:ops[i]? with
  |none=>rfl
  | some wo=>
    rw [b9] at bG;simp only at bG|-;have hw:cJ (ir ops o) s.1 wo=cJ ops s.1 wo:=by
     unfold cJ
     cases ku:wo.guard with
     |none=>rfl
     | some g=>
       simp_all
    simp only [jz,hw]
 have adB:dv E cf fid ops ((l++ [ops.size-1]).filterMap (ops[·]?)) tm H ds= .aK v dB qZ ds:=by
  have Ha:(l++ [ops.size-1]).filterMap (ops[·]?)=l.filterMap (ops[·]?)++ [o]:=ah;rw [Ha,Zy l (tm,H) (dB,H1) (λi a8 wo b9 c bp=>by
   have:=G8 aH i wo ah c
   grind) mu]
  simp only;rw [xR ah IG,b6]
 have eL:gA E loc bx bw ae H {w with drawn:=w.drawn+1} β tm ds a:=cS.step st (st.wr.drawn _) (Fr.drawn _ λ_ h=>h);rw [cQ];exact BI aB gh gi _ ae _ β tm H ds a eL ah ah
include aB p2 in
theorem Hn (gh: ∀f args H,e9 E P f args H (cf f args H)) {g:bU} {ad:Nat} (gi:loc=E.loc fid):
  ∀ (c:Code) (Q:Exit->Act->World->Prop) (ae:aF) (w:World) (β:Nat->Option Nat) (tm:List aa) (H:af) (ds:List (Nat×List aa)) (a:Act),fl E g fid c=true->gA E loc bx bw ae H w β tm ds a->
    evalCode E cf g ad fid c tm H ds≠ .fail->(∀e a w,sy E loc bx bw (evalCode E cf g ad fid c tm H ds) e a w->Q e a w)->c.wp P Q a w:=by
 intro c
 induction c with
 |skip=>intro Q ae w β tm H ds a _ st _ k;exact wp_skip (k _ _ _ ⟨rfl,ae,β,st⟩)
 |label l=>intro Q ae w β tm H ds a _ st _ k;exact wp_label (k _ _ _ ⟨rfl,ae,β,st⟩)
 |exit id=>intro Q ae w β tm H ds a _ st _ k;exact wp_exit (k _ _ _ ⟨rfl,ae,β,st⟩)
 |ret=>intro Q ae w β tm H ds a _ st _ k;exact wp_ret (k _ _ _ ⟨rfl,ae,β,st⟩)
 |goto l=>intro Q ae w β tm H ds a _ st h k;exact absurd rfl h
 |refuse s=>intro Q ae w β tm H ds a _ st h k;exact absurd rfl h
 |scope c _=>intro Q ae w β tm H ds a _ st h k;exact absurd rfl h
 |rangeFunc f p x y _ _=>intro Q ae w β tm H ds a _ st h k;exact absurd rfl h
 | region id ops draw=>
   intro Q ae w β tm H ds a eG st h k
   cases draw with
   | false=>
     simp only [evalCode] at h k;refine wp_region (BI aB gh gi (List.range ops.size) ae w β tm H ds a st ?_ ?_)
     . rw [zF];exact h
     . rw [zF];exact k
   | true=>
     simp only [evalCode,hK] at h k;simp only [fl] at eG
     cases aH:g fid id with
     |none=>grind
     | some d=>
       rw [aH] at h k eG;simp only at h k eG
       cases ID:d.rs with
       | cons r rs=>
         rw [ID] at h;exact absurd rfl h
       |nil=>
       rw [ID] at h k eG;simp only [br,mL,oV] at h k eG;obtain ⟨eG,oQ⟩:=eG
       cases lR:mw E cf fid ops d tm H with
       | none=>
         rw [lR] at h k;simp only at h k;rcases oQ with oQ|oQ
         . exact absurd (by unfold mB;grind) h
         . exact Yl aB p2 gh gi oQ st h k
       | some s=>
         rw [lR] at k;simp only at k;obtain ⟨σ,R,W,OE,gY,p0,rn,bO,-⟩:=Ho eG lR;refine wp_region_draw λt=> ?_;rw [p2];have td:=gY.any p0 t;rw [rn,bO] at td;have aeT:=Zx (G8 eG) (ds:=ds) _ _ _ td;have eL:gA E loc bx bw ae H {w with drawn:=w.drawn+1} β tm ds a:=cS.step st (st.wr.drawn _) (Fr.drawn _ λ_ h=>h);exact BI aB gh gi _ ae _ β tm H ds a eL ah ah
 | seq x y yB yC=>
   intro Q ae w β tm H ds a eG st h k;simp only [fl,br] at eG;simp only [evalCode] at h k;refine wp_seq (yB _ ae w β tm H ds a eG.1 st ah ?_);intro e kY c5 bc
   cases bj:evalCode E cf g ad fid x tm H ds with
   | normal dB H1 ez=>
     rw [bj] at h k bc;simp only at h k;obtain ⟨rfl,gQ,iV,e8⟩:=bc;exact yC Q gQ c5 iV dB H1 ez kY eG.2 e8 h k
   | exit id dB H1 ez=>
     rw [bj] at h k bc;obtain ⟨rfl,r⟩:=bc;exact k _ _ _ ⟨rfl,r⟩
   | ret dB H1 ez=>
     rw [bj] at h k bc;obtain ⟨rfl,r⟩:=bc;exact k _ _ _ ⟨rfl,r⟩
   | aK v dB H1 ez=>
     rw [bj] at h k bc;obtain ⟨chain,rfl,r⟩:=bc;exact k _ _ _ ⟨chain,rfl,r⟩
   |fail=>grind
 | cond c x y yB yC=>
   intro Q ae w β tm H ds a eG st h k;simp only [fl,br] at eG;simp only [evalCode] at h k;have bp:aA ae β tm (B E tm c) (a.eval c):=zv st.iU st.kq c;split at h
   . rename_i e;rw [e] at bp k;simp only [aA] at bp;generalize cq:a.eval c=z at bp;cases bp;exact wp_cond_true cq ah
   . rename_i e;rw [e] at bp k;simp only [aA] at bp;generalize cq:a.eval c=z at bp;cases bp;exact wp_cond_false cq ah
   grind
 | block id c ff=>
   intro Q ae w β tm H ds a eG st h k;simp only [fl] at eG;simp only [evalCode] at h k;refine wp_block (ff _ ae w β tm H ds a eG st ah ?_);intro e kY c5 bc
   cases bj:evalCode E cf g ad fid c tm H ds with
   | normal dB H1 ez=>
     rw [bj] at h k bc;obtain ⟨rfl,r⟩:=bc;exact k _ _ _ ⟨rfl,r⟩
   | exit Cz dB H1 ez=>
     rw [bj] at h k bc;obtain ⟨rfl,r⟩:=bc;simp only at h k;simp only [Exit.inBlock];split
     . rename_i e;rw [if_pos e] at k;exact k _ _ _ ⟨rfl,r⟩
     . rename_i e;rw [if_neg e] at k;exact k _ _ _ ⟨rfl,r⟩
   | ret dB H1 ez=>
     rw [bj] at h k bc;obtain ⟨rfl,r⟩:=bc;exact k _ _ _ ⟨rfl,r⟩
   | aK v dB H1 ez=>
     rw [bj] at h k bc;obtain ⟨chain,rfl,r⟩:=bc;exact k _ _ _ ⟨chain,rfl,r⟩
   |fail=>grind
 | loop c ff=>
   intro Q ae w β tm H ds a eG st h k;simp only [fl] at eG;simp only [evalCode] at h k;refine wp_loop_rounds ad ?_;have key: ∀(n:Nat) (ae:aF) (w:World) (β:Nat->Option Nat) (tm:List aa) (H:af) (ds:List (Nat×List aa)) (a:Act),gA E loc bx bw ae H w β tm ds a->
     iter (evalCode E cf g ad fid c) n tm H ds≠ .fail->(∀e a w,sy E loc bx bw (iter (evalCode E cf g ad fid c) n tm H ds) e a w->Q e a w)->Code.rounds P c Q n a w:=by
    intro n
    induction n with
    |zero=>intro ae w β tm H ds a _ h _;exact absurd rfl h
    | succ n Tt=>
      intro ae w β tm H ds a st h k;simp only [iter] at h k;simp only [Code.rounds];refine ff _ ae w β tm H ds a eG st ah ?_;intro e kY c5 bc
      cases bj:evalCode E cf g ad fid c tm H ds with
      | normal dB H1 ez=>
        rw [bj] at h k bc;simp only at h k;obtain ⟨rfl,gQ,iV,e8⟩:=bc;exact Tt gQ c5 iV dB H1 ez kY e8 h k
      | exit id dB H1 ez=>
        rw [bj] at h k bc;obtain ⟨rfl,r⟩:=bc;exact k _ _ _ ⟨rfl,r⟩
      | ret dB H1 ez=>
        rw [bj] at h k bc;obtain ⟨rfl,r⟩:=bc;exact k _ _ _ ⟨rfl,r⟩
      | aK v dB H1 ez=>
        rw [bj] at h k bc;obtain ⟨chain,rfl,r⟩:=bc;exact k _ _ _ ⟨chain,rfl,r⟩
      |fail=>grind
   grind
end
section
variable {E:Env} {P:Program} {loc:Nat->Bool} {bx ae:aF} {bw w:World} {D:aF->Prop} {β:Nat->Option Nat} {tm:List aa} {H:af} {cf:cb} {fid:Nat}
variable (aB:fJ E P)
include aB in
theorem Zb {dT:Array Value} (st:cS E loc bx bw D ae H w β tm dT) {r:ResultVar} {v:aa} (h:lx E tm H r=some v) (bO:aD v=true):
  ∃x,((match r with| .tmp t=>pure (dT.getD t undef)| .cell a t=>do loadVar t (<-asAddr (dT.getD a undef))):Sem Value).run P w= .ok x w/\aC ae v x:=by
 have b6: ∀x,aA ae β tm (B E tm x) ((⟨dT,[]⟩:Act).eval x):=λx=>zv (a:=⟨dT,[]⟩) st.iU st.kq x
 cases r with
 | tmp t=>
   simp only [lx,N] at h;have aS:=b6 (.tmp t);have bG:B E tm (.tmp t)=v:=by simp only [B,h];cases v<;>first|rfl|(simp [aD] at bO)
   rw [bG] at aS;exact ⟨_,Sem.run_pure _ _ _,aS.iv bO⟩
 | cell a t=>
   simp only [lx] at h;obtain ⟨y,aS,bG⟩:=JZ aB (a:=⟨dT,[]⟩) st.wr st.iU (b6 (.tmp a)) h;refine ⟨y,(show (do loadVar t (<-asAddr (dT.getD a undef)):Sem Value).run P w= .ok y w from ?_),bG⟩;have dS:(Instr.loadAt t (dT.getD a undef)).run P w= .ok y w:=aS;generalize dT.getD a undef=z at dS|-;unfold Instr.loadAt at dS
   cases z with
   | pointer o=>
     cases o with
     |some a=>exact dS
     |none=>exact absurd dS (by intro h;cases h)
   |_=>exact absurd dS (by intro h;cases h)
include aB in
theorem Zc {dT:Array Value} (st:cS E loc bx bw D ae H w β tm dT): ∀(rs:List ResultVar) (vs:List aa),hU E tm H rs=some vs->vs.all aD=true->
  ∃xs:List Value,(rs.mapM λ| .tmp t=>pure (dT.getD t undef)| .cell a t=>do loadVar t (<-asAddr (dT.getD a undef)):Sem (List Value)).run P w= .ok xs w/\vs.length=xs.length/\ ∀(i:Nat) (v:aa) (x:Value),vs[i]? =some v->xs[i]? =some x->aC ae v x:=by
 intro rs
 induction rs with
 | nil=>
   intro vs h _;simp only [hU,N] at h;subst h;exact ⟨[],Sem.run_pure _ _ _,rfl,λi v x h=>by simp at h⟩
 | cons r rs ff=>
   intro vs h bO;simp only [hU] at h;split at h
   case h_2=>cases h
   rename_i v aP;split at h
   case h_2=>cases h
   rename_i abP Ct;simp only [N] at h;subst h;simp only [aO,br] at bO;obtain ⟨x,ix,iy⟩:=Zb aB st aP bO.1;obtain ⟨xs,qT,qU,NH⟩:=ff abP Ct bO.2;refine ⟨x::xs,?_,by simp [qU],λi u y hu dh=> ?_⟩
   . rw [List.mapM_cons];exact (bg ix).trans ((bg qT).trans (Sem.run_pure _ _ _))
   . cases i with
     | zero=>
       simp only [mM,N] at hu dh;subst hu;subst dh;exact iy
     |succ i=>exact NH i u y (by simpa using hu) (by simpa using dh)
include aB in
theorem Li {dT:Array Value} (st:cS E loc bx bw D ae H w β tm dT) {fn:Func} {v:aa} {H':af} (h:hA E fn tm H= .ret v H'):H'=H/\ ∃x,(results fn dT).run P w= .ok x w/\aC ae v x:=by
 unfold hA at h;have key: ∀vs,hU E tm H fn.results.toList=some vs->vs.all aD=true-> ∃xs:List Value,(results fn dT).run P w= .ok (if h:xs.toArray.size=1 then xs.toArray[0] else .tuple xs.toArray) w/\vs.length=xs.length/\
   ∀(i:Nat) (v:aa) (x:Value),vs[i]? =some v->xs[i]? =some x->aC ae v x:=by
  intro vs Ct bO;obtain ⟨xs,ix,iy,w1⟩:=Zc aB st _ vs Ct bO;refine ⟨xs,?_,iy,w1⟩;unfold results;rw [Array.mapM_eq_mapM_toList];refine (bg (a:=xs.toArray) (w':=w) ?_).trans (Sem.run_pure _ _ _);rw [map_eq_pure_bind];exact (bg ix).trans (Sem.run_pure _ _ _)
 split at h
 . rename_i Aj bh;split at h
   . rename_i bO;simp only [dn,cY.ret.injEq] at h;obtain ⟨rfl,rfl⟩:=h;obtain ⟨xs,ix,iy,w1⟩:=key _ bh (by simp [bO])
     match xs,iy with
     | [x],_=>exact ⟨rfl,x,ix,w1 0 _ _ rfl rfl⟩
   . cases h
 . rename_i vs p3 bh;split at h
   . rename_i bO;simp only [bu,cY.ret.injEq] at h;obtain ⟨rfl,rfl⟩:=h;obtain ⟨xs,ix,iy,w1⟩:=key _ bh bO;refine ⟨rfl,.tuple xs.toArray,?_,?_⟩
     . rw [ix,dif_neg];intro aS;have:vs.length=1:=by rw [iy];simpa using aS
       match vs,this with
       | [v],_=>exact p3 v rfl
     . exact .av vs xs.toArray (by simpa using iy) λi v x aP bj=>w1 i v x aP (by simpa using bj)
   . cases h
 . cases h
theorem Lh {fn:Func} {v:aa} {H':af}:hA E fn tm H≠ .aK v H':=by
 unfold hA;split
 . split<;>simp
 . split<;>simp
 . simp
theorem Mg {args:List aa} {xs:Array Value} {n:Nat} (r:Q ae H w) (m:jD E ae) (p:args.length=xs.size)
  (l: ∀(i:Nat) (v:aa) (x:Value),args[i]? =some v->xs[i]? =some x->aC ae v x) (j:D ae) (k: ∀s ae g w w',D ae->Fr s ae g w w'->D g):
  cS E loc ae w D ae H w (λ_=>none) (args++List.replicate (n-args.length) (.av [])) (xs++Array.replicate (n-xs.size) undef):=by
 have f: ∀(i:Nat) (v:aa) (x:Value),(args++List.replicate (n-args.length) (.av []))[i]? =some v->(xs++Array.replicate (n-xs.size) undef)[i]? =some x->aC ae v x:=by
  intro i v x c b;rw [kC] at c;rw [yE] at b;split at c
  . rename_i a;rw [if_pos ab] at b;exact l i v x c b
  . rename_i a;rw [if_neg ab] at b;rw [yP] at c;rw [CL] at b;split at c
    . simp only [N] at c;subst c;split at b
      . simp only [N] at b;subst b;exact bt.av [] #[] rfl ai
      . cases b
    . cases c
 refine ⟨r,m,⟨by simp [p],λi v x c b=> ?_,λe d a=>by simp at a,λe y d a=>by simp at a,λi t h a=> ?_⟩,Fr.refl λ_ a=>a,λe d a=>by simp at a,j,k⟩
 . have:=f i v x c b;have q:=FT this;rw [sA (by rintro t h rfl;simp [aD] at q)];exact aA.cA this
 ·
  have o:i<(args++List.replicate (n-args.length) (aa.av [])).length:=(e6.1 a).1;have u:i<(xs++Array.replicate (n-xs.size) undef).size:=by simp at o|-;omega
  have:=FT (f i _ ((xs++Array.replicate (n-xs.size) undef)[i]) a ai);simp [aD] at this
theorem LM {f:Nat} {fn:Func} {c:Code} {xs:Array Value} (d:P.funcs[f]? =some fn) (e:(fn.name== "runtime.NumGoroutine")=false) (b:fn.body=some c):(callFunc f xs).run P w= .ok (.enter f xs) w:=by unfold callFunc;refine (bg (a:=P) (w':=w) rfl).trans ?_;simp only [d,e,b,Option.isNone_some,eJ,if_false];exact Sem.run_pure _ _ _
end
def kV (ae:aF) (pv:Option aa) (a:FrameMode):Prop:=match pv with
 |some e=> ∃b,a= .panicking b/\lC ae e b
 |none=>a= .returning\/ ∃c d,a= .panicking (c::d)/\c.recovered=true/\ ∀f∈d,f.goexit=false
def lC.aR {ae b:aF} {h:Nat->Prop} {w w':World} {v:aa} {a:List PanicEntry} (c:lC ae v a) (f:Fr h ae b w w'):lC b v a:=by
 obtain ⟨j,i,d,e,g⟩:=c;exact ⟨j,i,d,e,g.aR f⟩
def kV.aR {ae c:aF} {h:Nat->Prop} {w w':World} {pv:Option aa} {b:FrameMode} (a:kV ae pv b) (f:Fr h ae c w w'):kV c pv b:=by
 cases pv with
 |none=>exact a
 |some i=>obtain ⟨d,e,g⟩:=a;exact ⟨d,e,g.aR f⟩
def kV.settle {ae:aF} {pv:Option aa} {c:FrameMode} (d:kV ae pv c):(match pv with|some v=> ∃b,settle c= .panicking b/\lC ae v b|none=>settle c= .returning):=by
 cases pv with
 | some v=>
   obtain ⟨b,rfl,g,i,rfl,a,e⟩:=d;exact ⟨_,rfl,g,i,rfl,a,e⟩
 | none =>
   rcases d with rfl|⟨h,f,rfl,a,e⟩
   . rfl
   . obtain ⟨v,m,j⟩:=h;simp only at a;subst a;simp only [Go.settle];have:f.dropWhile (!·.goexit)= []:=by
      induction f with
      |nil=>rfl
      | cons g l k=>
        simp_all
     grind
def kV.raised {ae:aF} {pv:Option aa} {f:FrameMode} (i:kV ae pv f) {v:aa} {h:List PanicEntry} (m:lC ae v h) (p: ∀e c,f= .panicking (e::c)->e.goexit=false):
    ∃a,raised f h= .panicking a/\lC ae v a:=by
 obtain ⟨g,d,rfl,j,b⟩:=m
 cases pv with
 | some q=>
   obtain ⟨a,rfl,o,n,rfl,k,l⟩:=i;refine ⟨_,rfl,g,d++({v:=o,recovered:=false}::n),rfl,?_,b⟩
   grind
 | none=>
   rcases i with rfl|⟨e,c,rfl,k,l⟩
   . exact ⟨_,rfl,g,d,rfl,j,b⟩
   . refine ⟨_,rfl,g,d++(e::c),rfl,?_,b⟩
     grind
section
variable {E:Env} {P:Program} {loc:Nat->Bool} {bx ae:aF} {bw w:World} {D:aF->Prop} {β:Nat->Option Nat} {tm:List aa} {H:af} {cf:cb} {fid:Nat}
variable (aB:fJ E P) (p2:P.follows .mixedOrders=true)
def rR (c:FrameMode):Prop:= ∀a b,c= .panicking (a::b)->a.goexit=false
def AK (E:Env) (loc:Nat->Bool) (bx:aF) (bw:World) (c0:Frame) (cs0:List Frame) (r:bP×Option aa) (e:Exit) (a:Act) (cs:List Frame) (w:World):Prop:=
 sy E loc bx bw r.1 e a w/\ ∃b,cs= {c0 with mode:=b}::cs0/\kV bx r.2 b/\rR b
include aB in
theorem Rb (gh : ∀f args H,e9 E P f args H (cf f args H)) (gi:loc=E.loc fid) {ops:Array Oper} {c0:Frame} {cs0:List Frame} {Q:Exit->Act->List Frame->World->Prop}:
  ∀ (l:List Nat) (pv:Option aa) (u:FrameMode) (ae:aF) (w:World) (β:Nat->Option Nat) (tm:List aa) (H:af) (a:Act),kV bx pv u->rR u->gA E loc bx bw ae H w β tm [] a->
    (jN E cf fid ops (l.filterMap (ops[·]?)) pv tm H).1≠ .fail->(∀e a cs w,AK E loc bx bw c0 cs0 (jN E cf fid ops (l.filterMap (ops[·]?)) pv tm H) e a cs w->Q e a cs w)->
    wpOpsS P ops Q l a ({c0 with mode:=u}::cs0) w:=by
 intro l
 induction l with
 | nil=>
   intro pv u ae w β tm H a hL bj st _ k;exact k _ _ _ _ ⟨⟨rfl,ae,β,st⟩,u,rfl,hL,bj⟩
 | cons i l ff =>
   intro pv u ae w β tm H a hL bj st j k;simp only [wpOpsS]
   cases b9:ops[i]? with
   | none=>
     grind
   | some o =>
     simp only [tw,b9] at j k
     cases hw:cJ ops tm o with
     |none=>simp only [jN,hw] at j;grind
     | some r =>
       have vA:=NC st.iU hw
       cases r with
       | false=>
         simp only [jN,hw] at j k;dsimp only at j k|-;rw [vA,if_neg ai]
         cases bc:cH E fid o.dst (.av []) tm with
         |none=>grind
         | some L=>
           rw [bc] at j k;obtain ⟨kT,eL⟩:=ue st (pG.lr (aA.cA (.av [] #[] rfl ai))) gi bc;refine ff pv u ae w kT L H (a.put o.dst undef) hL bj ?_ j k;unfold gA;rw [uf,put_defers];exact eL
       | true =>
         dsimp only at j k|-;rw [vA,if_pos rfl];by_cases S6: ∃args dT,o.op= .call ⟨.builtin .recover,args,dT⟩
         . obtain ⟨args,dT,b6⟩:=S6;have gY:(execOp a.eval o).run P w= .ok .recover w:=by unfold execOp;simp only [b6];rfl
           rw [gY];simp only [jN,hw,b6] at j k;have put: ∀(v:aa) (x:Value) (L:List aa),aC ae v x->cH E fid o.dst v tm=some L-> ∃kT,gA E loc bx bw ae H w kT L [] (a.put o.dst x):=by intro v x L aP bc;obtain ⟨kT,eL⟩:=ue st (pG.lr (aA.cA aP)) gi bc;refine ⟨kT,?_⟩;unfold gA;rw [uf,put_defers];omega
           cases bc:cH E fid o.dst (pv.getD .dj) tm with
           |none=>grind
           | some L=>
             rw [bc] at j k;simp only at j k|-
             cases pv with
             | some v=>
               obtain ⟨chain,rfl,x,rest,rfl,aS,bG⟩:=hL;simp only [recoverD];obtain ⟨kT,eL⟩:=put v x L (aC.aR bG st.aR) bc;exact ff none _ ae w kT L H _ (.inr ⟨_,rest,rfl,rfl,aS⟩) (λe XA he=>by cases he;rfl) eL j k
             | none=>
               have bO:recoverD ({c0 with mode:=u}::cs0)=none:=by
                rcases hL with rfl|⟨e,XA,rfl,aS,bG⟩
                . rfl
                . obtain ⟨v,r,g⟩:=e;simp only at aS;subst aS;rfl
               rw [bO];simp only;obtain ⟨kT,eL⟩:=put .dj .nilIface L .dj bc
               grind
         . have yt: ∀c,o.op≠ .defer c:=by
            intro c bp;simp only [jN,hw,bp] at j
            grind
           have heq:jN E cf fid ops (o::l.filterMap (ops[·]?)) pv tm H=(match evalOp E cf fid o tm H with
             | .ok v L H'=>match cH E fid o.dst v L with
               |some sl=>jN E cf fid ops (l.filterMap (ops[·]?)) pv sl H'
               |none=>(.fail,none)
             | .aK v H'=>(.aK v tm H' [],pv)
             | .fail=>(.fail,none)):=by
            simp only [jN,hw]
            grind
           rw [heq] at j k;have lR:evalOp E cf fid o tm H≠ .fail:=by grind
           have b6:=Hq aB gh gi (dst:=o.dst) rfl st lR;have aeQ: ∀w',(execOp a.eval o).run P w≠ .ok .recover w':=by intro w' e;rw [e] at b6;exact b6.elim
           have aeY:o.upon P a (λuR w'=>wpOpsS P ops Q l uR ({c0 with mode:=u}::cs0) w') (λe uR w'=>Q e uR ({c0 with mode:=u}::cs0) w') ((execOp a.eval o).run P w):=by
            refine M3 b6 (λx w' Cf=> ?_) (λchain w' vx=> ?_)
            . obtain ⟨v,L,H',cF,kT,fc,eL,Cp⟩:=Cf;rw [fc] at j k;dsimp only at j k
              cases bc:cH E fid o.dst v L with
              |none=>grind
              | some sl=>
                rw [bc] at j k;obtain ⟨FC,Ma⟩:=ue eL Cp gi bc;refine ff pv u cF w' FC sl H' (a.put o.dst x) hL bj ?_ j k;unfold gA;rw [uf,put_defers];omega
            . obtain ⟨v,H',cF,fc,eL,oO⟩:=vx;rw [fc] at k;exact k _ _ _ _ ⟨⟨chain,rfl,cF,β,eL,oO⟩,u,rfl,hL,bj⟩
           grind
include aB p2 in
theorem Q6 (gh: ∀f args H,e9 E P f args H (cf f args H)) {g:bU} {ad:Nat} (gi:loc=E.loc fid) {c0:Frame} {cs0:List Frame}:
  ∀ (c:Code) (Q:Exit->Act->List Frame->World->Prop) (pv:Option aa) (u:FrameMode) (ae:aF) (w:World) (β:Nat->Option Nat) (tm:List aa) (H:af) (a:Act),fl E g fid c=true->
    kV bx pv u->rR u->gA E loc bx bw ae H w β tm [] a->
    (k6 E cf g ad fid c pv tm H).1≠ .fail->(∀e a cs w,AK E loc bx bw c0 cs0 (k6 E cf g ad fid c pv tm H) e a cs w->Q e a cs w)->
    c.wpS P Q a ({c0 with mode:=u}::cs0) w:=by
 have plain: ∀(c:Code) (Q:Exit->Act->List Frame->World->Prop) (pv:Option aa) (u:FrameMode) (ae:aF) (w:World) (β:Nat->Option Nat) (tm:List aa) (H:af) (a:Act),fl E g fid c=true->
   kV bx pv u->rR u->gA E loc bx bw ae H w β tm [] a->(evalCode E cf g ad fid c tm H [])≠ .fail->
   (∀e a cs w,AK E loc bx bw c0 cs0 (evalCode E cf g ad fid c tm H [],pv) e a cs w->Q e a cs w)->c.wpS P Q a ({c0 with mode:=u}::cs0) w:=by
  intro c Q pv u ae w β tm H a eG hL bj st j k;exact wpS_of_wp (Hn aB p2 gh gi c _ ae w β tm H [] a eG st j λe a w bc=>k _ _ _ _ ⟨bc,u,rfl,hL,bj⟩)
 intro c
 induction c with
 | seq x y yB yC=>
   intro Q pv u ae w β tm H a eG hL bj st j k;simp only [fl,br] at eG;simp only [k6] at j k;refine wpS_seq (yB _ pv u ae w β tm H a eG.1 hL bj st (λe=> ?_) ?_)
   . grind
   . intro e kY Qu c5 bc;rcases Th:k6 E cf g ad fid x pv tm H with ⟨r,zD⟩;rw [Th] at bc j k;obtain ⟨p4,gr,rfl,yj,mI⟩:=bc
     cases r with
     | normal dB H1 ez=>
       obtain ⟨rfl,gQ,iV,e8⟩:=p4
       cases ez with
       | nil=>
         simp only at j k;exact yC Q zD gr gQ c5 iV dB H1 kY eG.2 yj mI e8 j k
       |cons d ds=>grind
     | exit id dB H1 ez=>
       obtain ⟨rfl,r⟩:=p4;exact k _ _ _ _ ⟨⟨rfl,r⟩,gr,rfl,yj,mI⟩
     | ret dB H1 ez=>
       obtain ⟨rfl,r⟩:=p4;exact k _ _ _ _ ⟨⟨rfl,r⟩,gr,rfl,yj,mI⟩
     | aK v dB H1 ez=>
       obtain ⟨chain,rfl,r⟩:=p4;exact k _ _ _ _ ⟨⟨chain,rfl,r⟩,gr,rfl,yj,mI⟩
     |fail=>grind
 | region id ops draw=>
   intro Q pv u ae w β tm H a eG hL bj st j k
   cases draw with
   |true=>exact plain _ Q pv u ae w β tm H a eG hL bj st j k
   | false=>
     simp only [k6] at j k;refine wpS_region (Rb aB gh gi (List.range ops.size) pv u ae w β tm H a hL bj st ?_ ?_)
     . rw [zF];omega
     . rw [zF];exact k
 |_=>intro Q pv u ae w β tm H a eG hL bj st j k;exact plain _ Q pv u ae w β tm H a eG hL bj st j k
end
def jE (ae:aF) (pv:Option aa) (b:FrameMode):Prop:=match pv with
 |some c=> ∃a,b= .panicking a/\lC ae c a
 |none=>b= .returning
def jE.aa0 {ae:aF} {pv:Option aa} {b:FrameMode} (a:jE ae pv b):kV ae pv b:=by
 cases pv with
 |some c=>exact a
 |none=>exact .inl a
def jE.rR {ae:aF} {pv:Option aa} {c:FrameMode} (a:jE ae pv c):rR c:=by
 intro e i b
 cases pv with
 | some k=>
   obtain ⟨d,rfl,l,j,rfl,f,h⟩:=a;cases b;rfl
 |none=>cases a;cases b
def jE.aR {ae c:aF} {i:Nat->Prop} {w w':World} {pv:Option aa} {b:FrameMode} (a:jE ae pv b) (f:Fr i ae c w w'):jE c pv b:=by
 cases pv with
 |none=>exact a
 |some j=>obtain ⟨d,e,h⟩:=a;exact ⟨d,e,h.aR f⟩
def jE.Xg {ae:aF} {pv:Option aa} {a:FrameMode} (b:kV ae pv a):jE ae pv (settle a):=by
 have:=b.settle;cases pv<;>exact this
def jE.WI {ae:aF} {pv:Option aa} {b:FrameMode} (a:jE ae pv b):b≠ .run:=by
 cases pv with
 |some d=>obtain ⟨c,rfl,_⟩:=a;simp
 |none=>cases a;simp
structure uQ (E:Env) (P:Program) (g:bU):Prop where
  env:fJ E P
  mixed:P.follows .mixedOrders=true
  regions: ∀f fn c,E.fns f=some fn->fn.body=some c->fl E g f c=true
  cL: ∀f p,E.cL f=some p-> ∀args H,e9 E P f args H (p args H)
section
variable {E:Env} {P:Program} {g:bU} (hT:uQ E P g) {loc:Nat->Bool} {bx ae:aF} {bw w:World} {β:Nat->Option Nat} {tm:List aa} {H:af} {cf:cb} {ad:Nat}
def xf (ae:aF) (w:World) (r:xa) (d:FrameMode) (w':World):Prop:= ∃c b a,r= .ok c b/\Q a b w'/\Fr ae.own ae a w w'/\jE a c d
include hT in
theorem Q7 (gh: ∀f args H,e9 E P f args H (cf f args H)) {f:Nat} {args:List aa} {xs:Array Value} {mode:Option aa} {u:FrameMode} (hw:Q ae H w) (ku:jD E ae) (cQ:args.length=xs.size)
  (eO: ∀(i:Nat) (v:aa) (x:Value),args[i]? =some v->xs[i]? =some x->aC ae v x) (pZ:jE ae mode u) {res:xa} (he:mv E cf g ad f args mode H=res) (h:res≠ .fail):
  (callFunc f xs).run P w= .ok (.enter f xs) w/\CallsD P f xs u w fun
   | .returned _,gr,w'=>xf ae w res (settle gr) w'
   | .panicked chain,gr,w'=>xf ae w res (raised gr chain) w'
   | .outgrown,_,_=>False:=by
 unfold mv at he;split at he
 case h_2=>exact absurd he.symm h
 rename_i fn vt;split at he
 case h_2=>exact absurd he.symm h
 rename_i c bp;split at he
 case isFalse=>exact absurd he.symm h
 rename_i hlen;obtain ⟨vw,Cn⟩:=hT.env.fns f fn vt;refine ⟨LM vw Cn bp,callsD_of_wpS vw bp λu9 cs hu=> ?_⟩;have rq:u9::cs= {u9 with mode:=u}::cs:=by subst hu;rfl
 rw [rq];have E0:=Mg (loc:=E.loc f) (D:=λae=>j_ ae [] []) (n:=fn.ntmps) hw ku cQ eO trivial (λown ae cF w w' aH cy=>j_.aR cy _ _ aH);rcases bh:k6 E cf g ad f c mode (args++List.replicate (fn.ntmps-args.length) (.av [])) H with ⟨r,zD⟩;rw [bh] at he;refine Q6 (g:=g) (ad:=ad) hT.env hT.mixed gh rfl (c0:=u9) (cs0:=cs) c _ mode u ae w (λ_=>none) _ H _ (hT.regions f fn c vt bp) pZ.aa0 pZ.rR E0 ?_ ?_
 . rw [bh];intro e;simp only at e;subst e;exact h he.symm
 . intro e a Qu c5 bc;rw [bh] at bc;obtain ⟨p4,gr,rfl,hL,bj⟩:=bc;have G1: ∀ {gQ:aF} {iV:Nat->Option Nat} {dB:List aa} {H1:af},gA E (E.loc f) ae w gQ H1 c5 iV dB [] a->a.defers= []:=by
    intro gQ iV dB H1 e8;have:=e8.oI
    cases aH:a.defers with
    |nil=>rfl
    |cons d ds=>rw [aH] at this;exact this.elim
   have ret: ∀ {gQ:aF} {iV:Nat->Option Nat} {dB:List aa} {H1:af},gA E (E.loc f) ae w gQ H1 c5 iV dB [] a->(match hA E fn dB H1 with| .ret _ H=>xa.ok zD H|_=> .fail)=res->
     a.defers= []/\ ∃MG,({u9 with mode:=gr}::cs:List Frame)= {u9 with mode:=MG}::cs/\ ∃v,(results fn a.tmps).run P c5= .ok v c5/\xf ae w res (settle MG) c5:=by
    intro gQ iV dB H1 e8 he;refine ⟨G1 e8,gr,rfl,?_⟩
    cases p5:hA E fn dB H1 with
    | ret v qZ=>
      rw [p5] at he;simp only at he;obtain ⟨rfl,x,ix,iy⟩:=Li hT.env e8 p5;exact ⟨x,ix,zD,qZ,gQ,he.symm,e8.wr,e8.aR,(jE.Xg hL).aR e8.aR⟩
    |aK v qZ=>exact absurd p5 Lh
    |fail=>rw [p5] at he;exact absurd he.symm h
   cases r with
   | normal dB H1 ez=>
     obtain ⟨rfl,gQ,iV,e8⟩:=p4
     cases ez with
     |nil=>exact ret e8 he
     |cons d ds=>exact absurd he.symm h
   | ret dB H1 ez=>
     obtain ⟨rfl,gQ,iV,e8⟩:=p4
     cases ez with
     |nil=>exact ret e8 he
     |cons d ds=>exact absurd he.symm h
   | aK v dB H1 ez=>
     obtain ⟨chain,rfl,gQ,iV,e8,oO⟩:=p4
     cases ez with
     | nil=>
       refine ⟨G1 e8,gr,rfl,?_⟩;obtain ⟨PW,aS,bG⟩:=(hL.aR e8.aR).raised oO bj;exact ⟨some v,H1,gQ,he.symm,e8.wr,e8.aR,PW,aS,bG⟩
     |cons d ds=>exact absurd he.symm h
   |exit id dB H1 ez=>exact absurd he.symm h
   |fail=>exact absurd he.symm h
include hT in
theorem DR (gh: ∀f args H,e9 E P f args H (cf f args H)) {fn:Func} {dT:Array Value}: ∀(ds:List (Nat×List aa)) (k4:List Deferred) (mode:Option aa) (u:FrameMode) (ae:aF) (w:World) (H:af),
  cS E loc bx bw (λae=>j_ ae ds k4) ae H w β tm dT->jE ae mode u->mO E cf g ad fn tm ds mode H≠ .fail->
  Leaves P fn dT (AD bx bw (mO E cf g ad fn tm ds mode H)) k4 u w:=by
 intro ds
 induction ds with
 | nil =>
   intro k4 mode u ae w H st pZ h
   cases k4 with
   |cons d k4=>exact st.oI.elim
   | nil =>
     cases mode with
     | none=>
       cases pZ;simp only [mO] at h|-
       cases p5:hA E fn tm H with
       | ret v qZ=>
         obtain ⟨rfl,x,ix,iy⟩:=Li hT.env st p5;exact ⟨x,ix,v,qZ,ae,rfl,st.wr,st.aR,iy⟩
       |aK v qZ=>exact absurd p5 Lh
       |fail=>exact absurd p5 h
     | some v=>
       obtain ⟨chain,rfl,oO⟩:=pZ;exact ⟨v,H,ae,rfl,st.wr,st.aR,oO⟩
 | cons p ds ff=>
   obtain ⟨f,args⟩:=p;intro k4 mode u ae w H st pZ h
   cases k4 with
   |nil=>exact st.oI.elim
   | cons d k4=>
     obtain ⟨⟨cap,IF,cQ,eO⟩,S7⟩:=st.oI;simp only [mO] at h|-;have lR:mv E cf g ad f args mode H≠ .fail:=by intro e;rw [e] at h;exact h rfl
     obtain ⟨gY,SK⟩:=Q7 hT gh st.wr st.kq cQ eO pZ rfl lR;refine ⟨pZ.WI,.func f,cap,f,d.args++cap,IF,?_,?_⟩
     . rw [IF];exact gY
     . have next: ∀gr w',xf ae w (mv E cf g ad f args mode H) gr w'->Leaves P fn dT (AD bx bw (match mv E cf g ad f args mode H with| .ok mode H=>mO E cf g ad fn tm ds mode H| .fail=> .fail)) k4 gr w':=by
        rintro gr w' ⟨WC,H',cF,fc,kn,pN,mu⟩;rw [fc] at h|-;simp only at h|-;have eL:cS E loc bx bw (λae=>j_ ae ds k4) cF H' w' β tm dT:=
         ⟨kn,st.kq.aR pN,st.iU.aR pN,st.aR.trans pN st.aR.iP,st.rO,j_.aR pN _ _ S7,λown ae cF w w' aH cy=>j_.aR cy _ _ aH⟩
        exact ff k4 WC gr cF w' H' eL mu h
       refine CallsD.mono SK λe gr w' he=> ?_
       cases e with
       |returned v=>exact next _ _ he
       |panicked chain=>exact next _ _ he
       |outgrown=>exact he.elim
include hT in
theorem Hm (gh: ∀f args H,e9 E P f args H (cf f args H)) (f:Nat) (args:List aa) (H:af):e9 E P f args H (nE E cf g ad f args H):=by
 unfold nE;split
 . rename_i p bc;exact hT.cL f p bc args H
 . intro h ae w xs hw ku cQ eO;split at h
   case h_2=>exact absurd rfl h
   rename_i fn vt;split at h
   case h_2=>exact absurd rfl h
   rename_i c bp;split at h
   case isFalse=>exact absurd rfl h
   rename_i hlen;obtain ⟨vw,Cn⟩:=hT.env.fns f fn vt;refine .inl ⟨f,xs,LM vw Cn bp,?_⟩;rw [if_pos hlen];have E0:=Mg (loc:=E.loc f) (D:=λae=>j_ ae [] []) (n:=fn.ntmps) hw ku cQ eO trivial (λown ae cF w w' aH cy=>j_.aR cy _ _ aH);refine calls_of_wp_defers vw bp (Hn (g:=g) (ad:=ad) hT.env hT.mixed gh rfl c _ ae w (λ_=>none) _ H [] _ (hT.regions f fn c vt bp) E0 ?_ ?_)
   . intro e;rw [e] at h;exact h rfl
   . intro e a c5 bc;generalize evalCode E cf g ad f c (args++List.replicate (fn.ntmps-args.length) (.av [])) H []=r at h bc
     cases r with
     | normal dB H1 ez=>
       obtain ⟨rfl,gQ,iV,e8⟩:=bc;exact DR hT gh ez a.defers none .returning gQ c5 H1 e8 rfl h
     | ret dB H1 ez=>
       obtain ⟨rfl,gQ,iV,e8⟩:=bc;exact DR hT gh ez a.defers none .returning gQ c5 H1 e8 rfl h
     | aK v dB H1 ez=>
       obtain ⟨chain,rfl,gQ,iV,e8,oO⟩:=bc;exact DR hT gh ez a.defers (some v) (.panicking chain) gQ c5 H1 e8 ⟨chain,rfl,oO⟩ h
     |exit id dB H1 ez=>exact absurd rfl h
     |fail=>exact absurd rfl h
include hT in
theorem Hp: ∀(n f:Nat) (args:List aa) (H:af),e9 E P f args H (X E g ad n f args H):=by
 intro n
 induction n with
 |zero=>intro f args H h;exact absurd rfl h
 |succ n ff=>intro f args H;exact Hm hT ff f args H
end
section
variable (E:Env) (cf:cb) (fid:Nat)
def n6 (r:Option bK) (k:List aa->af->bP):bP:=match r with
 |some (b,a)=>k b a
 |none=> .fail
def iE (ops:Array Oper):List Oper->List bV->List aa->af->ma->bP
 |o::os,d::as,b,a,c=>n6 (fy E cf fid ops o d (b,a)) (λb a=>iE ops os as b a c)
 | [],_,b,a,c=> .normal b a c
 |_,_,_,_,_=> .fail
def rC:bV->Bool
 | .read _=>true
 |_=>false
theorem Ao (ops:Array Oper) (e:List bK): ∀(c:List Oper) (as:List bV) (d:List bK),as.all (λa=> !rC a)=true->kS E ops e c as d=true
 | [],_,_,_=>by simp [kS]
 |_::_,[],_,_=>by simp [kS]
 |_::_,_::_,[],_=>by simp [kS]
 |o::c,a::as,f::d,b=>by simp only [aO,br] at b;simp only [kS,Ao ops e c as d b.2,nR];cases a<;>simp [qR,rC] at b|-
theorem qG (ops:Array Oper): ∀(b:List Oper) (as:List bV) (s:bK) (l:List bK),dY E cf fid ops b as s=some l-> ∃s c,l=s::c
 | [],_,s,l,a=>by simp [dY] at a;grind
 |_::_,[],s,l,a=>by simp [dY] at a
 | o::b,d::as,s,l,a=>by
   simp only [dY] at a
   grind
theorem LF (ops:Array Oper) (ds:ma): ∀(a:List Oper) (as:List bV) (s:bK),
  iE E cf fid ops a as s.1 s.2 ds=n6 (match dY E cf fid ops a as s with|some l=>jq l|none=>none) (λtm H=> .normal tm H ds)
 | [],_,s=>by simp [iE,dY,jq,n6]
 |_::_,[],s=>by simp [iE,dY,n6]
 | o ::a,c::as,s=>by
   simp only [iE,dY];show n6 (fy E cf fid ops o c s) _=_
   cases f:fy E cf fid ops o c s with
   |none=>rfl
   | some b=>
     have:=LF ops ds a as b;simp only [n6];rw [this]
     cases d:dY E cf fid ops a as b with
     |none=>rfl
     | some e=>
       obtain ⟨h,g,rfl⟩:=qG E cf fid ops a as b e d;simp [jq,n6]
theorem Sj (ops:List Oper) (d:e0) (tm H ds) (e:d.dV.all (λa=> !rC a)=true) (f:d.rs= []) (h:d.aK=false):
  hK E cf fid ops.toArray (some d) tm H ds=iE E cf fid ops.toArray ops d.dV tm H ds:=by
 have b:=LF E cf fid ops.toArray ds ops d.dV (tm,H);simp only at b;rw [b];have g:mB E cf fid ops.toArray d tm H ds= .fail:=by unfold mB;rw [h]
 simp only [hK,f,mw,g]
 cases i:dY E cf fid ops.toArray ops d.dV (tm,H) with
 |none=>rfl
 | some c=>
   simp only [Ao E ops.toArray c _ _ c e,n6]
   grind
def qu (dst:Option Nat) (r:bf) (k:AF) (_:Tok k):bP:=match r with
 | .ok c a b=>match cH E fid dst c a with
   |some a=>k a b
   |none=> .fail
 |_=> .fail
theorem G7 (ops:Array Oper) (o:Oper) (b:List Oper) (a:bV) (as:List bV) (tm H ds):
  iE E cf fid ops (o::b) (a::as) tm H ds=nf (cJ ops tm o)
   (λ_=>eH (cZ E o a tm) (λ_=>qu E fid o.dst (evalOp E cf fid o tm H) (λtm H=>iE E cf fid ops b as tm H ds) ⟨⟩) (λ_=> .fail) ⟨⟩ ⟨⟩)
   (λ_=>jy E fid o.dst (.av []) tm (λtm=>iE E cf fid ops b as tm H ds) ⟨⟩) ⟨⟩ ⟨⟩:=by
 rw [iE];unfold fy nf;simp only []
 cases cJ ops tm o with
 |none=>rfl
 | some c=>cases c with
   | false=>
     simp only [fj,jy];cases cH E fid o.dst (.av []) tm<;>rfl
   | true=>
     simp only []
     cases cZ E o a tm with
     |false=>rfl
     | true=>
       simp only [eH,qu]
       cases evalOp E cf fid o tm H with
       | ok e d f=>
         simp only [fm,fj];cases cH E fid o.dst e d<;>rfl
       |aK=>rfl
       |fail=>rfl
end
@[go_sem] theorem afM (E fid dst v tm H k u):qu E fid dst (.ok v tm H) k u=jy E fid dst v tm (λtm=>k tm H) ⟨⟩:=rfl
@[go_sem ↓] theorem ady (E cf fid ops as tm H ds):iE E cf fid ops [] as tm H ds= .normal tm H ds:=by cases as<;>rfl
@[go_sem ↓] theorem adz (E cf fid) (ops:Array Oper) (dst op ty pos after os) (a:bV) (as tm H ds):
  iE E cf fid ops (⟨dst,op,ty,pos,after,none⟩::os) (a::as) tm H ds=
   eH (cZ E ⟨dst,op,ty,pos,after,none⟩ a tm) (λ_=>qu E fid dst (evalOp E cf fid ⟨dst,op,ty,pos,after,none⟩ tm H) (λtm H=>iE E cf fid ops os as tm H ds) ⟨⟩) (λ_=> .fail) ⟨⟩ ⟨⟩:=by
 rw [G7];rfl
@[reducible] def TP:Op->Bool
 | .slice _ _ _ _ _=>true
 |_=>false
@[go_sem ↓] theorem adr (E dst op ty pos after g tm) (a:TP op=false):cZ E ⟨dst,op,ty,pos,after,g⟩ .plain tm=true:=by cases op<;>first|rfl|cases a
@[go_sem ↓] theorem ads (E dst t x l h m ty pos after g tm):cZ E ⟨dst,.slice t x l h m,ty,pos,after,g⟩ .plain tm=(gO E t (B E tm x) (l.map (B E tm)) (h.map (B E tm)) (m.map (B E tm))).isSome:=rfl
@[go_sem ↓] theorem adp (E dst t x ty pos after g k tm):cZ E ⟨dst,.load t x,ty,pos,after,g⟩ (.m k) tm=fh (B E tm x):=rfl
@[go_sem ↓] theorem adq (E dst t x ty pos after g k tm):cZ E ⟨dst,.load t x,ty,pos,after,g⟩ (.read k) tm=fh (B E tm x):=rfl
@[go_sem ↓] theorem ado (E dst t x ty pos after g k tm):cZ E ⟨dst,.load t x,ty,pos,after,g⟩ (.loc k) tm=lS k (B E tm x):=rfl
@[go_sem ↓] theorem adu (E dst t x y ty pos after g k tm):cZ E ⟨dst,.store t x y,ty,pos,after,g⟩ (.loc k) tm=lS k (B E tm x):=rfl
@[go_sem ↓] theorem adt (E dst t x y ty pos after g tm):cZ E ⟨dst,.store t x y,ty,pos,after,g⟩ .heap tm=fh (B E tm x):=rfl
@[go_sem ↓] theorem adn (E dst t x ty pos after g tm):cZ E ⟨dst,.load t x,ty,pos,after,g⟩ .heap tm=fh (B E tm x):=rfl
@[go_sem ↓] theorem adl (E dst c ty pos after g tm):cZ E ⟨dst,.call c,ty,pos,after,g⟩ .heap tm=true:=rfl
@[go_sem ↓] theorem adj (E dst t n) (a:List (Nat×Operand)) (ty pos after g tm):cZ E ⟨dst,.buildSlice t n a.toArray,ty,pos,after,g⟩ .aI tm=(a.map λp=>B E tm p.2).all (D bR):=rfl
@[go_sem] theorem afL (a b c d):fh (.ptr a b c d)=true:=rfl
@[go_sem] theorem afK (a b):fh (.b5 a b)=true:=rfl
@[go_sem] theorem afx (s a b):lS s (.cR s a b)=true:=by simp [lS]
@[go_sem] theorem aeg (k n):D bR (.int k n)=true:=rfl
attribute [go_sem] Nat.add_zero
def EW {β:Type} (l:List β) (i j:Nat) (x:β):(dM l i x)[j]? =if j=i/\i<l.length then some x else l[j]? :=by
 induction l generalizing i j with
 |nil=>simp [dM]
 | cons b l a=>cases i with
   |zero=>cases j<;>simp [dM]
   | succ i=>cases j with
     |zero=>simp [dM]
     |succ j=>simp [dM,a]
theorem iG (H:af) (i j:Nat) (o:Obj) (a:j≠i):(H.set i o).get j=H.get j:=by
 unfold af.set;split
 . next b=>
   unfold af.get;show (if j<H.n then _ else none)=_;split
   . next c=>
     show (dM H.l (H.n-1-i) o)[H.n-1-j]? =_;rw [EW,if_neg ab]
   . rfl
 . rfl
def nJ (H:af) (i:Nat) (o:Obj) (c:(H.get i).isSome=true):(H.set i o).get i=some o:=by
 obtain ⟨d,a⟩:=Option.isSome_iff_exists.1 c;have b:=gW a;unfold af.get at a;rw [if_pos b] at a;unfold af.set;rw [if_pos b];unfold af.get;show (if i<H.n then _ else none)=_;rw [if_pos b];show (dM H.l (H.n-1-i) o)[H.n-1-i]? =_;rw [EW,if_pos ⟨rfl,(e6.1 a).1⟩]
def mS (H:af) (i:Nat) (o:Obj):(H.set i o).n=H.n:=by
 unfold af.set;grind
theorem lq (H:af) (o:Obj):(H.push o).n=H.n+1:=rfl
def TQ (k id a off len:Nat) (c:Bool) (j:Nat):kA k (.ref id a off k len c) (.int .i64 (j:Nat))=if j<len then some (.ptr id a (off+j*k) (off+j*k+k)) else none:=by
 show (if k=k/\j<len then some (aa.ptr id a (off+j*k) (off+j*k+k)) else none)=_;simp
attribute [go_sem] Nat.add_eq_left Nat.left_eq_add Nat.add_left_cancel_iff TQ Nat.zero_add Nat.mul_one nJ iG mS lq ne_eq not_false_eq_true Option.isSome_some List.length_map List.length_set
@[go_sem] theorem ac1 (E t1 t2 x y tm H):hy E .append [t1,t2] [x,y] tm H=ha (cI E t1 t2 x y H) tm:=rfl
@[go_sem] theorem bH (v H tm):ha (some (v,H)) tm= .ok v tm H:=rfl
@[go_sem] theorem ahp (a b x y):cB [a,b] 0 [x,y]=some [x,y]:=rfl
@[go_sem] theorem ahq (a b c x y z):cB [a,b,c] 0 [x,y,z]=some [x,y,z]:=rfl
@[go_sem] theorem ahr (a b c d x y z w):cB [a,b,c,d] 0 [x,y,z,w]=some [x,y,z,w]:=rfl
@[go_sem] theorem builtin_copy (E t1 t2 x y tm H):hy E .copy [t1,t2] [x,y] tm H=ha (sV E t1 x y H) tm:=rfl
@[go_sem] theorem adk (E dst b) (as:List Operand) (c:List Nat) (ty pos after g tm):cZ E ⟨dst,.call ⟨.builtin b,as.toArray,c.toArray⟩,ty,pos,after,g⟩ .heap tm=true:=rfl
section
variable (E:Env) (cf:cb) (fid:Nat)
def oh (o:Oper) (tm:List aa) (H:af) (c:List af):List Nat->Bool
 | []=>true
 | k::ks=>match c[k]? with
   |some ag=>f_ (gn E o tm ag) (gn E o tm H)&&oh o tm H c ks
   |none=>false
theorem Fq (o tm H) (c:List bK): ∀ks,qQ E o tm H c ks=oh E o tm H (c.map (·.2)) ks
 | []=>rfl
 | k::ks=>by
   simp only [qQ,oh,hO]
   cases c[k]? with
   |none=>rfl
   |some d=>simp only [jV,Fq o tm H c ks]
structure uK where
  o:Oper
  ks:List Nat
  tm:List aa
  H:af
def je (d:List af) (l:List uK):Bool:=match l with
 | []=>true
 |c::l=>oh E c.o c.tm c.H d c.ks&&je d l
def jI (o:Oper) (a:bV) (tm:List aa) (H:af) (l:List uK):List uK:=match a with
 | .read c=>l++ [⟨o,c,tm,H⟩]
 |_=>l
def hE (ops:Array Oper):List Oper->List bV->List af->List uK->List aa->af->ma->bP
 |o::os,a::as,f,g,d,c,e=>n6 (fy E cf fid ops o a (d,c)) (λi h=>hE ops os as (f++ [c]) (jI o a d c g) i h e)
 | [],_,f,g,d,c,e=>eH (je E (f++ [c]) g) (λ_=> .normal d c e) (λ_=> .fail) ⟨⟩ ⟨⟩
 |_,_,_,_,_,_,_=> .fail
theorem PX (bB l m):je E bB (l++m)=(je E bB l&&je E bB m):=by
 induction l with
 |nil=>simp [je]
 |cons d l c=>simp [je,c,anz]
theorem abX (ops:Array Oper) (o:Oper) (a:bV) (tm H) (c:List bK) (ag:je E (c.map (·.2)) (jI o a tm H [])=true):qR E ops o a (tm,H) c=true:=by
 cases a with
 | read d=>
   simp only [jI,a6,je,nR] at ag;simp only [qR];split
   . split
     . split
       . rw [Fq];exact ag
       . rfl
     . rw [Fq];exact ag
   . rfl
 |_=>rfl
theorem N7 (o a tm H l):jI o a tm H l=l++jI o a tm H []:=by cases a<;>simp [jI]
theorem LH (ops:Array Oper) (ds:ma): ∀(d:List Oper) (as:List bV) (s:bK) (pre:List bK) (l:List uK) (L:List aa) (H':af),
  hE E cf fid ops d as (pre.map (·.2)) l s.1 s.2 ds= .normal L H' ds->
   ∃c,dY E cf fid ops d as s=some c/\jq c=some (L,H')/\kS E ops (pre++c) d as c=true/\je E ((pre++c).map (·.2)) l=true
 | [],as,s,pre,l,L,H',ag=>by
   simp only [hE] at ag
   cases h:je E (pre.map (·.2)++ [s.2]) l with
   |false=>rw [h] at ag;cases ag
   | true=>
     rw [h] at ag;cases ag;refine ⟨[s],?_,?_,?_,?_⟩
     . simp [dY]
     . simp [jq]
     . simp [kS]
     grind
 |_::_,[],s,pre,l,L,H',ag=>by simp [hE] at ag
 | o ::d,a::as,s,pre,l,L,H',ag=>by
   simp only [hE] at ag
   cases g:fy E cf fid ops o a (s.1,s.2) with
   |none=>rw [g] at ag;cases ag
   | some i=>
     rw [g] at ag;simp only [n6] at ag;have j:pre.map (·.2)++ [s.2]=(pre++ [s]).map (·.2):=ai;rw [j] at ag;obtain ⟨c,m,p,f,e⟩:=LH ops ds d as i (pre++ [s]) _ L H' ag;rw [N7,PX,br] at e;have q:pre++ [s]++c=pre++s::c:=ai;rw [q] at f e;refine ⟨s::c,?_,?_,?_,e.1⟩
     . simp only [dY]
       grind
     . obtain ⟨u,r,rfl⟩:=qG E cf fid ops d as i c m;simp only [jq];exact p
     . simp only [kS,f,nR];exact abX E ops o a s.1 s.2 _ e.2
theorem Sk (ops:List Oper) (d:e0) (tm H ds L H') (g:d.rs= []) (ag:hE E cf fid ops.toArray ops d.dV [] [] tm H ds= .normal L H' ds):
  hK E cf fid ops.toArray (some d) tm H ds= .normal L H' ds:=by
 obtain ⟨h,e,f,c,-⟩:=LH E cf fid ops.toArray ds ops d.dV (tm,H) [] [] L H' ag;simp only [a6] at c;simp only [hK,g,mw,e,c,f]
end
def yh:= @hK
def B8 (r:bP) (x:bP):bP:=match r with
 | .normal e c d=> .normal e c d
 |_=>x
@[go_sem] theorem aen (tm H ds x):B8 (.normal tm H ds) x= .normal tm H ds:=rfl
def ND (E cf fid ops): ∀e as d l tm H ds L H' c,hE E cf fid ops e as d l tm H ds= .normal L H' c->c=ds
 | [],as,d,l,tm,H,ds,L,H',c,ag=>by
   simp only [hE] at ag
   cases g:je E (d++ [H]) l with
   |false=>rw [g] at ag;cases ag
   |true=>rw [g] at ag;cases ag;rfl
 |_::_,[],_,_,_,_,_,_,_,_,ag=>by simp [hE] at ag
 | o::e,a::as,d,l,tm,H,ds,L,H',c,ag=>by
   simp only [hE] at ag
   cases f:fy E cf fid ops o a (tm,H) with
   |none=>rw [f] at ag;cases ag
   |some h=>rw [f] at ag;exact ND E cf fid ops e as _ _ _ _ _ _ _ _ ag
theorem Sh (E cf fid) (ops:List Oper) (d:e0) (tm H ds) (g:d.rs= []):
  hK E cf fid ops.toArray (some d) tm H ds=B8 (hE E cf fid ops.toArray ops d.dV [] [] tm H ds) (yh E cf fid ops.toArray (some d) tm H ds):=by
 generalize c:hE E cf fid ops.toArray ops d.dV [] [] tm H ds=h
 cases h with
 | normal i e f=>
   have:=ND _ _ _ _ _ _ _ _ _ _ _ _ _ _ c;subst this;exact Sk E cf fid ops d tm H f i e g c
 |_=>rfl
@[go_sem ↓] theorem ahx (E cf fid ops as bB l tm H ds):hE E cf fid ops [] as bB l tm H ds=eH (je E (bB++ [H]) l) (λ_=> .normal tm H ds) (λ_=> .fail) ⟨⟩ ⟨⟩:=by cases as<;>rfl
theorem abZ (E:Env) (cf fid) (ops:Array Oper) (o:Oper) (os) (a:bV) (as bB l tm H ds):
  hE E cf fid ops (o::os) (a::as) bB l tm H ds=nf (cJ ops tm o)
   (λ_=>eH (cZ E o a tm) (λ_=>qu E fid o.dst (evalOp E cf fid o tm H) (λL H'=>hE E cf fid ops os as (bB++ [H]) (jI o a tm H l) L H' ds) ⟨⟩) (λ_=> .fail) ⟨⟩ ⟨⟩)
   (λ_=>jy E fid o.dst (.av []) tm (λL=>hE E cf fid ops os as (bB++ [H]) (jI o a tm H l) L H ds) ⟨⟩) ⟨⟩ ⟨⟩:=by
 rw [hE];unfold fy nf;simp only []
 cases cJ ops tm o with
 |none=>rfl
 | some b=>cases b with
   | false=>
     simp only [fj,jy];cases cH E fid o.dst (.av []) tm<;>rfl
   | true=>
     simp only []
     cases cZ E o a tm with
     |false=>rfl
     | true=>
       simp only [eH,qu]
       cases evalOp E cf fid o tm H with
       | ok c L H'=>
         simp only [fm,fj];cases cH E fid o.dst c L<;>rfl
       |aK=>rfl
       |fail=>rfl
@[go_sem ↓] theorem ahy (E:Env) (cf fid) (ops:Array Oper) (dst op ty pos after os) (a:bV) (as bB l tm H ds):
  hE E cf fid ops (⟨dst,op,ty,pos,after,none⟩::os) (a::as) bB l tm H ds=
   eH (cZ E ⟨dst,op,ty,pos,after,none⟩ a tm) (λ_=>qu E fid dst (evalOp E cf fid ⟨dst,op,ty,pos,after,none⟩ tm H) (λL H'=>hE E cf fid ops os as (bB++ [H]) (jI ⟨dst,op,ty,pos,after,none⟩ a tm H l) L H' ds) ⟨⟩) (λ_=> .fail) ⟨⟩ ⟨⟩:=by
 rw [abZ];rfl
@[go_sem] theorem acx (o ks tm H l):jI o (.read ks) tm H l=l++ [⟨o,ks,tm,H⟩]:=rfl
@[go_sem] theorem acv (o tm H l):jI o .plain tm H l=l:=rfl
@[go_sem] theorem acr (o tm H l):jI o .aI tm H l=l:=rfl
@[go_sem] theorem acu (o s tm H l):jI o (.loc s) tm H l=l:=rfl
@[go_sem] theorem acs (o tm H l):jI o .heap tm H l=l:=rfl
@[go_sem] theorem acw (o k tm H l):jI o (.m k) tm H l=l:=rfl
@[go_sem] theorem adi (E bB):je E bB []=true:=rfl
@[go_sem] theorem adh (E bB c l):je E bB (c::l)=(oh E c.o c.tm c.H bB c.ks&&je E bB l):=rfl
@[go_sem] theorem ahv (E o tm H bB):oh E o tm H bB []=true:=rfl
def Fp (E:Env) (o:Oper) (tm:List aa) (H:af) (c:List af) (ks:List Nat):Option af->Bool
 |some ag=>f_ (gn E o tm ag) (gn E o tm H)&&oh E o tm H c ks
 |none=>false
@[go_sem] theorem ahu (E o tm H bB k ks):oh E o tm H bB (k::ks)=Fp E o tm H bB ks bB[k]? :=by unfold Fp;rw [oh]
@[go_sem] theorem ahw (E o tm H bB ks ag):Fp E o tm H bB ks (some ag)=(f_ (gn E o tm ag) (gn E o tm H)&&oh E o tm H bB ks):=rfl
@[go_sem] theorem agV (E dst t x ty pos after g tm H):gn E ⟨dst,.load t x,ty,pos,after,g⟩ tm H=dW E t (B E tm x) tm H:=rfl
@[go_sem] theorem aha:f_ (some .V) (some .V)=true:=rfl
section
variable (E:Env) (cf:cb) (fid:Nat)
def rT (d:Bool) (dst:Option Nat) (e:List aa) (r:bf) (ds:ma) (k:AF) (_:Tok k):bP:=match r with
 | .ok c b a=>(match cH E fid dst c b with
   |some b=>k b a
   |none=> .fail)
 | .aK c a=>(match d with
   |true=> .aK c e a ds
   |false=> .fail)
 | .fail=> .fail
def h0 (ops:Array Oper):List Oper->List bV->List aa->af->ma->bP
 | [],_,a,b,c=> .normal a b c
 | o ::os,d::as,a,b,c=>(match cJ ops a o with
   | some true=>(match cZ E o d a with
     |true=>rT E fid os.isEmpty o.dst a (evalOp E cf fid o a b) c (λa b=>h0 ops os as a b c) ⟨⟩
     |false=> .fail)
   | some false=>(match cH E fid o.dst (.av []) a with
     |some a=>h0 ops os as a b c
     |none=> .fail)
   |none=> .fail)
 |_,_,_,_,_=> .fail
theorem QD (ops:Array Oper) (o:Oper) (b:List Oper) (a:bV) (as:List bV) (tm H ds):
  h0 E cf fid ops (o::b) (a::as) tm H ds=nf (cJ ops tm o)
   (λ_=>eH (cZ E o a tm) (λ_=>rT E fid b.isEmpty o.dst tm (evalOp E cf fid o tm H) ds (λtm H=>h0 E cf fid ops b as tm H ds) ⟨⟩) (λ_=> .fail) ⟨⟩ ⟨⟩)
   (λ_=>jy E fid o.dst (.av []) tm (λtm=>h0 E cf fid ops b as tm H ds) ⟨⟩) ⟨⟩ ⟨⟩:=by
 rw [h0];unfold nf
 cases cJ ops tm o with
 |none=>rfl
 | some c=>cases c with
   |false=>simp only [jy];grind
   |true=>simp only [];cases cZ E o a tm<;>rfl
theorem G6 (ops:Array Oper) (ds:ma): ∀(c:List Oper) (as:List bV) (s:bK),c.length=as.length->
  (∀L H' b,h0 E cf fid ops c as s.1 s.2 ds= .normal L H' b->b=ds/\ ∃d,dY E cf fid ops c as s=some d/\jq d=some (L,H'))/\
  (∀v L H' b,h0 E cf fid ops c as s.1 s.2 ds= .aK v L H' b->b=ds/\dY E cf fid ops c as s=none/\ ∃j o h d,c=j++ [o]/\dY E cf fid ops j as.dropLast s=some d/\jq d=some (L,h)/\
   cJ ops L o=some true/\evalOp E cf fid o L h= .aK v H')/\
  (∀i L H' b,h0 E cf fid ops c as s.1 s.2 ds≠ .exit i L H' b)/\(∀L H' b,h0 E cf fid ops c as s.1 s.2 ds≠ .ret L H' b)
 | [],as,s,_=>by simp only [h0];refine ⟨λL H' b a=> ?_,ai,ai,ai⟩;cases a;exact ⟨rfl,[s],rfl,rfl⟩
 |o::c,[],s,a=>by cases a
 | o :: c, G ::as,s,M=>by
   have D:=λs=>G6 ops ds c as s ah;simp only [h0,dY,fy]
   cases y:cJ ops s.1 o with
   |none=>exact ⟨ai,ai,ai,ai⟩
   | some I => cases I with
     | false =>
       simp only [fj]
       cases x:cH E fid o.dst (.av []) s.1 with
       |none=>simp
       | some A=>
         obtain ⟨l,m,n,p⟩:=D (A,s.2);simp only at l m n p|-;refine ⟨λL H' b a=> ?_,λv L H' b a=> ?_,n,p⟩
         . obtain ⟨f,d,e,g⟩:=l L H' b a;obtain ⟨r,q,rfl⟩:=qG E cf fid ops c as _ _ e;exact ⟨f,s::r::q,by rw [e],g⟩
         . obtain ⟨f,e,j,z,h,d,g,k,t,u,w⟩:=m v L H' b a;subst g;refine ⟨f,by rw [e],o::j,z,h,s::d,rfl,?_,?_,u,w⟩
           . cases as with
             |nil=>grind
             | cons H as=>
               simp only [List.dropLast_cons_cons,dY,fy,y,fj,x,k]
           . obtain ⟨r,q,rfl⟩:=qG E cf fid ops _ _ _ _ k;exact t
     | true=>
       simp only []
       cases J:cZ E o G s.1 with
       |false=>simp
       | true=>
         simp only []
         cases C:evalOp E cf fid o s.1 s.2 with
         |fail=>exact ⟨λ_ _ _ a=>(by cases a),λ_ _ _ _ a=>(by cases a),λ_ _ _ _ a=>(by cases a),λ_ _ _ a=>(by cases a)⟩
         | aK F B=>
           simp only [rT,fm]
           cases c with
           | nil=>
             refine ⟨ai,λv L H' b a=> ?_,ai,ai⟩;simp only [List.isEmpty_nil] at a;cases a;refine ⟨rfl,trivial,[],o,s.2,[s],rfl,?_,rfl,y,C⟩;simp [dY]
           |cons N c=>simp
         | ok F K B=>
           simp only [rT,fm,fj]
           cases x:cH E fid o.dst F K with
           |none=>simp
           | some A=>
             obtain ⟨l,m,n,p⟩:=D (A,B);simp only at l m n p|-;refine ⟨λL H' b a=> ?_,λv L H' b a=> ?_,n,p⟩
             . obtain ⟨f,d,e,g⟩:=l L H' b a;obtain ⟨r,q,rfl⟩:=qG E cf fid ops c as _ _ e;exact ⟨f,s::r::q,by rw [e],g⟩
             . obtain ⟨f,e,j,z,h,d,g,k,t,u,w⟩:=m v L H' b a;subst g;refine ⟨f,by rw [e],o::j,z,h,s::d,rfl,?_,?_,u,w⟩
               . cases as with
                 |nil=>grind
                 | cons H as=>
                   simp only [List.dropLast_cons_cons,dY,fy,y,J,C,fm,fj,x,k]
               . obtain ⟨r,q,rfl⟩:=qG E cf fid ops _ _ _ _ k;exact t
def yd (ops:List Oper):Bool:=ops.all λb=>match b.guard with
 |some (a,_)=>Nat.blt a (ops.length-1)
 |none=>true
theorem LG (ops:List Oper) (o:Oper) (m:yd (ops++ [o])=true): ∀(b:List Oper) (as:List bV) (s:bK) (f:List bK),(∀x∈b,x∈ops)->b.length=as.length->dY E cf fid (ops++ [o]).toArray b as s=some f->
  ∀c,jq f=some c-> ∃j,dY E cf fid (ir (ops++ [o]).toArray o) (b++ [r1 o]) (as++ [.plain]) s=some j/\jq j=some c
 | [],[],s,f,_,_,a,c,d=>by simp only [dY] at a;cases a;simp only [jq] at d;cases d;refine ⟨[s,s],?_,rfl⟩;simp only [a6,dY,fy,cJ,r1,cZ,evalOp,bb,dn,fm,fj,cH]
 | x ::b,g::as,s,f,B,e,a,c,d=>by
   have u:cJ (ir (ops++ [o]).toArray o) s.1 x=cJ (ops++ [o]).toArray s.1 x:=by
    have v:=ba.1 m x ah;unfold cJ
    cases r:x.guard with
    |none=>rfl
    | some q=>
      obtain ⟨i,F⟩:=q;rw [r] at v;have A:i<ops.length:=de;have z:(ir (ops++ [o]).toArray o)[i]? =(ops++ [o]).toArray[i]? :=by
       simp only [ir,vL,Array.size_pop,Array.getElem?_pop]
       grind
      grind
   simp only [dY] at a;have t:fy E cf fid (ir (ops++ [o]).toArray o) x g s=fy E cf fid (ops++ [o]).toArray x g s:=by simp only [fy,u]
   cases l:fy E cf fid (ops++ [o]).toArray x g s with
   |none=>grind
   | some n=>
     rw [l] at a;simp only at a
     cases h:dY E cf fid (ops++ [o]).toArray b as n with
     |none=>grind
     | some D=>
       rw [h] at a;simp only [N] at a;subst a;obtain ⟨G,C,rfl⟩:=qG E cf fid _ b as _ _ h;obtain ⟨j,k,p⟩:=LG ops o m b as n _ ah ah h c d;obtain ⟨y,w,rfl⟩:=qG E cf fid _ _ _ _ _ k;exact ⟨s::y::w,by simp only [bl,dY,t,l,k],p⟩
 | [],_::_,_,_,_,e,_,_,_=>by cases e
 |_::_,[],_,_,_,e,_,_,_=>by cases e
def pX (r:bP) (x:bP):bP:=match r with
 | .normal c a b=> .normal c a b
 | .aK d c a b=> .aK d c a b
 |_=>x
theorem Si (ops:List Oper) (d:e0) (tm H ds) (l:d.dV.all (λa=> !rC a)=true) (m:d.rs= []) (q:d.aK=true) (r:Nat.beq ops.length d.dV.length=true) (s:yd ops=true):
  hK E cf fid ops.toArray (some d) tm H ds=pX (h0 E cf fid ops.toArray ops d.dV tm H ds) (yh E cf fid ops.toArray (some d) tm H ds):=by
 have u:=gk r;obtain ⟨x,y,J,K⟩:=G6 E cf fid ops.toArray ds ops d.dV (tm,H) u
 cases n:h0 E cf fid ops.toArray ops d.dV tm H ds with
 | normal g e f=>
   obtain ⟨rfl,h,i,j⟩:=x g e f n;simp only [hK,m,mw,i,Ao E ops.toArray h _ _ h l,j,pX]
 | aK z g e f=>
   obtain ⟨rfl,i,c,b,A,h,rfl,j,p,B,C⟩:=y z g e f n;have D:d.dV≠ []:=ah;obtain ⟨o,w,I⟩:=LG E cf fid c b s c d.dV.dropLast (tm,H) h ai ah j _ p;have t:(c++ [b]).toArray.back? =some b:=ai;have v:(ir (c++ [b]).toArray b).toList=c++ [r1 b]:=by simp [ir]
   have k:(ub d).dV.all (λa=> !rC a)=true:=by simp only [ub,rE,br];refine ⟨ba.2 λa k=>ba.1 l a ((List.dropLast_sublist _).subset k),rfl⟩
   simp only [hK,m,mw,i,mB,q,t,v,pX];rw [show (ub d).dV=d.dV.dropLast++ [.plain] from rfl,w];have F:=Ao E (ir (c++ [b]).toArray b) o (c++ [r1 b]) (d.dV.dropLast++ [.plain]) o k
   grind
 |exit G g e f=>grind
 |ret g e f=>grind
 |fail=>rfl
end
@[go_sem] theorem aep (tm H ds x):pX (.normal tm H ds) x= .normal tm H ds:=rfl
@[go_sem] theorem aeq (v tm H ds x):pX (.aK v tm H ds) x= .aK v tm H ds:=rfl
@[go_sem] theorem afN (E fid l dst uy v tm H ds k u):rT E fid l dst uy (.ok v tm H) ds k u=jy E fid dst v tm (λtm=>k tm H) ⟨⟩:=rfl
@[go_sem] theorem afO (E fid dst uy v H ds k u):rT E fid true dst uy (.aK v H) ds k u= .aK v uy H ds:=rfl
@[go_sem ↓] theorem adw (E cf fid ops as tm H ds):h0 E cf fid ops [] as tm H ds= .normal tm H ds:=by cases as<;>rfl
@[go_sem ↓] theorem adx (E cf fid) (ops:Array Oper) (dst op ty pos after os) (a:bV) (as tm H ds):
  h0 E cf fid ops (⟨dst,op,ty,pos,after,none⟩::os) (a::as) tm H ds=
   eH (cZ E ⟨dst,op,ty,pos,after,none⟩ a tm) (λ_=>rT E fid os.isEmpty dst tm (evalOp E cf fid ⟨dst,op,ty,pos,after,none⟩ tm H) ds (λtm H=>h0 E cf fid ops os as tm H ds) ⟨⟩) (λ_=> .fail) ⟨⟩ ⟨⟩:=by
 rw [QD];rfl
attribute [go_sem] List.isEmpty_nil List.isEmpty_cons
def yc (n:Nat) (l:List Oper):Bool:=l.all λb=>match b.guard with
 |some (a,_)=>Nat.blt a n
 |none=>true
@[go_sem] theorem aej (l:List Oper):yd l=yc (l.length-1) l:=Eq.trans rfl rfl
@[go_sem ↓] theorem aeh (n):yc n []=true:=Eq.trans rfl rfl
@[go_sem ↓] theorem aei (n dst op ty pos after os):yc n (⟨dst,op,ty,pos,after,none⟩::os)=yc n os:=Eq.trans rfl rfl
@[congr] theorem aeo {r a x:bP} (b:r=a):pX r x=pX a x:=by rw [b]
def bY (n:Nat) (a:0<n:=by omega): ∃m,n=m+1:=⟨n-1,ab⟩
def bA {α:Type} {l:List α} {j:Nat} (a:j<l.length): ∃r,l[j]? =some r:=⟨l[j],by simp [a]⟩
def U (H H':af):Prop:= ∃a,H'=⟨H.n+a.length,a++H.l⟩
def U.refl (H:af):U H H:=⟨[],rfl⟩
def U.push {A B:af} (a:U A B) (o:Obj):U A (B.push o):=by
 obtain ⟨b,rfl⟩:=a;exact ⟨o::b,by simp [af.push,rJ]⟩
def U.trans {A B C:af} (a:U A B) (g:U B C):U A C:=by
 obtain ⟨b,rfl⟩:=a;obtain ⟨c,rfl⟩:=g;exact ⟨c++b,ah⟩
def Z (H:af):Prop:=H.l.length=H.n/\ ∀a∈H.l,gL H.n a=true
def gV {H H':af} {v:aa} (f:Z H) (c:U H H') (e:y H.n 20 v=true):gc H.n v H'=H:=by
 obtain ⟨a,rfl⟩:=c;unfold gc;have b:H.n+a.length-H.n=a.length:=ab;simp only [b,vN];split
 . rename_i d;have:a.length=0:=by have:=er d;omega
   simp_all
 . rw [if_pos (by rw [e,ba.2 f.2];rfl)]
def kz {n m:Nat} (a:n<=m): ∀(d:Nat) (v:aa),y n d v=true->y m d v=true:=by
 intro d
 induction d with
 |zero=>intro v a;cases a
 | succ d f=>
   intro v b;have g: ∀c:List aa,c.all (y n d)=true->c.all (y m d)=true:=ah;have h: ∀id,Nat.blt id n=true->Nat.blt id m=true:=λid e=>by have:=er e;exact h_ ab
   cases v<;>simp only [y] at b|- <;>first
    |grind
    |grind
    |grind
    |grind
    |exact b
def Ee {n m:Nat} (b:n<=m) (o:Obj) (c:gL n o=true):gL m o=true:=by
 have g: ∀a:List aa,a.all (y n 20)=true->a.all (y m 20)=true:=λa e=>
  ba.2 λd f=>kz b 20 d ah
 cases o<;>simp only [gL] at c|- <;>first
  |grind
  |grind
def Z.push {H:af} (b:Z H) {o:Obj} (c:gL (H.n+1) o=true):Z (H.push o):=by
 refine ⟨by simp [af.push,b.1],λd a=> ?_⟩;rcases b2.1 a with rfl|a
 . exact c
 . exact Ee (mN _) _ (b.2 d a)
def wg {f:aa->af->Option (aa×af)} (H:af): ∀l:List aa,(∀x∈l,f x H=some (x,H))->cD f l H=some (l,H)
 | [],_=>rfl
 |x::l,a=>by rw [cD,a x (dF ..)];simp only [wg H l λc b=>a c (h8 _ b)]
def fi (H:af): ∀(d:Nat) (v:aa),D d v=true->aZ d v H=some (v,H):=by
 intro d
 induction d with
 |zero=>intro v e;cases e
 | succ d f=>
   intro v a;have c: ∀b:List aa,b.all (D d)=true->cD (aZ d) b H=some (b,H):=λb g=>wg H b ah;cases v<;>simp only [D] at a<;>first
    |(cases a;done)
    |rfl
    |(simp only [aZ,c _ a,bu])
    |(simp only [aZ,f _ a,dn])
    |(simp only [br] at a;simp only [aZ,c _ a.1,c _ a.2,bu])
def fR (n:Nat): ∀(d e:Nat) (v:aa),d<=e->D d v=true->y n e v=true:=by
 intro d
 induction d with
 |zero=>intro e v _ c;cases c
 | succ d h=>
   intro e v g f;obtain ⟨e,rfl⟩: ∃b,e=b+1:=⟨e-1,ab⟩;have i: ∀a:List aa,a.all (D d)=true->a.all (y n e)=true:=ah;cases v<;>simp only [D] at f<;>simp only [y]<;>first
    |grind
    |grind
    |grind
    |grind
def fr: ∀(d e:Nat) (v:aa),d<=e->D d v=true->D e v=true:=by
 intro d
 induction d with
 |zero=>intro e v _ c;cases c
 | succ d h=>
   intro e v g f;obtain ⟨e,rfl⟩: ∃b,e=b+1:=⟨e-1,ab⟩;have i: ∀a:List aa,a.all (D d)=true->a.all (D e)=true:=ah;cases v<;>simp only [D] at f|- <;>first
    |grind
    |grind
    |grind
    |grind
section
variable (E:Env) (R:bU)
def C (f:Nat) (args:List aa) (v:aa):Prop:=bo λc d=> ∀a b,Z a->az E (X E R c d) f args a b= .ok v b a
end
def e (v:aa) (H:af) (r:cY):Prop:= ∃c a b,r= .ret c a/\aZ bR c a=some (v,b)/\gc H.n v b=H
def q3 (v:aa) (H:af) (r:cY):Prop:= ∃c a b,r= .aK c a/\aZ bR c a=some (v,b)/\gc H.n v b=H
def e.mk {v:aa} {H H':af} (a:D 20 v=true) (c:Z H) (b:U H H'):e v H (.ret v H'):=
 ⟨v,H',H',rfl,fi H' _ v (fr 20 bR v al a),gV c b (fR _ 20 20 v al a)⟩
def q3.mk {v:aa} {H H':af} (a:D 20 v=true) (c:Z H) (b:U H H'):q3 v H (.aK v H'):=
 ⟨v,H',H',rfl,fi H' _ v (fr 20 bR v al a),gV c b (fR _ 20 20 v al a)⟩
section
variable {E:Env} {R:bU}
theorem C.mk {f m:Nat} {args:List aa} {v:aa} {fn:Func} {c:Code} (q:E.cL f=none) (l:E.fns f=some fn) (j:fn.body=some c) (p:fn.ntmps=args.length+m) (i:args.all aD=true)
  (r:E.pure f=false) (o:E.bS f=false) (k:Nat)
  (a: ∀ad n,k<=ad->k<=n-> ∀H,Z H->e v H (finish E (X E R ad n) R ad fn (evalCode E (X E R ad n) R ad f c (args++List.replicate m (.av [])) H []))):C E R f args v:=by
 refine ⟨k+1,λad n x y H t h=> ?_⟩;obtain ⟨n,rfl⟩: ∃s,n=s+1:=⟨n-1,ab⟩;obtain ⟨z,u,w,b,d,g⟩:=a ad n ab ab H h;rw [jL E _ f args H t r i,lN E R ad n f m args H fn c q l j p,b];simp only [hV,o,d,g];rfl
theorem C.all {α:Type} {l:List α} {f:Nat} {g:α->List aa} {v:α->aa} (a: ∀x∈l,C E R f (g x) (v x)):
  bo λad n=> ∀x∈l,∀H tm,Z H->az E (X E R ad n) f (g x) H tm= .ok (v x) tm H:=by
 induction l with
 |nil=>exact ⟨0,ai⟩
 | cons c l d=>
   obtain ⟨e,i⟩:=a c (dF ..);obtain ⟨h,j⟩:=d λx b=>a x (h8 _ b);refine ⟨e+h,λad n k m x b=> ?_⟩
   grind
end
@[reducible] def aM (L:Nat):List (Nat×aa)->List aa->Prop
 | [],a=>a.length=L
 |(b,c)::l,a=>M a b=c/\aM L l a
attribute [go_sem] aM
def aM.len {L:Nat} {tm:List aa}: ∀ {l:List (Nat×aa)},aM L l tm->tm.length=L
 | [],a=>a
 |_::_,a=>aM.len a.2
def aM.set {L k:Nat} {v:aa} {tm:List aa}: ∀ {l:List (Nat×aa)},(l.all λp=> !Nat.beq p.1 k)=true->aM L l tm->aM L l (r tm k v)
 | [],_,a=>by show (r tm k v).length=L;rw [JV];exact a
 | (c,d)::l,b,a=>by
   simp only [aO,br] at b;refine ⟨?_,aM.set b.2 a.2⟩;rw [vn,if_neg]
   . exact a.1
   . rintro ⟨rfl,-⟩
     simp_all
def aM.same {L k:Nat} {v:aa} {tm:List aa} {l:List (Nat×aa)} (b:(l.all λp=> !Nat.beq p.1 k)=true) (c:k<L) (a:aM L l tm):aM L ((k,v)::l) (r tm k v):=
 ⟨by rw [vn,if_pos ⟨rfl,by rw [a.len];omega⟩],a.set b⟩
structure q0 (σ:Type) where
  ee:σ->List (Nat×aa)
  bc:σ->af
  P:Nat->σ->Prop
  L:Nat
  N:Nat
  i:Nat
  n:Nat
  Q:bP->Prop
def au {σ:Type} (S:q0 σ) (_:Tok S) (j:Nat) (R:bP):Prop:=
 (∃a b,R= .normal b (S.bc a) []/\S.P (j+1) a/\aM S.L ((S.i,.int .i64 j)::(S.n,.int .i64 S.N)::S.ee a) b)\/(ts R=false/\S.Q R)
theorem au.aE {σ:Type} {S:q0 σ} {t j b x y d w} (a:b=true->au S t j (x ())) (c:b=false->au S t j (y ())):au S t j (eH b x y d w):=by
 cases b with
 |true=>exact a rfl
 |false=>exact c rfl
def au.next {σ:Type} {S:q0 σ} {t j tm H} (s:σ) (a:H=S.bc s) (b:S.P (j+1) s) (hF:aM S.L ((S.i,.int .i64 j)::(S.n,.int .i64 S.N)::S.ee s) tm):au S t j (.normal tm H []):=
 .inl ⟨s,tm,by rw [a],b,hF⟩
def au.stop {σ:Type} {S:q0 σ} {t j R} (a:ts R=false) (b:S.Q R):au S t j R:= .inr ⟨a,b⟩
section
variable (E:Env) (cf:cb) (bk:bU) (fid:Nat)
theorem hz {σ:Type} (a:σ->List (Nat×aa)) (d:σ->af) (P:Nat->σ->Prop) (L N:Nat) {Q:bP->Prop}
  {aq ar aw ax G ay az aA k v c t i n:Nat} {al an ao:String} {J K O:Array Edge} {y:Code} {ad:Nat} {tm:List aa} {H:af}
  (s:σ)
  (D:(E.loc fid c||(E.loc fid t||E.loc fid i))=false)
  (B:(Nat.blt c L&&Nat.blt t L&&Nat.blt i L&& !Nat.beq i c&& !Nat.beq n c&& !Nat.beq i t&& !Nat.beq n t&& !Nat.beq n i&& !Nat.beq i n)=true)
  (aJ: ∀s,((a s).all λp=> !Nat.beq p.1 c&&(!Nat.beq p.1 t&& !Nat.beq p.1 i))=true)
  (X:H=d s) (u:P 0 s) (hF:aM L ((i,.int .i64 0)::(n,.int .i64 N)::a s) tm) (hlf:N<ad) (hN:N<4611686018427387904)
  (av: ∀j s tm,j<N->P j s->aM L ((i,.int .i64 j)::(n,.int .i64 N)::a s) tm->au ⟨a,d,P,L,N,i,n,Q⟩ ⟨⟩ j (gU v (evalCode E cf bk ad fid y tm (d s) [])))
  (done: ∀s tm,P N s->aM L (a s) tm->Q (.exit k tm (d s) [])):
  ∀ h,a1 E cf bk ad fid (.seq (.region aq #[⟨some c,.binOp .lss aw (.tmp i) (.tmp n) ax,ay,al,J,none⟩] false)
    (.seq (.cond (.tmp c) .skip (.exit k)) (.seq (.block v y) (.region ar #[⟨some t,.binOp .add G (.tmp i) (.const (.int .i64 1)) G,az,an,K,none⟩,⟨some i,.move (.tmp t),aA,ao,O,none⟩] false)))) ad tm H []=h->Q h:=by
 rintro h rfl;subst X;simp only [br,oV,Bool.or_eq_false_iff] at B D;obtain ⟨ae,ag,aj⟩:=D;obtain ⟨⟨⟨⟨⟨⟨⟨⟨l,m⟩,o⟩,aB⟩,aC⟩,aD⟩,aE⟩,aF⟩,aG⟩:=B;have l:c<L:=er l;have m:t<L:=er m;have o:i<L:=er o;have aK: ∀s,((a s).all λp=> !Nat.beq p.1 c)=true:=ah;have aL: ∀s,((a s).all λp=> !Nat.beq p.1 t)=true:=ah;have aN: ∀s,((a s).all λp=> !Nat.beq p.1 i)=true:=ah;refine J3 _ Q (λj tm H=> ∃s,P j s/\H=d s/\aM L ((i,.int .i64 j)::(n,.int .i64 N)::a s) tm) N ?_ ad 0 _ _ ab ab ah;rintro j tm H aI ⟨s,u,rfl,hF⟩;have T:M tm i= .int .i64 j:=hF.1;have U:M tm n= .int .i64 N:=hF.2.1;have A: ∀e,aM L ((i,.int .i64 j)::(n,.int .i64 N)::a s) (r tm c e):=λe=>aM.set ah hF;have z:M (r tm c (.bool (decide ((j:Int)<(N:Int))))) c= .bool (decide ((j:Int)<(N:Int))):=by rw [vn,if_pos ⟨rfl,by rw [hF.len];exact l⟩]
 generalize b:evalCode _ _ _ _ _ _ tm (d s) []=I;simp only [nC,Hc,Hv,Hu,Hf,Er,T,U,KH,OM,zq,Km,LY,ae,J0,CC,ET,QN,z,X2,Qo] at b;by_cases C:j<N
 . have f:decide ((j:Int)<(N:Int))=true:=ah;rw [f] at b;simp only [CC,QS,ET,nC,QM] at b;have g:=av j s _ C u (A (.bool true));generalize gU v _=x at g b;rcases g with ⟨F,w,rfl,Y,q⟩|⟨g,aH⟩
   . have V:M w i= .int .i64 j:=q.1;have ak:IntKind.i64.wrap ((j:Int)+1)=((j+1:Nat):Int):=by rw [wrap64 _ ab ab];rfl
     have W: ∀e,M (r w t e) t=e:=λe=>by rw [vn,if_pos ⟨rfl,by rw [q.len];exact m⟩]
     simp only [nC,Hc,Hv,Hu,Hf,QW,Er,X3,Xe,V,KH,OL,ak,zq,Km,LY,ag,aj,J0,CC,ET,W] at b;subst b;refine .inl ⟨_,_,rfl,C,F,Y,rfl,?_⟩;have S:aM L ((n,.int .i64 N)::a F) (r w t (.int .i64 ((j+1:Nat):Int))):=aM.set ah q.2;exact aM.same ah o S
   . refine .inr ?_;have:I=x:=by rw [<-b];cases x<;>first|rfl|cases g
     grind
 . have Z:j=N:=ab;subst Z;have f:decide ((j:Int)<(j:Int))=false:=ai;rw [f] at b;simp only [Ts,QQ,ZX] at b;subst b;rw [f] at z;exact .inr ⟨rfl,done s _ u (A _).2.2⟩
end
structure xd where
  a:Nat->List aa->af->Prop
  N:Nat
  Q:bP->Prop
def dy (S:xd) (_:Tok S) (j:Nat) (R:bP):Prop:=(∃c b,R= .normal c b []/\j<S.N/\S.a (j+1) c b)\/(ts R=false/\S.Q R)
theorem dy.aE {S:xd} {t j b x y d w} (a:b=true->dy S t j (x ())) (c:b=false->dy S t j (y ())):dy S t j (eH b x y d w):=by
 cases b with
 |true=>exact a rfl
 |false=>exact c rfl
def dy.next {S:xd} {t j tm H} (c:j<S.N) (b:S.a (j+1) tm H):dy S t j (.normal tm H []):= .inl ⟨tm,H,rfl,c,b⟩
def dy.stop {S:xd} {t j R} (a:ts R=false) (b:S.Q R):dy S t j R:= .inr ⟨a,b⟩
def rP (E:Env) (cf:cb) (bk:bU) (fid:Nat) {c:Code} {ad:Nat} {tm:List aa} {H:af} (a:Nat->List aa->af->Prop) (N:Nat) {Q:bP->Prop} (hlf:N<ad) (d:a 0 tm H)
    (g: ∀j tm H,j<=N->a j tm H->dy ⟨a,N,Q⟩ ⟨⟩ j (evalCode E cf bk ad fid c tm H [])): ∀b,a1 E cf bk ad fid c ad tm H []=b->Q b:=by
 rintro b rfl;exact J3 _ Q a N (λj tm H f e=>g j tm H f e) ad 0 tm H ab ab d
@[go_sem] theorem ahd (b x y u w k t):l3 (eH b x y u w) k t=eH b (λ_=>l3 (x ()) k t) (λ_=>l3 (y ()) k t) ⟨⟩ ⟨⟩:=by cases b<;>rfl
@[go_sem] theorem acL (i b x y u w):gU i (eH b x y u w)=eH b (λ_=>gU i (x ())) (λ_=>gU i (y ())) ⟨⟩ ⟨⟩:=by cases b<;>rfl
@[go_sem] theorem ae1 (b x y u w):eH (!b) x y u w=eH b y x w u:=by cases b<;>rfl
end Go.aj
