/- A part of the proof: PvD4, PvD5, PvD6, PvD7, PvN5, PvN6, PvN7, PvN8, PvE1, PvE2, PvE3, PvE4, PvM4, PvM5, PvM6, PvM7, PvM8, PvM8b, PvM9, PvM10, PvM11, PvT, PvT2, PvT3, PvK. -/
import Derived.LoopN
import Derived.Test.YtmjfdiohjflnnaaGreatDoorP00
import Derived.Test.YtmjfdiohjflnnaaGreatDoorP01
import Derived.Test.YtmjfdiohjflnnaaGreatDoorP02
set_option linter.all false
namespace Go.PV
def reH (H':Hp):ORes→ORes
 | .ok v tm _=> .ok v tm H'
 | .pan v _=> .pan v H'
 | .fail=> .fail
theorem getT_congr {tm tm':List Val} {s:Nat} (h:tm'[s]? =tm[s]?):getT tm' s=getT tm s:=by rw [getT_eq,getT_eq,h]
def Ind (d:Nat) (v:Val):Prop:= ∃r:Option Val,∀H,pub d v H=r.map fun v=>(v,H)
theorem mapH_ind {f:Val→Hp→Option (Val×Hp)}: ∀ {vs:List Val},(∀v,v∈vs→ ∃r:Option Val,∀H,f v H=r.map fun v=>(v,H))→
  ∃r:Option (List Val),∀H,mapH f vs H=r.map fun v=>(v,H)
 | [],_=>⟨some [],fun _=>rfl⟩
 | v ::vs,h=>by
   obtain ⟨r,hr⟩:=h v (by simp);obtain ⟨q,hq⟩:=mapH_ind (vs:=vs) fun u hu=>h u (by simp [hu])
   cases r with
   |none=>exact ⟨none,fun H=>by simp [mapH,hr]⟩
   | some v'=>
     cases q with
     |none=>exact ⟨none,fun H=>by simp [mapH,hr,hq]⟩
     |some vs'=>exact ⟨some (v'::vs'),fun H=>by simp [mapH,hr,hq]⟩
theorem mapH_same {f:Val→Hp→Option (Val×Hp)}: ∀ {vs:List Val},(∀v,v∈vs→ ∀H,f v H=some (v,H))→ ∀H,mapH f vs H=some (vs,H)
 | [],_,_=>rfl
 |v::vs,h,H=>by simp [mapH,h v (by simp) H,mapH_same (vs:=vs) (fun u hu=>h u (by simp [hu])) H]
theorem frzV_pub: ∀(d:Nat) (v:Val),frzV d v=true→ ∀H,pub d v H=some (v,H):=by
 intro d
 induction d with
 |zero=>intro v h;simp [frzV] at h
 | succ d ih=>
   intro v h H
   cases v with
   |agg cs=>simp only [pub,mapH_same (fun v hv=>ih v (List.all_eq_true.1 (by simpa [frzV] using h) v hv)) H,fL_eq]
   |tup cs=>simp only [pub,mapH_same (fun v hv=>ih v (List.all_eq_true.1 (by simpa [frzV] using h) v hv)) H,fL_eq]
   |iface t v=>simp only [pub,ih v (by simpa [frzV] using h) H,fV_eq]
   | fn f a c=>
     simp only [frzV,Bool.and_eq_true] at h;simp only [pub,mapH_same (fun v hv=>ih v (List.all_eq_true.1 h.1 v hv)) H,mapH_same (fun v hv=>ih v (List.all_eq_true.1 h.2 v hv)) H,fL_eq]
   |_=>first|rfl|(simp [frzV] at h)
theorem frzV_mono: ∀(d:Nat) (v:Val),frzV d v=true→frzV (d+1) v=true:=by
 intro d
 induction d with
 |zero=>intro v h;simp [frzV] at h
 | succ d ih=>
   intro v h;have al: ∀l:List Val,l.all (frzV d)=true→l.all (frzV (d+1))=true:=fun l hl=>List.all_eq_true.2 fun v hv=>ih v (List.all_eq_true.1 hl v hv)
   cases v with
   |agg cs=>exact al _ h
   |tup cs=>exact al _ h
   |iface t v=>exact ih v h
   | fn f a c=>
     simp only [frzV,Bool.and_eq_true] at h;rw [frzV,Bool.and_eq_true];exact ⟨al _ h.1,al _ h.2⟩
   |_=>first|rfl|(simp [frzV] at h)
theorem Ind.of_frz {d:Nat} {v:Val} (h:frzV d v=true):Ind d v:=⟨some v,fun H=>frzV_pub d v h H⟩
theorem Ind.agg {d:Nat} {cs:List Val} (h: ∀v,v∈cs→Ind d v):Ind (d+1) (.agg cs):=by
 obtain ⟨r,hr⟩:=mapH_ind (f:=pub d) h
 cases r with
 |none=>exact ⟨none,fun H=>by simp [pub,hr]⟩
 |some l=>exact ⟨some (.agg l),fun H=>by simp [pub,hr]⟩
theorem Ind.tup {d:Nat} {cs:List Val} (h: ∀v,v∈cs→Ind d v):Ind (d+1) (.tup cs):=by
 obtain ⟨r,hr⟩:=mapH_ind (f:=pub d) h
 cases r with
 |none=>exact ⟨none,fun H=>by simp [pub,hr]⟩
 |some l=>exact ⟨some (.tup l),fun H=>by simp [pub,hr]⟩
theorem Ind.iface {d t:Nat} {v:Val} (h:Ind d v):Ind (d+1) (.iface t v):=by
 obtain ⟨r,hr⟩:=h
 cases r with
 |none=>exact ⟨none,fun H=>by simp [pub,hr]⟩
 |some l=>exact ⟨some (.iface t l),fun H=>by simp [pub,hr]⟩
theorem Ind.bad (d:Nat):Ind d .bad:=by cases d<;>exact ⟨none,fun H=>rfl⟩
theorem ofC_ind: ∀(n:Nat) (x:Value) (d:Nat),Ind d (ofC n x):=by
 intro n
 induction n with
 | zero=>
   intro x d
   cases d with
   |zero=>exact ⟨none,fun H=>rfl⟩
   | succ d=>
     cases x<;>first
      |exact .bad _
      |exact ⟨some _,fun H=>rfl⟩
      |(unfold ofC;split<;>first|exact .bad _|exact ⟨some _,fun H=>rfl⟩|(rename_i h;cases h))
 | succ n ih=>
   intro x d
   cases d with
   |zero=>exact ⟨none,fun H=>rfl⟩
   | succ d=>
     have lst: ∀cs:Array Value,∀v,v∈cs.toList.map (ofC n)→Ind d v:=by intro cs v hv;obtain ⟨y,_,rfl⟩:=List.mem_map.1 hv;exact ih y d
     cases x with
     |agg cs=>exact .agg (lst cs)
     |tuple cs=>exact .tup (lst cs)
     |iface t v=>exact .iface (ih v d)
     | _=>first
       |exact .bad _
       |exact ⟨some _,fun H=>rfl⟩
       |(unfold ofC;split<;>first|exact .bad _|exact ⟨some _,fun H=>rfl⟩|(rename_i h;cases h))
theorem fillP_all {Q:Val→Prop} {place:Nat→Option (Nat×Nat)}: ∀(parts:List (Nat×Val)) (cells cs:List Val),(∀c,c∈cells→Q c)→
  (∀p,p∈parts→ ∀c,c∈p.2.cells→Q c)→fillP place cells parts=some cs→ ∀c,c∈cs→Q c:=by
 intro parts
 induction parts with
 |nil=>intro cells cs h _ he;simp only [fillP,Option.some.injEq] at he;subst he;exact h
 | cons p parts ih=>
   obtain ⟨i,v⟩:=p;intro cells cs h hp he;simp only [fillP] at he;split at he
   · cases he
   · split at he
     · split at he
       · rename_i c hu;simp only [fL_eq] at he;refine ih c cs ?_ (fun p hm=>hp p (by simp [hm])) he;unfold upd at hu;split at hu
         · simp only [Option.some.injEq] at hu;subst hu;intro x hx;simp only [List.mem_append] at hx;rcases hx with hx|hx|hx
           · exact h x (List.mem_of_mem_take hx)
           · exact hp (i,v) (by simp) x hx
           · exact h x (List.mem_of_mem_drop hx)
         · cases hu
       · cases he
     · cases he
theorem cells_ofC_ind (n:Nat) (x:Value) (d:Nat): ∀c,c∈(ofC n x).cells→Ind d c:=by
 intro c hc;have one: ∀v:Val,Ind d v→c∈v.cells→(∀l,v≠ .agg l)→Ind d c:=by
  intro v hv hm hn;have:v.cells= [v]:=by cases v<;>first|rfl|exact absurd rfl (hn _)
  rw [this] at hm;simp only [List.mem_singleton] at hm;subst hm;exact hv
 cases n with
 | zero=>
   refine one _ (ofC_ind 0 x d) hc ?_;intro l;cases x<;>first
    |(intro h;cases h;done)
    |(unfold ofC;split<;>first|(intro h;cases h;done)|(rename_i h;cases h;done))
 | succ n=>
   cases x with
   | agg cs=>
     have:(ofC (n+1) (.agg cs)).cells=cs.toList.map (ofC n):=rfl;rw [this] at hc;obtain ⟨y,_,rfl⟩:=List.mem_map.1 hc;exact ofC_ind n y d
   | _=>
     refine one _ (ofC_ind (n+1) _ d) hc ?_;intro l
     first
     |(intro h;cases h;done)
     |(unfold ofC;split<;>first|(intro h;cases h;done)|(rename_i h;cases h;done))
theorem cells_frz_ind {d:Nat} {v:Val} (h:frzV d v=true): ∀c,c∈v.cells→Ind d c:=by
 intro c hc
 cases v with
 | agg cs=>
   cases d with
   |zero=>simp [frzV] at h
   |succ d=>exact .of_frz (frzV_mono _ _ (List.all_eq_true.1 (show cs.all (frzV d)=true from h) c hc))
 |_=>(simp only [Val.cells,List.mem_singleton] at hc;subst hc;exact .of_frz h)
section
variable {E:Env} {cf:CallF} {fid:Nat} {tm:List Val} {H H':Hp}
theorem okV_reH (r:Option Val):okV r tm H'=reH H' (okV r tm H):=by cases r<;>simp [okV,reH]
theorem okV_reH' {r r':Option Val} (h:r'=r):okV r' tm H'=reH H' (okV r tm H):=by subst h;exact okV_reH _
theorem buildSliceP_ind {t len:Nat} {parts:List (Nat×Val)} (h: ∀p,p∈parts→frzV depthP p.2=true):
  ∃r:Option Val,∀H,buildSliceP E t len parts H=r.map fun v=>(v,H):=by
 unfold buildSliceP;split
 · split
   · rename_i el _ k z hk hz;split
     · split
       · rename_i cs hf;have hcs: ∀c,c∈cs→Ind depthP c:=by
          refine fillP_all parts _ cs ?_ (fun p hp c hc=>cells_frz_ind (h p hp) c hc) hf;intro c hc;simp only [List.mem_flatten,List.mem_replicate] at hc;obtain ⟨l,⟨_,rfl⟩,hc⟩:=hc;unfold zeroT at hz;split at hz
          · split at hz
            · simp only [Option.some.injEq] at hz;subst hz;exact cells_ofC_ind _ _ _ c hc
            · cases hz
          · cases hz
         obtain ⟨r,hr⟩:=mapH_ind (f:=pub depthP) hcs
         cases r with
         |none=>exact ⟨none,fun H=>by simp [hr]⟩
         |some l=>exact ⟨some (.sl (chunk k len l) true),fun H=>by simp [hr]⟩
       · exact ⟨none,fun _=>rfl⟩
     · exact ⟨none,fun _=>rfl⟩
   · exact ⟨none,fun _=>rfl⟩
 · exact ⟨none,fun _=>rfl⟩
theorem okVH_reH {r:Option Val} {q q':Option (Val×Hp)} (h:q=r.map fun v=>(v,H)) (h':q'=r.map fun v=>(v,H')):okVH q' tm=reH H' (okVH q tm):=by subst h;subst h';cases r<;>rfl
theorem doPure_reH {f:Nat} {args:List Val} (h:args.all (frzV depthP)=true):doPure cf f args H' tm=reH H' (doPure cf f args H tm):=by
 have e:=mapH_same (f:=pub depthP) (vs:=args) fun v hv=>frzV_pub _ v (List.all_eq_true.1 h v hv);unfold doPure;simp only [e,fL_eq];split
 · split<;>simp [reH]
 · split<;>simp [reH]
 · rfl
theorem loadP_lp {t s st off:Nat}:loadP E t (.lp s st off) tm H'=loadP E t (.lp s st off) tm H:=rfl
theorem storeP_lp {t s st off:Nat} {v:Val}:storeP E t (.lp s st off) v tm H'=reH H' (storeP E t (.lp s st off) v tm H):=by
 unfold storeP;split
 · unfold storeV;split
   · simp only;unfold storeL;split
     · split
       · split<;>simp [reH]
       · rfl
     · rfl
   · rfl
 · rfl
def annOK (E:Env) (fid:Nat) (o:Oper) (a:Ann):Bool:=match a with
 | .plain=>match o.op with
   | .move _=>true
   | .assign _=>true
   | .pick _ _ _=>true
   | .build _ _=>true
   | .nilCheck _=>true
   | .binOp _ _ _ _ _=>true
   | .unOp _ _ _=>true
   | .makeInterface _ _=>true
   | .slice _ _ _ _ _=>true
   | .fieldAddr _ _ _=>true
   | .field _ _ _=>true
   | .indexAddr _ _ _=>true
   | .index _ _ _=>true
   | .typeAssert _ _ _ _=>true
   | .extract _ _=>true
   | .convert s _ _=>match und E s with
     |some (.slice _)=>false
     |some (.pointer _)=>false
     |some .unsafePointer=>false
     |_=>true
   | .makeFunc f _ _=>match f with
     | .func f=> !E.frz f
     |_=>true
   | .call c=>match c.callee with
     | .builtin b=>match b,c.argTypes.toList with
       | .len,[t]=>match und E t with
         |some (.map _ _)=>false
         |_=>true
       | .cap,_=>true
       | .min,_=>true
       | .max,_=>true
       |_,_=>false
     |_=>false
   | .alloc _=>locO E fid o.dst
   | .box _ _=>locO E fid o.dst
   |_=>false
 | .frz=>match o.op with
   | .call _=>true
   | .buildSlice _ _ _=>true
   | .makeFunc _ _ _=>true
   |_=>false
 | .loc _=>match o.op with
   | .load _ _=>true
   | .store _ _ _=>true
   |_=>false
 | .read _=>match o.op with
   | .load _ _=>true
   | .lookup _ _ _ _=>true
   |_=>false
 | .rd1 _=>match o.op with
   | .load _ _=>true
   | .lookup _ _ _ _=>true
   |_=>false
 | .heap=>match o.op with
   | .defer _=>false
   |_=>true
def Ann.isFree:Ann→Bool
 | .plain=>true
 | .frz=>true
 | .loc _=>true
 |_=>false
theorem opMakeFn_frz {f:Fn} {a c:List Val} (ha:frzV depthP (.fn f a c)=true):opMakeFn E f a c tm H'=reH H' (opMakeFn E f a c tm H):=by
 unfold opMakeFn;split
 · unfold opMakeFunc;split
   · split
     · obtain ⟨r,hr⟩:=Ind.of_frz ha;exact okVH_reH (hr H) (hr H')
     · exact okV_reH _
   · rfl
 · rfl
theorem opPick_reH (c a b:Val):opPick c a b tm H'=reH H' (opPick c a b tm H):=by unfold opPick;split<;>first|exact okV_reH _|rfl
theorem opNilCheck_reH (x:Val):opNilCheck x tm H'=reH H' (opNilCheck x tm H):=by unfold opNilCheck;split<;>first|exact okV_reH _|rfl
theorem opMakeIface_reH (t:Nat) (d:Option TypeDesc) (x:Val):opMakeIface t d x tm H'=reH H' (opMakeIface t d x tm H):=by unfold opMakeIface;split<;>(try split)<;>simp [reH]
theorem opSlice_reH (t:Nat) (d:Option TypeDesc) (x:Val) (lo hi mx:Option Val) (hs:(sliceP E t x lo hi mx).isSome=true):opSlice E t d x lo hi mx tm H'=reH H' (opSlice E t d x lo hi mx tm H):=by
 unfold opSlice
 cases h:sliceP E t x lo hi mx with
 |none=>rw [h] at hs;cases hs
 |some v=>split<;>first|exact okV_reH (some v)|rfl
theorem opExtract_reH (x:Val) (i:Nat):opExtract x i tm H'=reH H' (opExtract x i tm H):=by unfold opExtract;split<;>first|exact okV_reH _|rfl
theorem opAlloc_reH {d:Option Nat} {el:Nat} {z:Option Val}:opAlloc true d el z tm H'=reH H' (opAlloc true d el z tm H):=by
 unfold opAlloc;split
 · split
   · simp only;unfold newLocal;split<;>exact okV_reH _
   · rfl
 · rfl
theorem lenP_reH {t:Nat} {x:Val} (h: ∀k v,und E t≠some (.map k v)):lenP E t x H'=lenP E t x H:=by unfold lenP;split<;>first|rfl|(rename_i e;exact absurd e (h _ _))|(rename_i e _;exact absurd e (h _ _))|skip
theorem builtinP_len {t:Nat} {args:List Val} (h: ∀k v,und E t≠some (.map k v)):builtinP E .len [t] args tm H'=reH H' (builtinP E .len [t] args tm H):=by
 cases args with
 |nil=>rfl
 | cons x l=>
   cases l with
   |nil=>exact okV_reH' (lenP_reH h)
   |cons y l=>rfl
theorem builtinP_cap {ts:List Nat} {args:List Val}:builtinP E .cap ts args tm H'=reH H' (builtinP E .cap ts args tm H):=by
 rcases ts with _|⟨t,_|⟨t2,ts⟩⟩
 · rfl
 · rcases args with _|⟨x,_|⟨y,l⟩⟩
   · rfl
   · exact okV_reH _
   · rfl
 · rfl
theorem builtinP_min {ts:List Nat} {args:List Val}:builtinP E .min ts args tm H'=reH H' (builtinP E .min ts args tm H):=by
 rcases args with _|⟨x,l⟩
 · rfl
 · cases x<;>first|exact okV_reH _|rfl
theorem builtinP_max {ts:List Nat} {args:List Val}:builtinP E .max ts args tm H'=reH H' (builtinP E .max ts args tm H):=by
 rcases args with _|⟨x,l⟩
 · rfl
 · cases x<;>first|exact okV_reH _|rfl
theorem opCallV_frz {f:Val} {args:List Val} (h:frzFn E f args=true):opCallV E cf f args H' tm=reH H' (opCallV E cf f args H tm):=by
 unfold frzFn at h;split at h
 · rename_i g first cap args'
   simp only [Bool.and_eq_true] at h;unfold opCallV;simp only [fL_eq];unfold doCall;split
   · rw [h.1];exact doPure_reH h.2
   · rfl
 · cases h
theorem evalOp_reH {o:Oper} {a:Ann} (ha:annOK E fid o a=true) (hfr:a.isFree=true) (hc:chkA E o a tm=true):evalOp E cf fid o tm H'=reH H' (evalOp E cf fid o tm H):=by
 cases a with
 |heap=>cases hfr
 |read ks=>cases hfr
 |rd1 k=>cases hfr
 | loc s=>
   unfold annOK at ha;unfold chkA at hc;unfold evalOp;cases ho:o.op<;>simp only [ho] at ha hc⊢ <;>try (cases ha;done)
   · rename_i t x;cases hp:opd E tm x<;>rw [hp] at hc<;>try (cases hc;done)
     exact okV_reH' loadP_lp
   · rename_i t x v;cases hp:opd E tm x<;>rw [hp] at hc<;>try (cases hc;done)
     exact storeP_lp
 | frz=>
   unfold annOK at ha;unfold chkA at hc;unfold evalOp;cases ho:o.op<;>simp only [ho] at ha hc⊢ <;>try (cases ha;done)
   · rename_i t n ps;obtain ⟨r,hr⟩:=buildSliceP_ind (E:=E) (t:=t) (len:=n) (parts:=ps.toList.map fun p=>(p.1,opd E tm p.2)) (fun p hp=>by obtain ⟨q,hq,rfl⟩:=List.mem_map.1 hp;exact List.all_eq_true.1 hc _ (List.mem_map.2 ⟨q,hq,rfl⟩));exact okVH_reH (hr H) (hr H')
   · exact opMakeFn_frz hc
   · rename_i c;unfold opCall;cases hcal:c.callee<;>simp only [hcal] at hc⊢ <;>try (cases hc;done)
     exact opCallV_frz hc
 | plain=>
   unfold annOK at ha;unfold evalOp;cases ho:o.op<;>simp only [ho] at ha⊢ <;>try (cases ha;done)
   case move=>exact okV_reH _
   case assign=>exact okV_reH _
   case pick=>exact opPick_reH _ _ _
   case alloc=>rw [ha];exact opAlloc_reH
   case box=>rw [ha];exact opAlloc_reH
   case build=>exact okV_reH _
   case nilCheck=>exact opNilCheck_reH _
   case binOp=>exact okV_reH _
   case unOp=>exact okV_reH _
   case makeInterface=>exact opMakeIface_reH _ _ _
   case slice=>unfold chkA at hc;simp only [ho] at hc;exact opSlice_reH _ _ _ _ _ _ hc
   case fieldAddr=>exact okV_reH _
   case field=>exact okV_reH _
   case indexAddr=>exact okV_reH _
   case index=>exact okV_reH _
   case typeAssert=>exact okV_reH _
   case extract=>exact opExtract_reH _ _
   case convert s d x=>
    refine okV_reH' ?_;unfold convertP;split<;>first|rfl|(rename_i e _;rw [e] at ha;cases ha;done)|(rename_i e _ _;rw [e] at ha;cases ha;done)|(rename_i e;rw [e] at ha;cases ha;done)|skip
   case makeFunc f a c=>
    unfold opMakeFn;split
    · simp only at ha;unfold opMakeFunc;split
      · split
        · rename_i h;rw [h] at ha;cases ha
        · exact okV_reH _
      · rfl
    · rfl
   case call c=>
    unfold opCall;cases hcal:c.callee<;>simp only [hcal] at ha⊢ <;>try (cases ha;done)
    rename_i b;unfold opBuiltin;split at ha
    · rename_i t hts;rw [hts];refine builtinP_len ?_;intro k v e;rw [e] at ha;cases ha
    · exact builtinP_cap
    · exact builtinP_min
    · exact builtinP_max
    · cases ha
end
def opTmps (o:Oper):List Nat:=o.op.operands.toList.filterMap fun
 | .tmp t=>some t
 |_=>none
def guardTmps (ops:Array Oper) (o:Oper):List Nat:=match o.guard with
 |none=> []
 | some (j,_)=>match ops[j]? with
   | some o'=>match o'.dst with
     |some d=> [d]
     |none=> []
   |none=> []
def Rl (ops:Array Oper) (o:Oper) (a:Ann):List Nat:=opTmps o++(guardTmps ops o++(o.dst.toList++(match a with| .loc s=> [s]|_=> [])))
def Wl (o:Oper) (a:Ann):List Nat:=o.dst.toList++(match a with
 | .loc s=>match o.op with
   | .store _ _ _=> [s]
   |_=> []
 |_=> [])
def Ann.kd:Ann→Kd
 | .heap=> .heap
 | .read ks=> .read ks
 | .rd1 k=> .read [k]
 |_=> .free
def putT (d:Option Nat) (v:Val) (tm:List Val):List Val:=match d with
 |some d=>setT tm d v
 |none=>tm
section
variable {E:Env} {cf:CallF} {fid:Nat} {ops:Array Oper} {tm tm':List Val} {H H':Hp} {o:Oper} {a:Ann}
theorem putT_len (d:Option Nat) (v:Val) (tm:List Val):(putT d v tm).length=tm.length:=by
 cases d with
 |none=>rfl
 |some d=>exact setT_length _ _ _
theorem put2_some {d:Option Nat} {v:Val} {s:RS} (h:put2 E fid d v tm H=some s):s=(putT d v tm,H)∧ ∀tm' H',put2 E fid d v tm' H'=some (putT d v tm',H'):=by
 unfold put2 putR at h
 cases d with
 | none=>
   simp only [Option.some.injEq] at h;subst h;exact ⟨rfl,fun _ _=>rfl⟩
 | some d=>
   simp only [fL_eq] at h;split at h
   · rename_i heq;split at heq
     · rename_i hl;simp only [Option.some.injEq] at heq h;subst heq;subst h;exact ⟨rfl,fun tm' H'=>by simp [put2,putR,hl,putT]⟩
     · cases heq
   · cases h
theorem putT_get {d:Option Nat} {v:Val} {tm tm':List Val} (hl:tm'.length=tm.length) (s:Nat):
  (s∈d.toList→(putT d v tm')[s]? =(putT d v tm)[s]?)∧(s∉d.toList→(putT d v tm')[s]? =tm'[s]?):=by
 cases d with
 |none=>exact ⟨fun h=>by simp at h,fun _=>rfl⟩
 | some d=>
   refine ⟨fun h=> ?_,fun h=> ?_⟩
   · simp only [Option.toList_some,List.mem_singleton] at h;subst h;simp only [putT,setT_get,hl];by_cases e:s<tm.length
     · simp [e]
     · simp only [e,and_false,if_false];rw [List.getElem?_eq_none (by omega),List.getElem?_eq_none (by omega)]
   · simp only [Option.toList_some,List.mem_singleton] at h;simp only [putT,setT_get];rw [if_neg (fun e=>h e.1.symm)]
theorem mem_opTmps {t:Nat} (h:Operand.tmp t∈o.op.operands):t∈opTmps o:=
 List.mem_filterMap.2 ⟨.tmp t,by simpa using h,rfl⟩
theorem opd_agree (h: ∀s,s∈opTmps o→tm'[s]? =tm[s]?): ∀x,x∈o.op.operands→opd E tm' x=opd E tm x:=by
 intro x hx
 cases x with
 |tmp t=>simp only [opd,getT_congr (h t (mem_opTmps hx))]
 |_=>rfl
theorem wanted_agree (h: ∀s,s∈guardTmps ops o→tm'[s]? =tm[s]?):wantedP ops tm' o=wantedP ops tm o:=by
 unfold wantedP;unfold guardTmps at h;split
 · rfl
 · rename_i j want hg;rw [hg] at h;simp only at h;split
   · rename_i o' ho;rw [ho] at h;simp only at h;split
     · rename_i d hd;rw [hd] at h;rw [getT_congr (h d (by simp))]
     · rfl
   · rfl
def rdOK (o:Oper):Bool:=match o.op with
 | .load _ _=>true
 | .lookup _ _ _ _=>true
 |_=>false
theorem rdOK_of {ks:List Nat} (h:annOK E fid o (.read ks)=true):rdOK o=true:=h
theorem rdOK_of1 {k:Nat} (h:annOK E fid o (.rd1 k)=true):rdOK o=true:=h
theorem evalOp_rd (h:rdOK o=true) (tm:List Val) (H:Hp):evalOp E cf fid o tm H=okV (rdV E o tm H) tm H:=by unfold rdOK at h;unfold evalOp rdV;cases hop:o.op<;>simp only [hop] at h<;>first|rfl|(cases h;done)
theorem step_loc {s1:RS} {tmi:List Val} {Hi:Hp} (hA:stepA E cf fid ops o a (tmi,Hi)=some s1) (ha:annOK E fid o a=true):
  (∀s,s∉Wl o a→s1.1[s]? =tmi[s]?)∧(a.kd.isHeap=false→s1.2=Hi)∧s1.1.length=tmi.length∧
  ∀ tm H,tm.length=tmi.length→(∀s,s∈Rl ops o a→tm[s]? =tmi[s]?)→
    (match a.kd with| .free=>True| .heap=>H=Hi| .read _=>wantedP ops tmi o=some true→rdV E o tmi H=rdV E o tmi Hi)→
    ∃tm',stepE E cf fid ops o (tm,H)=some (tm',if a.kd.isHeap then s1.2 else H)∧tm'.length=tmi.length∧(∀s,s∈Wl o a→tm'[s]? =s1.1[s]?)∧ ∀s,s∉Wl o a→tm'[s]? =tm[s]? :=by
 have agO: ∀tm:List Val,(∀s,s∈Rl ops o a→tm[s]? =tmi[s]?)→(∀s,s∈opTmps o→tm[s]? =tmi[s]?):=fun tm h s hs=>h s (by simp [Rl,hs]);have agG: ∀tm:List Val,(∀s,s∈Rl ops o a→tm[s]? =tmi[s]?)→(∀s,s∈guardTmps ops o→tm[s]? =tmi[s]?):=fun tm h s hs=>h s (by simp [Rl,hs]);have agD: ∀tm:List Val,(∀s,s∈Rl ops o a→tm[s]? =tmi[s]?)→ ∀d,o.dst=some d→getT tm d=getT tmi d:=fun tm h d hd=>getT_congr (h d (by simp [Rl,hd]));have sub: ∀s,s∉Wl o a→s∉o.dst.toList:=fun s h hs=>h (by simp only [Wl,List.mem_append];exact .inl hs);unfold stepA at hA;simp only at hA;split at hA
 · rename_i hwt;split at hA
   case h_2=>cases hA
   rename_i hck;unfold stepOk at hA;split at hA
   case h_2=>cases hA
   rename_i v t1 H1 hev;obtain ⟨e1,e2⟩:=put2_some hA;subst e1;by_cases hst: ∃s t x y,a= .loc s∧o.op= .store t x y
   · obtain ⟨s,t,x,y,rfl,hop⟩:=hst;have hx: ∃stp off,opd E tmi x= .lp s stp off:=by
      unfold chkA at hck;simp only [hop] at hck;unfold isLp at hck;split at hck
      · rename_i s' stp off e;have:=Nat.eq_of_beq_eq_true hck;subst this;exact ⟨stp,off,e⟩
      · cases hck
     obtain ⟨stp,off,hx⟩:=hx;have hWs:s∈Wl o (.loc s):=by simp [Wl,hop]
     have key: ∀(tm:List Val) (H:Hp),opd E tm x= .lp s stp off→opd E tm y=opd E tmi y→getT tm s=getT tmi s→
       ∃u,evalOp E cf fid o tm H= .ok (.tup []) (setT tm s u) H∧evalOp E cf fid o tmi Hi= .ok (.tup []) (setT tmi s u) Hi:=by
      intro tm H h1 h2 h3;unfold evalOp at hev⊢;simp only [hop] at hev⊢;rw [h1,h2];rw [hx] at hev⊢;unfold storeP at hev⊢;split at hev
      case h_2=>cases hev
      unfold storeV at hev⊢;split at hev
      case isFalse=>cases hev
      rename_i hc;rw [if_pos hc,if_pos hc];simp only at hev⊢;unfold storeL at hev⊢;rw [h3];split at hev
      case h_2=>cases hev
      split at hev
      case isFalse=>cases hev
      rename_i hc2;rw [if_pos hc2,if_pos hc2];split at hev
      · rename_i cs' _;exact ⟨.lv stp cs',by simp only [fL_eq],by simp only [fL_eq]⟩
      · cases hev
     obtain ⟨u,_,k2⟩:=key tmi Hi hx rfl rfl;rw [hev] at k2;simp only [ORes.ok.injEq] at k2;obtain ⟨rfl,rfl,rfl⟩:=k2;refine ⟨fun s' hs'=> ?_,fun _=>rfl,by simp [putT_len,setT_length],fun tm H hl hR _=> ?_⟩
     · simp only;rw [(putT_get (tm:=setT tmi s u) rfl s').2 (sub s' hs'),setT_get];rw [if_neg];rintro ⟨rfl,_⟩;exact hs' hWs
     · have hxo:=opd_agree (E:=E) (agO tm hR);have h1:opd E tm x= .lp s stp off:=by rw [hxo x (by simp [hop,Op.operands])];exact hx
       have h2:opd E tm y=opd E tmi y:=hxo y (by simp [hop,Op.operands]);have h3:getT tm s=getT tmi s:=getT_congr (hR s (by simp [Rl]));obtain ⟨u',k1,k2⟩:=key tm H h1 h2 h3;rw [hev] at k2;simp only [ORes.ok.injEq,true_and,and_true] at k2;refine ⟨putT o.dst (.tup []) (setT tm s u'),?_,by simp [putT_len,setT_length,hl],fun s' hs'=> ?_,fun s' hs'=> ?_⟩
       · unfold stepE;simp only [wanted_agree (agG tm hR),hwt,k1,stepOk,e2];rfl
       · simp only;rw [k2];by_cases hd:s'∈o.dst.toList
         · exact (putT_get (by simp [setT_length,hl]) s').1 hd
         · rw [(putT_get (tm:=setT tmi s u') (by simp [setT_length,hl]) s').2 hd,(putT_get (tm:=setT tmi s u') rfl s').2 hd];have:s'=s:=by simp only [Wl,hop,List.mem_append,List.mem_singleton] at hs';exact hs'.resolve_left hd
           subst this;simp only [setT_get,hl];by_cases e:s'<tmi.length
           · simp [e]
           · simp only [e,and_false,if_false];rw [List.getElem?_eq_none (by omega),List.getElem?_eq_none (by omega)]
       · rw [(putT_get (tm:=setT tmi s u') (by simp [setT_length,hl]) s').2 (sub s' hs'),setT_get];rw [if_neg];rintro ⟨rfl,_⟩;exact hs' hWs
   ·
    have hW:Wl o a=o.dst.toList:=by
     unfold Wl
     cases a with
     | loc s=>
       simp only;split
       · rename_i h;exact absurd ⟨s,_,_,_,rfl,h⟩ hst
       · simp
     |_=>simp
    have hnl: ∀t x y,o.op= .store t x y→notLp (opd E tmi x)=true:=by
     intro t x y hop
     cases a with
     |loc s=>exact absurd ⟨s,_,_,_,rfl,hop⟩ hst
     |plain=>unfold annOK at ha;simp [hop] at ha
     |frz=>unfold annOK at ha;simp [hop] at ha
     |heap=>unfold chkA at hck;simpa [hop] using hck
     |read ks=>unfold chkA at hck;simpa [hop] using hck
     |rd1 k=>unfold chkA at hck;simpa [hop] using hck
    have re: ∀(tm:List Val) (H:Hp),(∀s,s∈Rl ops o a→tm[s]? =tmi[s]?)→evalOp E cf fid o tm H=reTm tm (evalOp E cf fid o tmi H):=by
     intro tm H hR;refine evalOp_re (opd_agree (agO tm hR)) (agD tm hR) ?_ hnl;intro t x s stp off hop hx
     cases a with
     | loc s'=>
       unfold chkA at hck;simp only [hop,hx,isLp] at hck;have:=Nat.eq_of_beq_eq_true hck;subst this;exact getT_congr (hR s (by simp [Rl]))
     |plain=>unfold annOK at ha;simp [hop] at ha
     |frz=>unfold annOK at ha;simp [hop] at ha
     |heap=>unfold chkA at hck;simp [hop,hx,notLp] at hck
     |read ks=>unfold chkA at hck;simp [hop,hx,notLp] at hck
     |rd1 k=>unfold chkA at hck;simp [hop,hx,notLp] at hck
    have et:t1=tmi:=by have:=re tmi Hi (fun _ _=>rfl);rw [hev] at this;simp only [reTm,ORes.ok.injEq] at this;exact this.2.1
    subst et;have reh:a.kd.isHeap=false→ ∀H,(match a.kd with| .read _=>wantedP ops t1 o=some true→rdV E o t1 H=rdV E o t1 Hi|_=>True)→
      evalOp E cf fid o t1 H= .ok v t1 H∧H1=Hi:=by
     intro hh H hrd
     cases a with
     |heap=>cases hh
     | read ks=>
       simp only [Ann.kd] at hrd;have:=hrd hwt;have e1:=evalOp_rd (E:=E) (cf:=cf) (fid:=fid) (rdOK_of ha) t1 H;rw [evalOp_rd (rdOK_of ha) t1 Hi] at hev;rw [e1,this]
       cases hl:rdV E o t1 Hi with
       |none=>rw [hl] at hev;cases hev
       | some u=>
         rw [hl] at hev;simp only [okV,fV_eq,ORes.ok.injEq,true_and] at hev⊢;exact ⟨⟨hev.1,trivial⟩,hev.2.symm⟩
     | rd1 k0=>
       simp only [Ann.kd] at hrd;have:=hrd hwt;have e1:=evalOp_rd (E:=E) (cf:=cf) (fid:=fid) (rdOK_of1 ha) t1 H;rw [evalOp_rd (rdOK_of1 ha) t1 Hi] at hev;rw [e1,this]
       cases hl:rdV E o t1 Hi with
       |none=>rw [hl] at hev;cases hev
       | some u=>
         rw [hl] at hev;simp only [okV,fV_eq,ORes.ok.injEq,true_and] at hev⊢;exact ⟨⟨hev.1,trivial⟩,hev.2.symm⟩
     | _=>
       have h1:=evalOp_reH (cf:=cf) (H:=Hi) (H':=H) ha rfl hck;have h2:=evalOp_reH (cf:=cf) (H:=Hi) (H':=Hi) ha rfl hck;rw [hev] at h1 h2;simp only [reH,ORes.ok.injEq,true_and] at h1 h2;exact ⟨h1,h2⟩
    refine ⟨fun s' hs'=> ?_,fun hh=> ?_,by simp [putT_len],fun tm H hl hR hK=> ?_⟩
    · simp only;exact (putT_get (tm:=t1) rfl s').2 (sub s' hs')
    · simp only;refine (reh hh Hi ?_).2;split<;>simp
    · have hv:evalOp E cf fid o tm H= .ok v tm (if a.kd.isHeap then H1 else H):=by
       rw [re tm H hR]
       cases hh:a.kd.isHeap with
       | true=>
         have:H=Hi:=by
          cases hk:a.kd<;>rw [hk] at hK hh
          · cases hh
          · exact hK
          · cases hh
         subst this;rw [hev];rfl
       | false=>
         have h1:=(reh hh H (by cases hk:a.kd<;>rw [hk] at hK<;>first|trivial|exact hK)).1;rw [h1];rfl
      refine ⟨putT o.dst v tm,?_,by simp [putT_len,hl],fun s' hs'=> ?_,fun s' hs'=> ?_⟩
      · unfold stepE;simp only [wanted_agree (agG tm hR),hwt,hv,stepOk,e2]
      · rw [hW] at hs';exact (putT_get hl s').1 hs'
      · rw [hW] at hs';exact (putT_get (tm:=t1) hl s').2 hs'
 · rename_i hwt;obtain ⟨e1,e2⟩:=put2_some hA;subst e1;refine ⟨fun s' hs'=>(putT_get (tm:=tmi) rfl s').2 (sub s' hs'),fun _=>rfl,by simp [putT_len],fun tm H hl hR hK=> ?_⟩;refine ⟨putT o.dst (.tup []) tm,?_,by simp [putT_len,hl],fun s' hs'=> ?_,fun s' hs'=>(putT_get (tm:=tmi) hl s').2 (sub s' hs')⟩
   · unfold stepE;simp only [wanted_agree (agG tm hR),hwt,e2]
     cases hh:a.kd.isHeap with
     |false=>rfl
     | true=>
       cases hk:a.kd<;>rw [hk] at hK hh
       · cases hh
       · simp only at hK;subst hK;rfl
       · cases hh
   · by_cases hd:s'∈o.dst.toList
     · exact (putT_get hl s').1 hd
     ·
      rw [(putT_get (tm:=tmi) hl s').2 hd];simp only;rw [(putT_get (tm:=tmi) rfl s').2 hd];refine hR s' ?_;simp only [Wl,List.mem_append] at hs';have h3:=hs'.resolve_left hd
      cases a with
      | loc s=>
        simp only at h3;split at h3
        · simp [Rl,h3]
        · simp at h3
      |_=>simp at h3
 · cases hA
end
def at_ (l:List (List Nat)) (i:Nat):List Nat:=match l[i]? with
 |some x=>x
 |none=> []
def befI (d:DI) (i j:Nat):Bool:=(at_ d.M j).contains i
def kdI (d:DI) (i:Nat):Kd:=match d.anns[i]? with
 |some a=>a.kd
 |none=> .free
def heapI (d:DI) (i:Nat):Bool:=(kdI d i).isHeap
def dj (l m:List Nat):Bool:=l.all fun x=> !m.contains x
def opChk (E:Env) (fid:Nat) (ops:Array Oper) (d:DI) (i:Nat):Bool:=match ops[i]?,d.anns[i]? with
 |some o,some a=>annOK E fid o a&&((Rl ops o a).all fun x=>(at_ d.R i).contains x)&&((Wl o a).all fun x=>(at_ d.W i).contains x)&&((at_ d.W i).all fun x=>(Wl o a).contains x)&&
  (o.after.toList.all fun e=> !Region.binds .any e||Nat.blt e.on i)
 |_,_=>false
def genChk (ops:Array Oper) (d:DI) (i:Nat):Bool:=(at_ d.M i).all fun j=>Nat.blt j i&&match ops[i]? with
 |some o=>o.after.toList.any fun e=>Region.binds .any e&&(Nat.beq e.on j||befI d j e.on)
 |none=>false
def pairChk (d:DI) (i j:Nat):Bool:=befI d i j||(dj (at_ d.W i) (at_ d.W j)&&(dj (at_ d.W i) (at_ d.R j)&&(dj (at_ d.R i) (at_ d.W j)&& !(heapI d i&&heapI d j))))
def rdChk (n:Nat) (d:DI) (i:Nat):Bool:=match kdI d i with
 | .read ks=>(ks.contains 0||(List.range n).any fun j=>heapI d j&&befI d j i)&&
  (List.range n).all fun j=> !heapI d j||(ks.contains (j+1)||(befI d i j||(List.range n).any fun j'=>Nat.blt j j'&&(heapI d j'&&befI d j' i)))
 |_=>true
def rd1Chk (d:DI) (i:Nat):Bool:=match d.anns[i]? with
 |some (.rd1 k)=>Nat.ble k i&&(List.range i).all fun j=>Nat.blt j k|| !heapI d j
 |_=>true
def drawnOK (E:Env) (fid:Nat) (ops:Array Oper) (d:DI):Bool:=
 Nat.ble d.M.length ops.size&&((List.range ops.size).all fun i=>opChk E fid ops d i&&(genChk ops d i&&(rdChk ops.size d i&&(rd1Chk d i&&(List.range i).all fun j=>pairChk d j i))))
theorem dj_spec {l m:List Nat} (h:dj l m=true) {x:Nat} (h1:x∈l) (h2:x∈m):False:=by have:=List.all_eq_true.1 h x h1;simp [h2] at this
mutual
theorem sameW_eq: ∀(a b:Val),sameW a b=true→a=b
 | .bool _,b,h=>by cases b<;>simp_all [sameW]
 | .int _ _,b,h=>by cases b<;>simp_all [sameW]
 | .str _ _,b,h=>by cases b<;>simp_all [sameW,Nat.beq_eq]
 | .agg l,b,h=>by cases b<;>simp only [sameW,Bool.false_eq_true] at h;rw [sameL_eq _ _ h]
 | .tup l,b,h=>by cases b<;>simp only [sameW,Bool.false_eq_true] at h;rw [sameL_eq _ _ h]
 | .nilp,b,h=>by cases b<;>simp_all [sameW]
 | .ptr _ _ _ _,b,h=>by cases b<;>simp_all [sameW,Nat.beq_eq]
 | .fptr l o,b,h=>by cases b<;>simp only [sameW,Bool.false_eq_true,Bool.and_eq_true,Nat.beq_eq] at h;rw [sameL_eq _ _ h.2,h.1]
 | .nilsl,b,h=>by cases b<;>simp_all [sameW]
 | .sl l c,b,h=>by cases b<;>simp only [sameW,Bool.false_eq_true,Bool.and_eq_true,beq_iff_eq] at h;rw [sameLL_eq _ _ h.2,h.1]
 | .ref _ _ _ _ _ _,b,h=>by cases b<;>simp_all [sameW,Nat.beq_eq]
 | .nilmap,b,h=>by cases b<;>simp_all [sameW]
 | .map _,b,h=>by cases b<;>simp_all [sameW,Nat.beq_eq]
 | .fmap l m,b,h=>by cases b<;>simp only [sameW,Bool.false_eq_true,Bool.and_eq_true] at h;rw [sameL_eq _ _ h.1,sameL_eq _ _ h.2]
 | .nilfn,b,h=>by cases b<;>simp_all [sameW]
 | .fn f l m,b,h=>by cases b<;>simp only [sameW,Bool.false_eq_true,Bool.and_eq_true,decide_eq_true_eq] at h;rw [h.1,sameL_eq _ _ h.2.1,sameL_eq _ _ h.2.2]
 | .nili,b,h=>by cases b<;>simp_all [sameW]
 | .iface t v,b,h=>by cases b<;>simp only [sameW,Bool.false_eq_true,Bool.and_eq_true] at h;rw [Nat.eq_of_beq_eq_true h.1,sameW_eq _ _ h.2]
 | .it _,b,h=>by cases b<;>simp_all [sameW,Nat.beq_eq]
 | .bad,b,h=>by cases b<;>simp_all [sameW]
 | .lv _ _,b,h=>by cases b<;>simp_all [sameW]
 | .lp _ _ _,b,h=>by cases b<;>simp_all [sameW]
theorem sameL_eq: ∀(a b:List Val),sameL a b=true→a=b
 | [],[],_=>rfl
 | [],_::_,h=>by simp [sameL] at h
 |_::_,[],h=>by simp [sameL] at h
 |a::l,b::m,h=>by simp only [sameL,Bool.and_eq_true] at h;rw [sameW_eq _ _ h.1,sameL_eq _ _ h.2]
theorem sameLL_eq: ∀(a b:List (List Val)),sameLL a b=true→a=b
 | [],[],_=>rfl
 | [],_::_,h=>by simp [sameLL] at h
 |_::_,[],h=>by simp [sameLL] at h
 |a::l,b::m,h=>by simp only [sameLL,Bool.and_eq_true] at h;rw [sameL_eq _ _ h.1,sameLL_eq _ _ h.2]
end
theorem sameO_eq {a b:Option Val} (h:sameO a b=true):a=b:=by
 unfold sameO at h;split at h
 · rw [sameW_eq _ _ h]
 · cases h
section
variable {E:Env} {cf:CallF} {fid:Nat} {ops:Array Oper} {tm:List Val} {H:Hp}
theorem runA_spec: ∀(os:List Oper) (as:List Ann) (s:RS) (tr:List RS),runA E cf fid ops os as s=some tr→
  tr.length=os.length+1∧tr[0]? =some s∧ ∀i o,os[i]? =some o→ ∃a si si',as[i]? =some a∧tr[i]? =some si∧tr[i+1]? =some si'∧stepA E cf fid ops o a si=some si':=by
 intro os
 induction os with
 | nil=>
   intro as s tr h;cases as<;>(simp only [runA,Option.some.injEq] at h;subst h;exact ⟨rfl,rfl,fun i o h=>by simp at h⟩)
 | cons o os ih=>
   intro as s tr h
   cases as with
   |nil=>simp [runA] at h
   | cons a as=>
     simp only [runA] at h;split at h
     case h_2=>cases h
     rename_i s' hs;split at h
     case h_2=>cases h
     rename_i l hl;simp only [Option.some.injEq] at h;subst h;obtain ⟨h1,h2,h3⟩:=ih as s' l hl;refine ⟨by simp [h1],rfl,fun i o' ho=> ?_⟩
     cases i with
     | zero=>
       simp only [List.getElem?_cons_zero,Option.some.injEq] at ho;subst ho;exact ⟨a,s,s',rfl,rfl,by simpa using h2,hs⟩
     |succ i=>simpa using h3 i o' (by simpa using ho)
theorem winAll_spec {tr:List RS}: ∀(os:List Oper) (as:List Ann) (ss:List RS),winAll E ops tr os as ss=true→
  ∀(i:Nat) (o:Oper) (a:Ann) (s:RS),os[i]? =some o→as[i]? =some a→ss[i]? =some s→winOp E ops o a s tr=true:=by
 intro os
 induction os with
 |nil=>intro as ss _ i o a s h;simp at h
 | cons o os ih=>
   intro as ss h i o' a' s' h1 h2 h3
   cases as with
   |nil=>simp at h2
   | cons a as=>
     cases ss with
     |nil=>simp at h3
     | cons s ss=>
       simp only [winAll,Bool.and_eq_true] at h
       cases i with
       | zero=>
         simp only [List.getElem?_cons_zero,Option.some.injEq] at h1 h2 h3;subst h1;subst h2;subst h3;exact h.1
       |succ i=>exact ih as ss h.2 i o' a' s' (by simpa using h1) (by simpa using h2) (by simpa using h3)
theorem winLoad_spec {o:Oper} {tr:List RS}: ∀(ks:List Nat),winLoad E o tm H tr ks=true→ ∀k,k∈ks→ ∃s,tr[k]? =some s∧rdV E o tm s.2=rdV E o tm H:=by
 intro ks
 induction ks with
 |nil=>intro _ k h;simp at h
 | cons k0 ks ih=>
   intro h k hk;simp only [winLoad] at h;split at h
   · rename_i s hs;simp only [Bool.and_eq_true] at h
     cases hk with
     |head=>exact ⟨s,hs,sameO_eq h.1⟩
     |tail _ hk=>exact ih h.2 k hk
   · cases h
theorem lastS_eq : ∀(l:List RS) (n:Nat),l.length=n+1→lastS l=l[n]?
 | [],_,h=>by simp at h
 | [s], n, h => by simp only [List.length_singleton] at h;have:n=0:=by omega
                   subst this;rfl
 | s::s'::l,n,h=>by
   simp only [List.length_cons] at h;obtain ⟨m,rfl⟩: ∃m,n=m+1:=⟨n-1,by omega⟩;rw [lastS,lastS_eq (s'::l) m (by simp;omega)]
   · simp
   · intro h;cases h
theorem loadP_notPtr {t:Nat} {p:Val} {H':Hp} (h:isPtr p=false):loadP E t p tm H'=loadP E t p tm H:=by cases p<;>first|rfl|(simp [isPtr] at h)
theorem evalDrawn_runs {d:DI} (hd:drawnOK E fid ops d=true) {s:RS} (h:evalDrawn E cf fid ops d tm H=some s):
  ∃σ R W bef,Runs ops.size tm.length (fun i s=>match ops[i]? with|some o=>stepE E cf fid ops o s|none=>some s) σ R W (kdI d) bef∧Preds ops bef∧σ 0=(tm,H)∧σ ops.size=s:=by
 unfold evalDrawn at h;split at h
 case h_2=>cases h
 rename_i tr htr;split at h
 case h_2=>cases h
 rename_i hwin;obtain ⟨t1,t2,t3⟩:=runA_spec _ _ _ _ htr;have hw:=winAll_spec _ _ _ hwin;simp only [drawnOK,Bool.and_eq_true,List.all_eq_true,List.mem_range] at hd;obtain ⟨hM,hall⟩:=hd;have hM:=Nat.le_of_ble_eq_true hM;have tl:tr.length=ops.size+1:=by simpa using t1
 let σ:Nat→RS:=fun k=>(tr[k]?).getD default;have hσ: ∀k s,tr[k]? =some s→σ k=s:=fun k s h=>by simp [σ,h]
 have hop: ∀i,i<ops.size→ ∃o a,ops[i]? =some o∧d.anns[i]? =some a∧annOK E fid o a=true∧(∀x,x∈Rl ops o a→x∈at_ d.R i)∧(∀x,x∈Wl o a→x∈at_ d.W i)∧(∀x,x∈at_ d.W i→x∈Wl o a)∧
   (∀e,e∈o.after→Region.binds .any e=true→e.on<i)∧stepA E cf fid ops o a (σ i)=some (σ (i+1))∧winOp E ops o a (σ i) tr=true:=by
  intro i hi;have h1:=(hall i hi).1;unfold opChk at h1;have ho:ops[i]? =some ops[i]:=by simp [hi]
  obtain ⟨a,si,si',e1,e2,e3,e4⟩:=t3 i ops[i] (by simp [hi]);rw [ho,e1] at h1;simp only [Bool.and_eq_true,List.all_eq_true,Bool.or_eq_true,Bool.not_eq_true',List.contains_iff_mem] at h1;refine ⟨ops[i],a,ho,e1,h1.1.1.1.1,h1.1.1.1.2,h1.1.1.2,h1.1.2,fun e he hb=> ?_,by rw [hσ _ _ e2,hσ _ _ e3];exact e4,by rw [hσ _ _ e2];exact hw i ops[i] a si (by simp [hi]) e1 e2⟩;rcases h1.2 e (by simpa using he) with h|h
  · rw [hb] at h;cases h
  · exact Nat.le_of_ble_eq_true h
 have hlen: ∀i,i≤ops.size→(σ i).1.length=tm.length:=by
  intro i
  induction i with
  |zero=>intro _;rw [hσ 0 _ t2]
  | succ i ih=>
    intro hi;obtain ⟨o,a,o1,o2,o3,o4,o5,o5',o6,o7,o8⟩:=hop i (by omega);rw [(step_loc (tmi:=(σ i).1) (Hi:=(σ i).2) o7 o3).2.2.1];exact ih (by omega)
 have bef_lt: ∀i j,befI d i j=true→j<ops.size:=by
  intro i j h;unfold befI at_ at h;split at h
  · rename_i x hx;have:=(List.getElem?_eq_some_iff.1 hx).1;omega
  · simp at h
 have gen: ∀i j,befI d j i=true→j<i∧ ∃o e,ops[i]? =some o∧e∈o.after∧Region.binds .any e=true∧(e.on=j∨befI d j e.on=true):=by
  intro i j hj;have hi:=bef_lt j i hj;have h1:=(hall i hi).2.1;unfold genChk at h1;have h2:=List.all_eq_true.1 h1 j (by simpa [befI] using hj);simp only [Bool.and_eq_true] at h2;refine ⟨Nat.le_of_ble_eq_true h2.1,?_⟩;have ho:ops[i]? =some ops[i]:=by simp [hi]
  rw [ho] at h2;simp only [List.any_eq_true,Bool.and_eq_true,Bool.or_eq_true] at h2;obtain ⟨e,e1,e2,e3⟩:=h2.2;exact ⟨ops[i],e,ho,by simpa using e1,e2,e3.imp Nat.eq_of_beq_eq_true id⟩
 have pair: ∀i j,i<j→j<ops.size→befI d i j=true∨((∀s,s∈at_ d.W i→s∈at_ d.W j→False)∧(∀s,s∈at_ d.W i→s∈at_ d.R j→False)∧(∀s,s∈at_ d.R i→s∈at_ d.W j→False)∧
   ((kdI d i).isHeap=true→(kdI d j).isHeap=true→False)):=by
  intro i j hij hj;have h1:=(hall j hj).2.2.2.2 i (by simpa using hij);simp only [pairChk,Bool.or_eq_true,Bool.and_eq_true] at h1;refine h1.imp id fun h=>⟨fun s h1 h2=>dj_spec h.1 h1 h2,fun s h1 h2=>dj_spec h.2.1 h1 h2,fun s h1 h2=>dj_spec h.2.2.1 h1 h2,fun h1 h2=> ?_⟩;have:=h.2.2.2;simp [heapI,h1,h2] at this
 refine ⟨σ,at_ d.R,at_ d.W,befI d,⟨hlen 0 (by omega),fun i j h=>(gen j i h).1,?_,?_,?_,?_,?_,?_,?_⟩,⟨?_,gen⟩,hσ 0 _ t2,?_⟩
 ·
  intro i hi tm' H' hl hR hK;obtain ⟨o,a,o1,o2,o3,o4,o5,o5',o6,o7,o8⟩:=hop i hi;obtain ⟨g1,g2,g3,g4⟩:=step_loc (tmi:=(σ i).1) (Hi:=(σ i).2) o7 o3;have hk:kdI d i=a.kd:=by simp [kdI,o2]
  rw [hk] at hK ⊢;obtain ⟨tm'',k1,k2,k3,k4⟩:=g4 tm' H' (by rw [hl,hlen i (by omega)]) (fun s hs=>hR s (o4 s hs)) (by
   cases a with
   |heap=>exact hK
   | read ks=>
     simp only [Ann.kd] at hK⊢;obtain ⟨k,hk1,rfl⟩:=hK;intro hwt;unfold winOp at o8;simp only [hwt] at o8;have hwin:winLoad E o (σ i).1 (σ i).2 tr ks=true→rdV E o (σ i).1 (σ k).2=rdV E o (σ i).1 (σ i).2:=by intro h;obtain ⟨s,s1,s2⟩:=winLoad_spec ks h k hk1;rw [hσ k s s1];exact s2
     split at o8
     · rename_i t x hop';split at o8
       · exact hwin o8
       · rename_i hp;unfold rdV;simp only [hop'];exact loadP_notPtr hp
     · exact hwin o8
   | rd1 k0=>
     simp only [Ann.kd,List.mem_singleton] at hK⊢;obtain ⟨k,rfl,rfl⟩:=hK;intro _;have h1:=(hall i hi).2.2.2.1;simp only [rd1Chk,o2,Bool.and_eq_true,List.all_eq_true,List.mem_range,Bool.or_eq_true,Bool.not_eq_true'] at h1;have hki:=Nat.le_of_ble_eq_true h1.1;have same: ∀m,k≤m→m≤i→(σ m).2=(σ k).2:=by
      intro m
      induction m with
      | zero => intro h _;have:k=0:=by omega
                subst this;rfl
      | succ m ihm=>
        intro h1' h2';by_cases e:k=m+1
        · subst e;rfl
        · rw [←ihm (by omega) (by omega)];obtain ⟨o',a',p1,p2,p3,p4,p5,p5',p6,p7,p8⟩:=hop m (by omega);have hnh:heapI d m=false:=by
           rcases h1.2 m (by omega) with h|h
           · have:=Nat.le_of_ble_eq_true h;omega
           · exact h
          refine (step_loc (tmi:=(σ m).1) (Hi:=(σ m).2) p7 p3).2.1 ?_;simpa [heapI,kdI,p2] using hnh
     rw [same i hki (Nat.le_refl _)]
   |_=>trivial)
  refine ⟨tm'',by simp only [o1];exact k1,by rw [k2,hlen i (by omega)],fun s hs=> ?_,fun s hs=>k4 s fun h=>hs (o5 s h)⟩;exact k3 s (o5' s hs)
 · intro i hi;obtain ⟨o,a,o1,o2,o3,o4,o5,o5',o6,o7,o8⟩:=hop i hi;obtain ⟨g1,g2,g3,g4⟩:=step_loc (tmi:=(σ i).1) (Hi:=(σ i).2) o7 o3;exact ⟨fun s hs=>g1 s fun h=>hs (o5 s h),fun h=>g2 (by simpa [kdI,o2] using h)⟩
 · intro i j s h1 h2 h3 h4;exact (pair i j h1 h2).resolve_right fun h=>h.1 s h3 h4
 · intro i j s h1 h2 h3 h4;exact (pair i j h1 h2).resolve_right fun h=>h.2.1 s h3 h4
 · intro i j s h1 h2 h3 h4;exact (pair i j h1 h2).resolve_right fun h=>h.2.2.1 s h3 h4
 · intro i j h1 h2 h3 h4;exact (pair i j h1 h2).resolve_right fun h=>h.2.2.2 h3 h4
 · intro i ks hi hk;have h1:=(hall i hi).2.2.1;simp only [rdChk,hk,Bool.and_eq_true,Bool.or_eq_true,List.any_eq_true,List.all_eq_true,List.mem_range,Bool.not_eq_true'] at h1;refine ⟨h1.1.imp (by simp) (fun ⟨j,j1,j2,j3⟩=>⟨j,j2,j3⟩),fun j hj hh=> ?_⟩;rcases h1.2 j hj with h|h|h|⟨j',j1,j2,j3,j4⟩
   · rw [show heapI d j=true from hh] at h;cases h
   · exact .inl (by simpa using h)
   · exact .inr (.inl h)
   · exact .inr (.inr ⟨j',Nat.le_of_ble_eq_true j2,j1,j3,j4⟩)
 · intro i o e ho he hb;obtain ⟨o',a,o1,o2,o3,o4,o5,o5',o6,o7,o8⟩:=hop i (Array.getElem?_eq_some_iff.1 ho).1;rw [ho] at o1;cases o1;exact o6 e he hb
 · rw [lastS_eq tr ops.size tl] at h;exact hσ _ _ h
end
section
variable {E:Env} {P:Program} (hE:EnvOK E P) {loc:Nat→Bool} {κ0 κ:Kr} {w0 w:World} {β:Nat→Option Nat} {tm X:List Val} {Hc:Hp} {cf:CallF} {fid:Nat} {ops:Array Oper} {ds:List (Nat×List Val)} {a:Act} {n0 m:Nat}
structure StX (E:Env) (loc:Nat→Bool) (κ0:Kr) (w0:World) (n0 m:Nat) (κ:Kr) (w:World) (β:Nat→Option Nat) (tm X:List Val) (Hc:Hp) (ds:List (Nat×List Val)) (a:Act):Prop where
  st:StD E loc κ0 w0 κ (fillX n0 X Hc) w β tm ds a
  xl:X.length=m
  hl:Hc.l.length=Hc.n
  hn:n0+m≤Hc.n
  rs: ∀j,j<m→Hc.get (n0+j)=some .rsv
  ib:Hc.n=n0+m→ ∀id o,Hc.get id=some o→ObIdb n0 o
theorem allRsv_spec {H:Hp}: ∀ {m:Nat},allRsv n0 H m=true→ ∀j,j<m→H.get (n0+j)=some .rsv
 |0,_,j,hj=>by omega
 | m +1,h,j,hj=>by
   simp only [allRsv,Bool.and_eq_true] at h;by_cases e:j=m
   · subst e;have h1:=h.1;split at h1
     · assumption
     · cases h1
   · exact allRsv_spec h.2 j (by omega)
theorem load_fill (hx:X.length=m) (hl:Hc.l.length=Hc.n) (hn:n0+m≤Hc.n) (hrs: ∀j,j<m→Hc.get (n0+j)=some .rsv) {t:Nat} {p v:Val} (h:loadP E t p tm Hc=some v):loadP E t p tm (fillX n0 X Hc)=some v:=by
 subst hx;unfold loadP at h⊢;split at h
 case h_2=>cases h
 have key: ∀r,rowAtP tm Hc p=some r→rowAtP tm (fillX n0 X Hc) p=some r:=by
  intro r hr;unfold rowAtP at hr⊢;split at hr
  · exact hr
  · rename_i id gen off lim;split at hr
    · rename_i g d ro cs hg;simp only [fill_ext hl hn hrs hg (by simp)];exact hr
    · cases hr
  · exact hr
  · cases hr
 cases hr:rowAtP tm Hc p with
 |none=>rw [hr] at h;cases h
 |some r=>rw [key r hr,←hr];exact h
theorem look_fill (hx:X.length=m) (hl:Hc.l.length=Hc.n) (hn:n0+m≤Hc.n) (hrs: ∀j,j<m→Hc.get (n0+j)=some .rsv) {t:Nat} {p k v:Val} {ok:Bool} (h:lookupP E t p k ok Hc=some v):lookupP E t p k ok (fillX n0 X Hc)=some v:=by
 subst hx;unfold lookupP at h⊢;split at h
 case h_2=>cases h
 rename_i kt el hd;have key: ∀r,mapOf Hc p=some r→mapOf (fillX n0 X Hc) p=some r:=by
  intro r hr;unfold mapOf at hr⊢;split at hr<;>try exact hr
  rename_i id;split at hr
  · rename_i frz ks vs hg;simp only [fill_ext hl hn hrs hg (by simp)];exact hr
  · cases hr
 cases hr:mapOf Hc p with
 |none=>rw [hr] at h;cases h
 |some r=>rw [hr] at h;rw [key r hr];exact h
theorem stepA_fill (hx:X.length=m) (hl:Hc.l.length=Hc.n) (hn:n0+m≤Hc.n) (hrs: ∀j,j<m→Hc.get (n0+j)=some .rsv) {o:Oper} {an:Ann} (ha:annOK E fid o an=true) (hna:an.kd.isHeap=false)
  {s:RS} (h:stepA E cf fid ops o an (tm,Hc)=some s):
  s.2=Hc∧((wantedP ops tm o=some false∧put2 E fid o.dst (.tup []) tm Hc=some s)∨
   (wantedP ops tm o=some true∧ ∃v t1,evalOp E cf fid o tm (fillX n0 X Hc)= .ok v t1 (fillX n0 X Hc)∧put2 E fid o.dst v t1 Hc=some s)):=by
 unfold stepA at h;simp only at h;split at h
 · rename_i hwt;split at h
   case h_2=>cases h
   rename_i hck;unfold stepOk at h;split at h
   case h_2=>cases h
   rename_i v t1 H1 hev;have hfree:evalOp E cf fid o tm (fillX n0 X Hc)= .ok v t1 (fillX n0 X Hc)∧H1=Hc:=by
    have rd:rdOK o=true→evalOp E cf fid o tm (fillX n0 X Hc)= .ok v t1 (fillX n0 X Hc)∧H1=Hc:=by
     intro hr;rw [evalOp_rd hr] at hev⊢
     cases hlo:rdV E o tm Hc with
     |none=>rw [hlo] at hev;cases hev
     | some u=>
       rw [hlo] at hev;have:rdV E o tm (fillX n0 X Hc)=some u:=by
        unfold rdV at hlo⊢;cases hop:o.op<;>simp only [hop] at hlo⊢ <;>try (cases hlo;done)
        · exact load_fill hx hl hn hrs hlo
        · exact look_fill hx hl hn hrs hlo
       rw [this];simp only [okV,fV_eq,ORes.ok.injEq] at hev⊢;exact ⟨⟨hev.1,hev.2.1,trivial⟩,hev.2.2.symm⟩
    cases an with
    |heap=>cases hna
    |read ks=>exact rd ha
    |rd1 k=>exact rd ha
    | _=>
      have h1:=evalOp_reH (cf:=cf) (H:=Hc) (H':=fillX n0 X Hc) ha rfl hck;have h2:=evalOp_reH (cf:=cf) (H:=Hc) (H':=Hc) ha rfl hck;rw [hev] at h1 h2;simp only [reH,ORes.ok.injEq,true_and] at h1 h2;exact ⟨h1,h2⟩
   obtain ⟨e1,rfl⟩:=hfree;exact ⟨by obtain ⟨e,_⟩:=put2_some h;rw [e],.inr ⟨hwt,v,t1,e1,h⟩⟩
 · rename_i hwt;exact ⟨by obtain ⟨e,_⟩:=put2_some h;rw [e],.inl ⟨hwt,h⟩⟩
 · cases h
theorem put2_inv {d:Option Nat} {v:Val} {H:Hp} {s:RS} (h:put2 E fid d v tm H=some s): ∃tm',putR E fid d v tm=some tm'∧s=(tm',H):=by
 unfold put2 at h;split at h
 · rename_i tm' hp;simp only [Option.some.injEq] at h;exact ⟨tm',hp,h.symm⟩
 · cases h
def NextX (E:Env) (loc:Nat→Bool) (κ0:Kr) (w0:World) (n0 m:Nat) (ds:List (Nat×List Val)) (s:RS) (next:Act→World→Prop):Prop:=
 ∀κ w β tm X a,s.1=tm++X→StX E loc κ0 w0 n0 m κ w β tm X s.2 ds a→next a w
theorem stX_skip (hloc:loc=E.loc fid) (sx:StX E loc κ0 w0 n0 m κ w β tm X Hc ds a) {o:Oper} {tm':List Val} (hp:putR E fid o.dst (.tup []) tm=some tm'):
  ∃β',StX E loc κ0 w0 n0 m κ w β' tm' X Hc ds (a.put o.dst undef):=by
 obtain ⟨β',st'⟩:=put_ok sx.st (OutR.of_OV (OV.of_VK (.tup [] #[] rfl (by simp)))) hloc hp;refine ⟨β',?_,sx.xl,sx.hl,sx.hn,sx.rs,sx.ib⟩;unfold StD;rw [put_tmps,put_defers];exact st'
include hE in
theorem stepP_ok (hcf: ∀f args H,CallOK E P f args H (cf f args H)) (hloc:loc=E.loc fid) {Q:Exit→Act→World→Prop} {next:Act→World→Prop} {o:Oper} {an:Ann} (ha:annOK E fid o an=true) (hna:an.kd.isHeap=false)
  (sx:StX E loc κ0 w0 n0 m κ w β tm X Hc ds a) {s:RS} (h:stepA E cf fid ops o an (tm,Hc)=some s) (hN:NextX E loc κ0 w0 n0 m ds (s.1++X,s.2) next):
  (Region.wanted o (yielded ops a.tmps)=true∧o.wp P a w next Q)∨(Region.wanted o (yielded ops a.tmps)=false∧next (a.put o.dst undef) w):=by
 obtain ⟨e2,h1⟩:=stepA_fill sx.xl sx.hl sx.hn sx.rs ha hna h;rcases h1 with ⟨hw,hp⟩|⟨hw,v,t1,hev,hp⟩
 · right;obtain ⟨tm',hq,rfl⟩:=put2_inv hp;refine ⟨wanted_ok sx.st.tr hw,?_⟩;obtain ⟨β',sx'⟩:=stX_skip hloc sx hq;exact hN _ _ _ _ _ _ rfl sx'
 · left;obtain ⟨tm',hq,rfl⟩:=put2_inv hp;refine ⟨wanted_ok sx.st.tr hw,?_⟩;have hop:=evalOp_ok hE hcf hloc (dst:=o.dst) rfl sx.st (by rw [hev];simp);refine upon_ok hop (fun x w' hdn=> ?_) (fun chain w' hpn=> ?_)
   · obtain ⟨v',tm'',H',κ',β',e1,st',ho'⟩:=hdn;rw [hev] at e1;simp only [ORes.ok.injEq] at e1;obtain ⟨rfl,rfl,rfl⟩:=e1;obtain ⟨β'',st''⟩:=put_ok st' ho' hloc hq;refine hN κ' w' β'' tm' X (a.put o.dst x) rfl ⟨?_,sx.xl,sx.hl,sx.hn,sx.rs,sx.ib⟩;unfold StD;rw [put_tmps,put_defers];exact st''
   · obtain ⟨v',H',κ',e1,_⟩:=hpn;rw [hev] at e1;cases e1
include hE in
theorem stepN_ok (hloc:loc=E.loc fid) {Q:Exit→Act→World→Prop} {next:Act→World→Prop} {o:Oper} {j:Nat} (hj:j<m)
  (sx:StX E loc κ0 w0 n0 m κ w β tm X Hc ds a) (hu:unX (getT X j)= .rsv) (hwt:wantedP ops tm o=some true) {v c:Val} (hmk:makeAt E fid o tm (n0+j)=some (v,c)) {tm':List Val} (hp:putR E fid o.dst v tm=some tm')
  (hN:NextX E loc κ0 w0 n0 m ds (tm'++setT X j c,Hc) next):Region.wanted o (yielded ops a.tmps)=true∧o.wp P a w next Q:=by
 refine ⟨wanted_ok sx.st.tr hwt,?_⟩;have hid:=fill_unset sx.hl (by rw [sx.xl];exact sx.hn) (fun j hj=>sx.rs j (by rw [←sx.xl];exact hj)) (j:=j) (by rw [sx.xl];exact hj) hu;obtain ⟨κ',w',x,g1,g2,g3,g4,g5⟩:=makeAt_ok hE sx.st hid hmk;unfold Oper.wp;rw [g1];have hop:OpOK E loc κ0 w0 (fun κ=>DR κ ds a.defers) P o.dst β tm a.tmps (.ok v tm ((fillX n0 X Hc).set (n0+j) (unX c))) (.ok (.value x) w'):=⟨v,tm,_,κ',β,rfl,St.step sx.st g2 g3,.of_OV (OV.of_VK g4)⟩;refine upon_ok hop (fun x w' hdn=> ?_) (fun chain w' hpn=> ?_)
 · obtain ⟨v',tm'',H',κ',β',e1,st',ho'⟩:=hdn;simp only [ORes.ok.injEq] at e1;obtain ⟨rfl,rfl,rfl⟩:=e1;obtain ⟨β'',st''⟩:=put_ok st' ho' hloc hp;refine hN κ' w' β'' tm' (setT X j c) (a.put o.dst x) rfl ⟨?_,by rw [setT_length];exact sx.xl,sx.hl,sx.hn,sx.rs,sx.ib⟩;rw [fill_set sx.hl (by rw [sx.xl];exact sx.hn) (by rw [sx.xl];exact hj) g5];unfold StD;rw [put_tmps,put_defers];exact st''
 · obtain ⟨v',H',κ',e1,_⟩:=hpn;cases e1
theorem stepC_ok (hcf: ∀f args H,CallOK E P f args H (cf f args H)) (hloc:loc=E.loc fid) {Q:Exit→Act→World→Prop} {next:Act→World→Prop} {o:Oper}
  (sx:StX E loc κ0 w0 n0 m κ w β tm X Hc ds a) (hb:callBeside E n0 m o tm Hc=true) {s:RS} (h:stepA E cf fid ops o .heap (tm,Hc)=some s) (hrs:allRsv n0 s.2 m=true) (hle:n0+m≤s.2.n) (hN:NextX E loc κ0 w0 n0 m ds (s.1++X,s.2) next):
  (Region.wanted o (yielded ops a.tmps)=true∧o.wp P a w next Q)∨(Region.wanted o (yielded ops a.tmps)=false∧next (a.put o.dst undef) w):=by
 unfold stepA at h;simp only at h;split at h
 case h_2 hw=>
  right;obtain ⟨tm',hp,rfl⟩:=put2_inv h;refine ⟨wanted_ok sx.st.tr hw,?_⟩;obtain ⟨β',sx'⟩:=stX_skip hloc sx hp;exact hN _ _ _ _ _ _ rfl sx'
 case h_3=>cases h
 rename_i hw;left;refine ⟨wanted_ok sx.st.tr hw,?_⟩;split at h
 case h_2=>cases h
 unfold stepOk at h;split at h
 case h_2=>cases h
 rename_i v t1 H1 hev;obtain ⟨tm',hp,rfl⟩:=put2_inv h;simp only at hrs hle hN;have hop: ∀x,OV κ β tm (opd E tm x) (a.eval x):=opd_ok sx.st.tr sx.st.gok;unfold callBeside at hb;split at hb
 case h_2=>cases hb
 rename_i c hoc;split at hb
 case h_2=>cases hb
 rename_i f hcal;split at hb
 case h_2=>cases hb
 rename_i g first cap hfe
 simp only [Bool.and_eq_true] at hb;obtain ⟨hb1,hb2⟩:=hb;have hb1:=Nat.eq_of_beq_eq_true hb1;have hev':doCall E cf g (first++(c.args.toList.map (opd E tm)++cap)) Hc tm= .ok v t1 H1:=by rw [←hev];unfold evalOp;simp only [hoc,opCall,hcal,hfe,opCallV,fL_eq]
 obtain ⟨x1,x2⟩:=opds_ok hop c.args;have hf:=hop f;rw [hfe] at hf;simp only [OV] at hf;unfold Oper.wp;unfold execOp;simp only [hoc,resolve,hcal];generalize a.eval f=fv at hf⊢
 cases hf with
 |fn _ _ _ fs ys h1 h2 h3 h4=>
 have app: ∀ {l m:List Val} {xs ys:Array Value},l.length=xs.size→m.length=ys.size→(∀(i:Nat) (v:Val) (x:Value),l[i]? =some v→xs[i]? =some x→OV κ β tm v x)→(∀(i:Nat) (v:Val) (x:Value),m[i]? =some v→ys[i]? =some x→OV κ β tm v x)→
   (l++m).length=(xs++ys).size∧ ∀(i:Nat) (v:Val) (x:Value),(l++m)[i]? =some v→(xs++ys)[i]? =some x→OV κ β tm v x:=by
  intro l m xs ys e1 e2 q1 q2;refine ⟨by simp [e1,e2],fun i v x hv hx=> ?_⟩;rw [List.getElem?_append] at hv;rw [Array.getElem?_append] at hx;rw [e1] at hv;split at hv
  · rename_i hc;rw [if_pos hc] at hx;exact q1 _ _ _ hv hx
  · rename_i hc;rw [if_neg hc] at hx;exact q2 _ _ _ hv hx
 obtain ⟨p1,p2⟩:=app x1 h2 x2 (fun i v x hv hx=>OV.of_VK (h4 i v x hv hx));obtain ⟨r1,r2⟩:=app h1 p1 (fun i v x hv hx=>OV.of_VK (h3 i v x hv hx)) p2;have he:(do let d←Deferred.ofValue (.func (.func g) fs ys) (c.args.map a.eval);invoke d.target d.args:Sem Next).run P w=(callFunc g (fs++(c.args.map a.eval++ys))).run P w:=by refine (bind_ok (a:=({target:= .fn (.func g) ys,args:=fs++c.args.map a.eval}:Deferred)) (w':=w) (Sem.run_pure _ _ _)).trans ?_;show (callFunc g ((fs++c.args.map a.eval)++ys)).run P w=_;rw [Array.append_assoc]
 rw [he];have hnl:(first++(c.args.toList.map (opd E tm)++cap)).all noLoc=true:=by
  unfold doCall at hev';split at hev'
  · assumption
  · cases hev'
 have hmask:WR {κ with μ:=below κ.μ n0} Hc w:=by
  refine WR.mask sx.st.wr sx.hl (by have:=sx.hn;omega) (fun id o h1 h2=> ?_) (fun id o h1 h2=> ?_) (sx.ib hb1)
  · rw [fill_low sx.hl (by rw [sx.xl];exact sx.hn) (.inl h2)];exact h1
  · have hlt:=Hp.get_lt h1;have:=sx.rs (id-n0) (by omega);rw [show n0+(id-n0)=id by omega,h1] at this;simpa using this
 have hinv:=doCall_ok (E:=E) (P:=P) (tm:=tm) (β:=β) (κ:= {κ with μ:=below κ.μ n0}) hcf hmask (fun g=>sx.st.gok g) r1 (fun i v x hv hx=>by have h1:=(r2 i v x hv hx).toVK (List.all_eq_true.1 hnl v (List.mem_of_getElem? hv));exact OV.of_VK (idsB_ok 20 v x h1 (List.all_eq_true.1 hb2 v (List.mem_of_getElem? hv)))) (by rw [hev'];simp);rw [hev'] at hinv;have fin: ∀x w',OEndR {κ with μ:=below κ.μ n0} w tm (.ok v t1 H1) (.returned x) w'→next (a.put o.dst x) w':=by
  rintro x w' ⟨v',H',κ1,e1,g1,g2,g3⟩;simp only [ORes.ok.injEq] at e1;obtain ⟨rfl,rfl,rfl⟩:=e1;have hrs':=allRsv_spec hrs;obtain ⟨l1,l2⟩:=fillX_len X n0 Hc sx.hl;obtain ⟨k1,k2⟩:=fillX_len X n0 H1 g1.len;have hxl:=sx.xl;obtain ⟨u1,u2⟩:=WR.unmask (Hf:=fillX n0 X Hc) (Hf1:=fillX n0 X H1) (n:=n0) (m:=m) sx.st.wr (by rw [l2];exact hb1) g1 g2 k1 k2 hle hrs'
   (fun id o h hc=>by rw [fill_low g1.len (by rw [hxl];exact hle) (by rw [hxl];exact hc)] at h;exact h)
   (fun id o h hc1 hc2=>by rw [fillX_get X n0 H1 g1.len (by rw [hxl];exact hle)] at h;rw [fillX_get X n0 Hc sx.hl (by rw [hxl];exact sx.hn)];have e1:=hrs' (id-n0) (by omega);have e2:=sx.rs (id-n0) (by omega);rw [show n0+(id-n0)=id by omega] at e1 e2;rw [e1] at h;rw [e2];exact h)
  have hv:VK {κ1 with μ:=mixU κ1.μ κ.μ n0 m} v x:=by
   refine VR.mono g3 (fun _ _ _ h=>h) (fun _ _ h=>h) fun i g y h=> ?_;show mixU κ1.μ κ.μ n0 m i g=some y;unfold mixU;rw [if_neg]
   · exact h
   · rintro ⟨q1,q2⟩;have:=g1.obj _ _ (hrs' (i-n0) (by omega));rw [show n0+(i-n0)=i by omega] at this;rw [this g] at h;cases h
  have st':StD E loc κ0 w0 {κ1 with μ:=mixU κ1.μ κ.μ n0 m} (fillX n0 X H1) w' β t1 ds a:=St.step sx.st u1 u2;obtain ⟨β'',st''⟩:=put_ok st' (OutR.of_OV (OV.of_VK hv)) hloc hp;refine hN {κ1 with μ:=mixU κ1.μ κ.μ n0 m} w' β'' tm' X (a.put o.dst x) rfl ⟨?_,hxl,g1.len,hle,hrs',fun hn'=> ?_⟩
  · unfold StD;rw [put_tmps,put_defers];exact st''
  · intro id o ho;refine g1.idbn (fun i g y hy=> ?_) ho;have hlt:=g1.dom _ _ _ hy;rcases Nat.lt_or_ge i n0 with h|h
    · exact h
    · have hn':H1.n=n0+m:=hn';have:=g1.obj _ _ (hrs' (i-n0) (by omega));rw [show n0+(i-n0)=i by omega] at this;rw [this g] at hy;cases hy
 have hpan: ∀chain w',¬OEndR {κ with μ:=below κ.μ n0} w tm (.ok v t1 H1) (.panicked chain) w':=by rintro chain w' ⟨v',H',κ',e1,_⟩;cases e1
 rcases hinv with ⟨g',ys',i1,i2⟩|⟨x,w',i1,i2⟩
 · rw [i1];refine Calls.mono i2 fun e w' he=> ?_
   cases e with
   |outgrown=>exact he.elim
   |returned x=>exact fin _ _ he
   |panicked chain=>exact absurd he (hpan _ _)
 · rw [i1];exact fin _ _ i2
end
section
variable {E:Env} {cf:CallF} {fid:Nat} {ops:Array Oper} {tm tm':List Val} {H H':Hp} {o:Oper} {a:Ann} {n0 m len:Nat}
theorem chkA_agree (hop: ∀x,x∈o.op.operands→opd E tm' x=opd E tm x):chkA E o a tm'=chkA E o a tm:=by
 have load: ∀ {t:Nat} {x:Operand},o.op= .load t x→opd E tm' x=opd E tm x:=fun h=>hop _ (by simp [h,Op.operands]);have store: ∀ {t:Nat} {x y:Operand},o.op= .store t x y→opd E tm' x=opd E tm x:=fun h=>hop _ (by simp [h,Op.operands]);have arr: ∀ {xs:Array Operand},(∀x,x∈xs→opd E tm' x=opd E tm x)→xs.toList.map (opd E tm')=xs.toList.map (opd E tm):=fun h=>map_congr_arr h;have om: ∀y:Option Operand,(∀z,y=some z→opd E tm' z=opd E tm z)→y.map (opd E tm')=y.map (opd E tm):=by
  intro y hy;cases y with
  |none=>rfl
  |some z=>simp [hy z rfl]
 unfold chkA
 cases a with
 | plain=>
   simp only;cases ho:o.op<;>simp only [ho,Op.operands] at hop⊢;rename_i t x lo hi mx;rw [hop x (by simp),om lo (fun z hz=>hop z (by simp [hz])),om hi (fun z hz=>hop z (by simp [hz])),om mx (fun z hz=>hop z (by simp [hz]))]
 | frz=>
   simp only;cases ho:o.op<;>simp only [ho,Op.operands] at hop⊢
   · rename_i t n ps;have:(ps.toList.map fun p=>opd E tm' p.2)=ps.toList.map fun p=>opd E tm p.2:=List.map_congr_left fun p hp=>hop p.2 (by simpa using ⟨p.1,by simpa using hp⟩);rw [this]
   · rename_i f x c;rw [arr fun y hy=>hop y (by simp [hy]),arr fun y hy=>hop y (by simp [hy])]
   · rename_i c;cases hc:c.callee<;>simp only;rename_i f;rw [hop f (by simp [Call.operands,hc]),arr fun y hy=>hop y (by simp [Call.operands,hy])]
 | loc s=>
   simp only;cases ho:o.op<;>simp only<;>first|(rw [load ho];done)|(rw [store ho];done)|skip
 | _=>
   simp only;cases ho:o.op<;>simp only<;>first|(rw [load ho];done)|(rw [store ho];done)|skip
theorem stepA_eq (hw:wantedP ops tm' o=wantedP ops tm o) (hop: ∀x,x∈o.op.operands→opd E tm' x=opd E tm x) {s:RS} (h:stepA E cf fid ops o a (tm,H)=some s):
  stepA E cf fid ops o a (tm',H')=stepE E cf fid ops o (tm',H'):=by
 unfold stepA at h⊢;unfold stepE;dsimp only at h⊢;rw [hw]
 cases e:wantedP ops tm o with
 |none=>rfl
 | some b=>
   cases b with
   |false=>rfl
   | true=>
     rw [e] at h;dsimp only at h⊢;rw [chkA_agree hop]
     cases hc:chkA E o a tm with
     |true=>rfl
     |false=>rw [hc] at h;cases h
theorem app_get (tm X:List Val) (s:Nat):(tm++X)[s]? =if s<tm.length then tm[s]? else X[s-tm.length]? :=List.getElem?_append
theorem take_get {l:List Val} {len:Nat} {s:Nat} (h:s<len):(l.take len)[s]? =l[s]? :=by rw [List.getElem?_take,if_pos h]
theorem take_len {l:List Val} {len m:Nat} (h:l.length=len+m):(l.take len).length=len:=by rw [List.length_take];omega
theorem join_get {tm l:List Val} {len m:Nat} (ht:tm.length=len) (hl:l.length=len+m) (s:Nat):(tm++l.drop len)[s]? =if s<len then tm[s]? else l[s]? :=by
 rw [app_get,ht];split
 · rfl
 · rw [List.getElem?_drop];congr 1;omega
theorem stepP_loc {li:List Val} {Hi:Hp} {s1:RS} (hl:li.length=len+m) (hA:stepP E cf fid ops len o a (li,Hi)=some s1) (ha:annOK E fid o a=true) (hR: ∀s,s∈Rl ops o a→s<len):
  (∀s,s∉Wl o a→s1.1[s]? =li[s]?)∧(a.kd.isHeap=false→s1.2=Hi)∧s1.1.length=len+m∧
  ∀ l H,l.length=len+m→(∀s,s∈Rl ops o a→l[s]? =li[s]?)→
    (match a.kd with| .free=>True| .heap=>H=Hi| .read _=>wantedP ops (li.take len) o=some true→rdV E o (li.take len) H=rdV E o (li.take len) Hi)→
    ∃l',stepP E cf fid ops len o a (l,H)=some (l',if a.kd.isHeap then s1.2 else H)∧l'.length=len+m∧(∀s,s∈Wl o a→l'[s]? =s1.1[s]?)∧ ∀s,s∉Wl o a→l'[s]? =l[s]? :=by
 unfold stepP at hA;simp only at hA;split at hA
 case h_2=>cases hA
 rename_i t1 H1 hst;simp only [Option.some.injEq] at hA;subst hA;obtain ⟨g1,g2,g3,g4⟩:=step_loc hst ha;simp only at g1 g2 g3 g4;have hti:=take_len hl;have ht1:t1.length=len:=by rw [g3];exact hti
 have hWl: ∀s,s∈Wl o a→s<len:=fun s hs=>hR s (by
  simp only [Wl,Rl,List.mem_append] at hs⊢;rcases hs with hs|hs
  · exact .inr (.inr (.inl hs))
  · cases a with
    | loc s'=>
      simp only at hs⊢;split at hs
      · exact .inr (.inr (.inr hs))
      · simp at hs
    |_=>simp at hs)
 refine ⟨fun s hs=> ?_,g2,by simp [ht1,hl],fun l H hl' hag hk=> ?_⟩
 · simp only;rw [join_get ht1 hl];split
   · rename_i hlt;rw [g1 s hs,take_get hlt]
   · rfl
 · have hag': ∀s,s∈Rl ops o a→(l.take len)[s]? =(li.take len)[s]? :=fun s hs=>by rw [take_get (hR s hs),take_get (hR s hs)];exact hag s hs
   obtain ⟨tm',k1,k2,k3,k4⟩:=g4 (l.take len) H (by rw [take_len hl',hti]) hag' hk;have e:stepA E cf fid ops o a (l.take len,H)=stepE E cf fid ops o (l.take len,H):=
    stepA_eq (wanted_agree fun s hs=>hag' s (by simp [Rl,hs])) (opd_agree fun s hs=>hag' s (by simp [Rl,hs])) hst
   have hk2:tm'.length=len:=by rw [k2];exact hti
   refine ⟨tm'++l.drop len,?_,by simp [hk2,hl'],fun s hs=> ?_,fun s hs=> ?_⟩
   · unfold stepP;simp only;rw [e,k1]
   · rw [join_get hk2 hl',join_get ht1 hl,if_pos (hWl s hs),if_pos (hWl s hs)];exact k3 s hs
   · rw [join_get hk2 hl'];split
     · rename_i hlt;rw [k4 s hs,take_get hlt]
     · rfl
theorem makeAt_agree {id:Nat} (hop: ∀x,x∈o.op.operands→opd E tm' x=opd E tm x):makeAt E fid o tm' id=makeAt E fid o tm id:=by
 unfold makeAt;cases ho:o.op<;>simp only [ho,Op.operands] at hop⊢
 · rename_i t x;rw [hop x (by simp)]
 · rename_i t l c;rw [hop l (by simp),hop c (by simp)];rw [opMakeSlice_re (tm:=tm) (tm':=tm')]
   cases opMakeSlice E t (opd E tm l) (opd E tm c) tm ⟨id,[]⟩ with
   | ok v tm1 H1=>
     obtain ⟨n,l⟩:=H1;rcases l with _|⟨ob,_|⟨ob',l⟩⟩
     · rfl
     · cases ob<;>rfl
     · cases ob<;>rfl
   |_=>rfl
theorem callBeside_agree (hop: ∀x,x∈o.op.operands→opd E tm' x=opd E tm x):callBeside E n0 m o tm' H=callBeside E n0 m o tm H:=by unfold callBeside;cases ho:o.op<;>simp only [ho,Op.operands] at hop⊢;rename_i c;cases hc:c.callee<;>simp only;rename_i f;rw [hop f (by simp [Call.operands,hc]),map_congr_arr fun y hy=>hop y (by simp [Call.operands,hy])]
end
def resI (d:DI) (len i:Nat):List Nat:=match d.rs[i]? with
 |some (some j)=> [len+j]
 |_=> []
def opChkR (E:Env) (fid:Nat) (ops:Array Oper) (d:DI) (i:Nat):Bool:=match ops[i]?,d.anns[i]?,d.rs[i]? with
 |some o,some a,some r=>(match r with
  |none=>annOK E fid o a
  |some j=>Nat.blt j d.m&&(match a with| .plain=>true|_=>false))&&
  ((Rl ops o a).all fun x=>(at_ d.R i).contains x)&&((Wl o a).all fun x=>(at_ d.W i).contains x)&&((at_ d.W i).all fun x=>(Wl o a).contains x)&&
  (o.after.toList.all fun e=> !Region.binds .any e||Nat.blt e.on i)
 |_,_,_=>false
def distI (d:DI) (i j:Nat):Bool:=match d.rs[i]?,d.rs[j]? with
 |some (some x),some (some y)=> !Nat.beq x y
 |_,_=>true
def drawnOKR (E:Env) (fid:Nat) (ops:Array Oper) (d:DI):Bool:=
 Nat.ble d.M.length ops.size&&((List.range ops.size).all fun i=>opChkR E fid ops d i&&(genChk ops d i&&(rdChk ops.size d i&&(rd1Chk d i&&(List.range i).all fun j=>pairChk d j i&&distI d j i))))
theorem lowB_spec {n:Nat} {l:List (List Nat)} (h:lowB n l=true) {i s:Nat} (hs:s∈at_ l i):s<n:=by
 unfold at_ at hs;split at hs
 · rename_i x hx;have:=List.all_eq_true.1 h x (List.mem_of_getElem? hx);exact Nat.le_of_ble_eq_true (List.all_eq_true.1 this s hs)
 · simp at hs
section
variable {E:Env} {cf:CallF} {fid:Nat} {ops:Array Oper} {tm:List Val} {H:Hp} {n0 m len:Nat}
theorem runR_spec: ∀(os:List Oper) (as:List Ann) (rs:List (Option Nat)) (s s':RS),runR E cf fid ops n0 m len os as rs s=some s'→
  ∃σ:Nat→RS,σ 0=s∧σ os.length=s'∧ ∀i o,os[i]? =some o→ ∃a r,as[i]? =some a∧rs[i]? =some r∧stepR E cf fid ops n0 m len o a r (σ i)=some (σ (i+1)):=by
 intro os
 induction os with
 | nil=>
   intro as rs s s' h;refine ⟨fun _=>s,rfl,?_,fun i o h=>by simp at h⟩;cases as<;>cases rs<;>simpa [runR] using h
 | cons o os ih=>
   intro as rs s s' h
   cases as with
   |nil=>simp [runR] at h
   | cons a as=>
     cases rs with
     |nil=>simp [runR] at h
     | cons r rs=>
       simp only [runR] at h;split at h
       case h_2=>cases h
       rename_i s1 hs;obtain ⟨σ,h1,h2,h3⟩:=ih as rs s1 s' h;refine ⟨fun k=>match k with|0=>s|k+1=>σ k,rfl,h2,fun i o' ho=> ?_⟩
       cases i with
       | zero=>
         simp only [List.getElem?_cons_zero,Option.some.injEq] at ho;subst ho;exact ⟨a,r,rfl,rfl,by simp only;rw [h1];exact hs⟩
       |succ i=>simpa using h3 i o' (by simpa using ho)
def fR (E:Env) (cf:CallF) (fid:Nat) (ops:Array Oper) (d:DI) (n0 m len:Nat) (i:Nat) (s:RS):Option RS:=match ops[i]? with
 | some o=>match d.anns[i]?,d.rs[i]? with
   |some a,some r=>stepR E cf fid ops n0 m len o a r s
   |_,_=>none
 |none=>some s
def okR (E:Env) (fid m:Nat) (o:Oper) (a:Ann):Option Nat→Prop
 |none=>annOK E fid o a=true
 |some j=>j<m∧a= .plain
def rsl (len:Nat):Option Nat→List Nat
 |some j=> [len+j]
 |none=> []
def LocR' (E:Env) (cf:CallF) (fid:Nat) (ops:Array Oper) (n0 m len:Nat) (o:Oper) (a:Ann) (r:Option Nat) (li:List Val) (Hi:Hp) (s1:RS):Prop:=
    (∀s,s∉Wl o a→s∉rsl len r→s1.1[s]? =li[s]?)∧(a.kd.isHeap=false→s1.2=Hi)∧s1.1.length=len+m∧
    ∀ l H,l.length=len+m→(∀s,s∈Rl ops o a→l[s]? =li[s]?)→(∀s,s∈rsl len r→l[s]? =li[s]?)→
      (match a.kd with| .free=>True| .heap=>H=Hi| .read _=>wantedP ops (li.take len) o=some true→rdV E o (li.take len) H=rdV E o (li.take len) Hi)→
      ∃ l',stepR E cf fid ops n0 m len o a r (l,H)=some (l',if a.kd.isHeap then s1.2 else H)∧l'.length=len+m∧
        (∀s,(s∈Wl o a∨s∈rsl len r)→l'[s]? =s1.1[s]?)∧ ∀s,s∉Wl o a→s∉rsl len r→l'[s]? =l[s]?
theorem stepR_loc {o:Oper} {a:Ann} {r:Option Nat} {li:List Val} {Hi:Hp} {s1:RS} (hl:li.length=len+m) (hA:stepR E cf fid ops n0 m len o a r (li,Hi)=some s1)
  (ha:okR E fid m o a r) (hR: ∀s,s∈Rl ops o a→s<len):LocR' E cf fid ops n0 m len o a r li Hi s1:=by
 have other:stepP E cf fid ops len o a (li,Hi)=some s1→annOK E fid o a=true→r=none→(∀l H,(∀s,s∈Rl ops o a→l[s]? =li[s]?)→(a.kd.isHeap=true→H=Hi)→ ∀l',stepP E cf fid ops len o a (l,H)=some (l',if a.kd.isHeap then s1.2 else H)→
   stepR E cf fid ops n0 m len o a r (l,H)=some (l',if a.kd.isHeap then s1.2 else H))→LocR' E cf fid ops n0 m len o a r li Hi s1:=by
  intro h1 h2 h3 h4;subst h3;obtain ⟨g1,g2,g3,g4⟩:=stepP_loc hl h1 h2 hR;refine ⟨fun s hs _=>g1 s hs,g2,g3,fun l H hl' hag _ hk=> ?_⟩;obtain ⟨l',k1,k2,k3,k4⟩:=g4 l H hl' hag hk;refine ⟨l',h4 l H hag (fun hh=> ?_) l' k1,k2,fun s hs=>k3 s (hs.resolve_right (by simp [rsl])),fun s hs _=>k4 s hs⟩
  cases hk':a.kd with
  |heap=>rw [hk'] at hk;exact hk
  |free=>rw [hk'] at hh;cases hh
  |read ks=>rw [hk'] at hh;cases hh
 cases r with
 | none=>
   simp only [okR] at ha
   cases a with
   |read ks=>simp [stepR] at hA
   | heap=>
     simp only [stepR] at hA;split at hA
     case h_2=>cases hA
     rename_i hcb;split at hA
     case h_2=>cases hA
     rename_i s' hsp;split at hA
     case h_2=>cases hA
     rename_i hrs;simp only [Option.some.injEq] at hA;subst hA;refine other hsp ha rfl fun l H hag hH l' hl'=> ?_;have:=hH rfl;subst this;simp only [stepR];have hop:=opd_agree (E:=E) (tm:=li.take len) (tm':=l.take len) (o:=o) fun s hs=>by have:=hR s (by simp [Rl,hs]);rw [take_get this,take_get this];exact hag s (by simp [Rl,hs])
     rw [callBeside_agree hop];rw [hcb];simp only;rw [hl'];simp only [Ann.kd,Kd.isHeap,if_true];rw [hrs]
   |plain=>exact other (by simpa [stepR] using hA) ha rfl fun l H _ _ l' hl'=>by simpa [stepR] using hl'
   |frz=>exact other (by simpa [stepR] using hA) ha rfl fun l H _ _ l' hl'=>by simpa [stepR] using hl'
   |loc s=>exact other (by simpa [stepR] using hA) ha rfl fun l H _ _ l' hl'=>by simpa [stepR] using hl'
   |rd1 k=>exact other (by simpa [stepR] using hA) ha rfl fun l H _ _ l' hl'=>by simpa [stepR] using hl'
 | some j=>
   obtain ⟨hj,rfl⟩:=ha;simp only [stepR] at hA;split at hA
   case h_2=>cases hA
   rename_i hu hwt;split at hA
   case h_2=>cases hA
   rename_i v c hmk;split at hA
   case h_2=>cases hA
   rename_i tm1 hp;simp only [Option.some.injEq] at hA;subst hA;have hp2:put2 E fid o.dst v (li.take len) Hi=some (tm1,Hi):=by unfold put2;rw [hp]
   obtain ⟨e1,e2⟩:=put2_some hp2;simp only [Prod.mk.injEq,and_true] at e1;subst e1;have hti:=take_len hl;have hW:Wl o .plain=o.dst.toList:=by simp [Wl]
   have hd: ∀s,s∈o.dst.toList→s<len:=fun s hs=>hR s (by simp only [Rl,List.mem_append];exact .inr (.inr (.inl hs)));have hlen: ∀l:List Val,l.length=len+m→(setT (putT o.dst v (l.take len)++l.drop len) (len+j) c).length=len+m:=by intro l hl';rw [setT_length,List.length_append,putT_len,take_len hl',List.length_drop];omega
   have hget: ∀l:List Val,l.length=len+m→ ∀s,(setT (putT o.dst v (l.take len)++l.drop len) (len+j) c)[s]? =if s=len+j then some c else if s<len then (putT o.dst v (l.take len))[s]? else l[s]? :=by
    intro l hl' s;rw [setT_get,join_get (by rw [putT_len,take_len hl']) hl'];have:(putT o.dst v (l.take len)++l.drop len).length=len+m:=by rw [List.length_append,putT_len,take_len hl',List.length_drop];omega
    rw [this];by_cases e:s=len+j
    · subst e;rw [if_pos ⟨rfl,by omega⟩,if_pos rfl]
    · rw [if_neg (fun h=>e h.1.symm),if_neg e]
   refine ⟨fun s hs hs'=> ?_,fun _=>rfl,hlen li hl,fun l H hl' hag hag2 _=> ?_⟩
   · simp only;rw [hget li hl,if_neg (by simpa [rsl] using hs')];split
     · rename_i hlt;rw [(putT_get (tm:=li.take len) rfl s).2 (by rw [←hW];exact hs),take_get hlt]
     · rfl
   · have hag': ∀s,s∈Rl ops o .plain→(l.take len)[s]? =(li.take len)[s]? :=fun s hs=>by rw [take_get (hR s hs),take_get (hR s hs)];exact hag s hs
     have hop:=opd_agree (E:=E) (tm:=li.take len) (tm':=l.take len) (o:=o) fun s hs=>hag' s (by simp [Rl,hs]);have hw:=wanted_agree (ops:=ops) (tm:=li.take len) (tm':=l.take len) (o:=o) fun s hs=>hag' s (by simp [Rl,hs]);refine ⟨setT (putT o.dst v (l.take len)++l.drop len) (len+j) c,?_,hlen l hl',fun s hs=> ?_,fun s hs hs'=> ?_⟩
     · simp only [stepR];have hg:getT l (len+j)=getT li (len+j):=getT_congr (hag2 _ (by simp [rsl]));rw [hg,hw,hu,hwt];simp only;rw [makeAt_agree hop,hmk];simp only;have:=e2 (l.take len) H;unfold put2 at this;split at this
       · rename_i tm2 hp';simp only [Option.some.injEq,Prod.mk.injEq,and_true] at this;subst this;simp [Ann.kd,Kd.isHeap]
       · cases this
     · simp only;rw [hget l hl',hget li hl];by_cases e:s=len+j
       · rw [if_pos e,if_pos e]
       · rw [if_neg e,if_neg e];have hs:s∈Wl o .plain:=hs.resolve_right (by simpa [rsl] using e);rw [hW] at hs;have hlt:=hd s hs;rw [if_pos hlt,if_pos hlt];exact (putT_get (by rw [take_len hl',hti]) s).1 hs
     · rw [hget l hl',if_neg (by simpa [rsl] using hs')];split
       · rename_i hlt;rw [(putT_get (tm:=l.take len) rfl s).2 (by rw [←hW];exact hs),take_get hlt]
       · rfl
theorem evalDrawnR_runs {d:DI} (hd:drawnOKR E fid ops d=true) (hlR:lowB len d.R=true) (hlW:lowB len d.W=true) {s s':RS} (hl:s.1.length=len+d.m) (h:runR E cf fid ops n0 d.m len ops.toList d.anns d.rs s=some s'):
  ∃σ R W bef,Runs ops.size (len+d.m) (fR E cf fid ops d n0 d.m len) σ R W (kdI d) bef∧Preds ops bef∧σ 0=s∧σ ops.size=s'∧s'.1.length=len+d.m:=by
 obtain ⟨σ,t1,t2,t3⟩:=runR_spec _ _ _ _ _ h;have t2:σ ops.size=s':=by simpa using t2
 simp only [drawnOKR,Bool.and_eq_true,List.all_eq_true,List.mem_range] at hd;obtain ⟨hM,hall⟩:=hd;have hM:=Nat.le_of_ble_eq_true hM;have hop: ∀i,i<ops.size→ ∃o a r,ops[i]? =some o∧d.anns[i]? =some a∧d.rs[i]? =some r∧okR E fid d.m o a r∧(∀x,x∈Rl ops o a→x∈at_ d.R i)∧(∀x,x∈Wl o a→x∈at_ d.W i)∧(∀x,x∈at_ d.W i→x∈Wl o a)∧
   (∀e,e∈o.after→Region.binds .any e=true→e.on<i)∧stepR E cf fid ops n0 d.m len o a r (σ i)=some (σ (i+1)):=by
  intro i hi;have h1:=(hall i hi).1;unfold opChkR at h1;have ho:ops[i]? =some ops[i]:=by simp [hi]
  obtain ⟨a,r,e1,e2,e4⟩:=t3 i ops[i] (by simp [hi]);rw [ho,e1,e2] at h1;simp only [Bool.and_eq_true,List.all_eq_true,Bool.or_eq_true,Bool.not_eq_true',List.contains_iff_mem] at h1;refine ⟨ops[i],a,r,ho,e1,e2,?_,h1.1.1.1.2,h1.1.1.2,h1.1.2,fun e he hb=> ?_,e4⟩
  · have h2:=h1.1.1.1.1
    cases r with
    |none=>exact h2
    | some j=>
      simp only [Bool.and_eq_true] at h2;refine ⟨Nat.le_of_ble_eq_true h2.1,?_⟩;cases a<;>first|rfl|(cases h2.2)
  · rcases h1.2 e (by simpa using he) with h|h
    · rw [hb] at h;cases h
    · exact Nat.le_of_ble_eq_true h
 have hRlow: ∀i o a,(∀x,x∈Rl ops o a→x∈at_ d.R i)→ ∀s,s∈Rl ops o a→s<len:=fun i o a h s hs=>lowB_spec hlR (h s hs);have hlen: ∀i,i≤ops.size→(σ i).1.length=len+d.m:=by
  intro i
  induction i with
  |zero=>intro _;rw [t1];exact hl
  | succ i ih=>
    intro hi;obtain ⟨o,a,r,o1,o2,or,o3,o4,o5,o5',o6,o7⟩:=hop i (by omega);exact (stepR_loc (li:=(σ i).1) (Hi:=(σ i).2) (ih (by omega)) o7 o3 (hRlow i o a o4)).2.2.1
 have hres: ∀i r,d.rs[i]? =some r→resI d len i=rsl len r:=by intro i r h;unfold resI;rw [h];cases r<;>rfl
 have bef_lt: ∀i j,befI d i j=true→j<ops.size:=by
  intro i j h;unfold befI at_ at h;split at h
  · rename_i x hx;have:=(List.getElem?_eq_some_iff.1 hx).1;omega
  · simp at h
 have gen: ∀i j,befI d j i=true→j<i∧ ∃o e,ops[i]? =some o∧e∈o.after∧Region.binds .any e=true∧(e.on=j∨befI d j e.on=true):=by
  intro i j hj;have hi:=bef_lt j i hj;have h1:=(hall i hi).2.1;unfold genChk at h1;have h2:=List.all_eq_true.1 h1 j (by simpa [befI] using hj);simp only [Bool.and_eq_true] at h2;refine ⟨Nat.le_of_ble_eq_true h2.1,?_⟩;have ho:ops[i]? =some ops[i]:=by simp [hi]
  rw [ho] at h2;simp only [List.any_eq_true,Bool.and_eq_true,Bool.or_eq_true] at h2;obtain ⟨e,e1,e2,e3⟩:=h2.2;exact ⟨ops[i],e,ho,by simpa using e1,e2,e3.imp Nat.eq_of_beq_eq_true id⟩
 have pair: ∀i j,i<j→j<ops.size→befI d i j=true∨((∀s,s∈at_ d.W i→s∈at_ d.W j→False)∧(∀s,s∈at_ d.W i→s∈at_ d.R j→False)∧(∀s,s∈at_ d.R i→s∈at_ d.W j→False)∧
   ((kdI d i).isHeap=true→(kdI d j).isHeap=true→False)):=by
  intro i j hij hj;have h1:=((hall j hj).2.2.2.2 i (by simpa using hij)).1;simp only [pairChk,Bool.or_eq_true,Bool.and_eq_true] at h1;refine h1.imp id fun h=>⟨fun s h1 h2=>dj_spec h.1 h1 h2,fun s h1 h2=>dj_spec h.2.1 h1 h2,fun s h1 h2=>dj_spec h.2.2.1 h1 h2,fun h1 h2=> ?_⟩;have:=h.2.2.2;simp [heapI,h1,h2] at this
 have rspair: ∀i j s,i<j→j<ops.size→s∈resI d len i→s∈resI d len j→False:=by
  intro i j s hij hj h1 h2;have h3:=((hall j hj).2.2.2.2 i (by simpa using hij)).2;unfold distI at h3;unfold resI at h1 h2;split at h1
  case h_2=>simp at h1
  rename_i x hx;split at h2
  case h_2=>simp at h2
  rename_i y hy;rw [hx,hy] at h3;simp only [List.mem_singleton] at h1 h2;simp only [Bool.not_eq_true'] at h3;have:x=y:=by omega
  subst this;simp at h3
 have rsge: ∀i s,s∈resI d len i→len≤s:=by
  intro i s h;unfold resI at h;split at h
  · simp only [List.mem_singleton] at h;omega
  · simp at h
 have lowR: ∀i s,s∈at_ d.R i→s<len:=fun i s h=>lowB_spec hlR h;have lowW: ∀i s,s∈at_ d.W i→s<len:=fun i s h=>lowB_spec hlW h;have tri: ∀(A B:Nat→List Nat) (i j s:Nat),(∀i s,s∈A i→s<len)→(∀i s,s∈B i→s<len)→i<j→j<ops.size→s∈A i++resI d len i→s∈B j++resI d len j→(s∈A i∧s∈B j):=by
  intro A B i j s hA hB hij hj h1 h2;simp only [List.mem_append] at h1 h2;rcases h1 with h1|h1
  · rcases h2 with h2|h2
    · exact ⟨h1,h2⟩
    · have:=hA i s h1;have:=rsge j s h2;omega
  · rcases h2 with h2|h2
    · have:=hB j s h2;have:=rsge i s h1;omega
    · exact (rspair i j s hij hj h1 h2).elim
 refine ⟨σ,fun i=>at_ d.R i++resI d len i,fun i=>at_ d.W i++resI d len i,befI d,⟨hlen 0 (by omega),fun i j h=>(gen j i h).1,?_,?_,?_,?_,?_,?_,?_⟩,⟨?_,gen⟩,t1,t2,by rw [←t2];exact hlen _ (Nat.le_refl _)⟩
 ·
  intro i hi l H' hl' hR hK;obtain ⟨o,a,r,o1,o2,or,o3,o4,o5,o5',o6,o7⟩:=hop i hi;obtain ⟨g1,g2,g3,g4⟩:=stepR_loc (li:=(σ i).1) (Hi:=(σ i).2) (hlen i (by omega)) o7 o3 (hRlow i o a o4);have hk:kdI d i=a.kd:=by simp [kdI,o2]
  rw [hk] at hK ⊢;have hri:=hres i r or;obtain ⟨l'',k1,k2,k3,k4⟩:=g4 l H' hl' (fun s hs=>hR s (by simp [o4 s hs])) (fun s hs=>hR s (by rw [hri];simp only [List.mem_append];exact .inr hs)) (by
   cases a with
   |heap=>exact hK
   | read ks=>
     cases r with
     |some j=>cases o3.2
     |none=>simp [stepR] at o7
   | rd1 k0=>
     simp only [Ann.kd,List.mem_singleton] at hK⊢;obtain ⟨k,rfl,rfl⟩:=hK;intro _;have h1:=(hall i hi).2.2.2.1;simp only [rd1Chk,o2,Bool.and_eq_true,List.all_eq_true,List.mem_range,Bool.or_eq_true,Bool.not_eq_true'] at h1;have hki:=Nat.le_of_ble_eq_true h1.1;have same: ∀q,k≤q→q≤i→(σ q).2=(σ k).2:=by
      intro q
      induction q with
      | zero => intro h _;have:k=0:=by omega
                subst this;rfl
      | succ q ihm=>
        intro h1' h2';by_cases e:k=q+1
        · subst e;rfl
        · rw [←ihm (by omega) (by omega)];obtain ⟨o',a',r',p1,p2,pr,p3,p4,p5,p5',p6,p7⟩:=hop q (by omega);have hnh:heapI d q=false:=by
           rcases h1.2 q (by omega) with h|h
           · have:=Nat.le_of_ble_eq_true h;omega
           · exact h
          refine (stepR_loc (li:=(σ q).1) (Hi:=(σ q).2) (hlen q (by omega)) p7 p3 (hRlow q o' a' p4)).2.1 ?_;simpa [heapI,kdI,p2] using hnh
     rw [same i hki (Nat.le_refl _)]
   |_=>trivial)
  refine ⟨l'',by unfold fR;simp only [o1,o2,or];exact k1,k2,fun s hs=> ?_,fun s hs=> ?_⟩
  · simp only [List.mem_append] at hs;refine k3 s (hs.imp (o5' s) fun h=>by rw [hri] at h;exact h)
  · simp only [List.mem_append,not_or] at hs;exact k4 s (fun h=>hs.1 (o5 s h)) (fun h=>hs.2 (by rw [hri];exact h))
 · intro i hi;obtain ⟨o,a,r,o1,o2,or,o3,o4,o5,o5',o6,o7⟩:=hop i hi;obtain ⟨g1,g2,g3,g4⟩:=stepR_loc (li:=(σ i).1) (Hi:=(σ i).2) (hlen i (by omega)) o7 o3 (hRlow i o a o4);have hri:=hres i r or;refine ⟨fun s hs=> ?_,fun h=>g2 (by simpa [kdI,o2] using h)⟩;simp only [List.mem_append,not_or] at hs;exact g1 s (fun h=>hs.1 (o5 s h)) (fun h=>hs.2 (by rw [hri];exact h))
 · intro i j s h1 h2 h3 h4;obtain ⟨q1,q2⟩:=tri (at_ d.W) (at_ d.W) i j s lowW lowW h1 h2 h3 h4;exact (pair i j h1 h2).resolve_right fun h=>h.1 s q1 q2
 · intro i j s h1 h2 h3 h4;obtain ⟨q1,q2⟩:=tri (at_ d.W) (at_ d.R) i j s lowW lowR h1 h2 h3 h4;exact (pair i j h1 h2).resolve_right fun h=>h.2.1 s q1 q2
 · intro i j s h1 h2 h3 h4;obtain ⟨q1,q2⟩:=tri (at_ d.R) (at_ d.W) i j s lowR lowW h1 h2 h3 h4;exact (pair i j h1 h2).resolve_right fun h=>h.2.2.1 s q1 q2
 · intro i j h1 h2 h3 h4;exact (pair i j h1 h2).resolve_right fun h=>h.2.2.2 h3 h4
 · intro i ks hi hk;have h1:=(hall i hi).2.2.1;simp only [rdChk,hk,Bool.and_eq_true,Bool.or_eq_true,List.any_eq_true,List.all_eq_true,List.mem_range,Bool.not_eq_true'] at h1;refine ⟨h1.1.imp (by simp) (fun ⟨j,j1,j2,j3⟩=>⟨j,j2,j3⟩),fun j hj hh=> ?_⟩;rcases h1.2 j hj with h|h|h|⟨j',j1,j2,j3,j4⟩
   · rw [show heapI d j=true from hh] at h;cases h
   · exact .inl (by simpa using h)
   · exact .inr (.inl h)
   · exact .inr (.inr ⟨j',Nat.le_of_ble_eq_true j2,j1,j3,j4⟩)
 · intro i o e ho he hb;obtain ⟨o',a,r,o1,o2,or,o3,o4,o5,o5',o6,o7⟩:=hop i (Array.getElem?_eq_some_iff.1 ho).1;rw [ho] at o1;cases o1;exact o6 e he hb
end
section
variable {E:Env} {P:Program} (hE:EnvOK E P) {loc:Nat→Bool} {κ0 κ:Kr} {w0 w:World} {β:Nat→Option Nat} {tm X:List Val} {Hc:Hp} {cf:CallF} {fid:Nat} {ops:Array Oper} {ds:List (Nat×List Val)} {a:Act} {n0:Nat} {d:DI} {len:Nat}
include hE in
theorem evalR_ok (hcf: ∀f args H,CallOK E P f args H (cf f args H)) (hloc:loc=E.loc fid) (hd:drawnOKR E fid ops d=true) {Q:Exit→Act→World→Prop}:
  ∀ (l:List Nat) (κ:Kr) (w:World) (β:Nat→Option Nat) (tm X:List Val) (Hc:Hp) (a:Act) (s':RS),tm.length=len→StX E loc κ0 w0 n0 d.m κ w β tm X Hc ds a→
    runL (fR E cf fid ops d n0 d.m len) l (tm++X,Hc)=some s'→NextX E loc κ0 w0 n0 d.m ds s' (Q .normal)→wpOps P ops Q l a w:=by
 intro l
 induction l with
 | nil=>
   intro κ w β tm X Hc a s' _ sx h hN;simp only [runL,Option.some.injEq] at h;subst h;exact hN _ _ _ _ _ _ rfl sx
 | cons i l ih=>
   intro κ w β tm X Hc a s' htl sx h hN;simp only [runL] at h;split at h
   case h_2=>cases h
   rename_i s1 hs;simp only [wpOps];unfold fR at hs
   cases ho:ops[i]? with
   | none=>
     rw [ho] at hs;simp only [Option.some.injEq] at hs;subst hs;exact ih κ w β tm X Hc a s' htl sx h hN
   | some o=>
     rw [ho] at hs;simp only at hs⊢;split at hs
     case h_2=>cases hs
     rename_i an r han hr;have hi:i<ops.size:=(Array.getElem?_eq_some_iff.1 ho).1;have hck:okR E fid d.m o an r:=by
      simp only [drawnOKR,Bool.and_eq_true,List.all_eq_true,List.mem_range] at hd;have h1:=(hd.2 i hi).1;unfold opChkR at h1;rw [ho,han,hr] at h1;simp only [Bool.and_eq_true] at h1;have h2:=h1.1.1.1.1
      cases r with
      |none=>exact h2
      | some j=>
        simp only [Bool.and_eq_true] at h2;refine ⟨Nat.le_of_ble_eq_true h2.1,?_⟩;cases an<;>first|rfl|(cases h2.2)
     have hxl:=sx.xl;have htake:(tm++X).take len=tm:=by rw [←htl];simp
     have hdrop:(tm++X).drop len=X:=by rw [←htl];simp
     have hN1:NextX E loc κ0 w0 n0 d.m ds s1 (wpOps P ops Q l)∨s1.1.length≠len+d.m:=by
      by_cases hl1:s1.1.length=len+d.m
      · left;intro κ' w' β' tm' X' a' he sx';have:tm'.length=len:=by have h2:=sx'.xl;have h3:=congrArg List.length he;rw [hl1,List.length_append] at h3;omega
        refine ih κ' w' β' tm' X' s1.2 a' s' this sx' ?_ hN;rw [←he];exact h
      · exact .inr hl1
     have fin: ∀ {next:Act→World→Prop},((Region.wanted o (yielded ops a.tmps)=true∧o.wp P a w next Q)∨(Region.wanted o (yielded ops a.tmps)=false∧next (a.put o.dst undef) w))→
       (if Region.wanted o (yielded ops a.tmps)=true then o.wp P a w next Q∨(o.asks P a w∧LetsOut Q) else next (a.put o.dst undef) w):=by
      intro next h
      rcases h with ⟨h1,h2⟩|⟨h1,h2⟩
      · rw [if_pos h1];exact .inl h2
      · rw [if_neg (by rw [h1];simp)];exact h2
     have other:stepP E cf fid ops len o an (tm++X,Hc)=some s1→annOK E fid o an=true→an.kd.isHeap=false→
       (if Region.wanted o (yielded ops a.tmps)=true then o.wp P a w (wpOps P ops Q l) Q∨(o.asks P a w∧LetsOut Q) else wpOps P ops Q l (a.put o.dst undef) w):=by
      intro hs ha hna;unfold stepP at hs;simp only [htake,hdrop] at hs;split at hs
      case h_2=>cases hs
      rename_i tm1 H1 hst;simp only [Option.some.injEq] at hs;subst hs;have hl1:=(step_loc hst ha).2.2.1;simp only at hl1;refine fin (stepP_ok hE hcf hloc ha hna sx hst (hN1.resolve_right ?_));simp only [ne_eq,Classical.not_not,List.length_append];omega
     cases r with
     | none=>
       simp only [okR] at hck
       cases an with
       |read ks=>simp [stepR] at hs
       |plain=>exact other (by simpa [stepR] using hs) hck rfl
       |frz=>exact other (by simpa [stepR] using hs) hck rfl
       |loc q=>exact other (by simpa [stepR] using hs) hck rfl
       |rd1 k=>exact other (by simpa [stepR] using hs) hck rfl
       | heap=>
         simp only [stepR,htake] at hs;split at hs
         case h_2=>cases hs
         rename_i hcb;split at hs
         case h_2=>cases hs
         rename_i s2 hsp;split at hs
         case h_2=>cases hs
         rename_i hrs;simp only [Option.some.injEq] at hs;subst hs;unfold stepP at hsp;simp only [htake,hdrop] at hsp;split at hsp
         case h_2=>cases hsp
         rename_i tm1 H1 hst;simp only [Option.some.injEq] at hsp;subst hsp;simp only [Bool.and_eq_true] at hrs;have hl1:=(step_loc hst hck).2.2.1;simp only at hl1;refine fin (stepC_ok hcf hloc sx hcb hst hrs.1 (Nat.le_of_ble_eq_true hrs.2) (hN1.resolve_right ?_));simp only [ne_eq,Classical.not_not,List.length_append];omega
     | some j=>
       obtain ⟨hj,rfl⟩:=hck;simp only [stepR,htake,hdrop] at hs;split at hs
       case h_2=>cases hs
       rename_i hu hwt;split at hs
       case h_2=>cases hs
       rename_i v c hmk;split at hs
       case h_2=>cases hs
       rename_i tm1 hp;simp only [Option.some.injEq] at hs;subst hs;have hp2:put2 E fid o.dst v tm Hc=some (tm1,Hc):=by unfold put2;rw [hp]
       obtain ⟨e1,_⟩:=put2_some hp2;simp only [Prod.mk.injEq,and_true] at e1;have htm1:tm1.length=len:=by rw [e1,putT_len,htl]
       have hgx:getT (tm++X) (len+j)=getT X j:=by rw [getT_eq,getT_eq,app_get,if_neg (by omega)];congr 2;omega
       have hset:setT (tm1++X) (len+j) c=tm1++setT X j c:=by
        refine List.ext_getElem? fun s=> ?_;rw [setT_get,app_get,app_get,setT_get,List.length_append,htm1,hxl];by_cases e:s<len
        · rw [if_neg (by omega),if_pos e,if_pos e]
        · rw [if_neg e,if_neg e];by_cases e2:s=len+j
          · subst e2;rw [if_pos ⟨rfl,by omega⟩,if_pos ⟨by omega,by omega⟩]
          · rw [if_neg (by omega),if_neg (by omega)]
       rw [hset] at hN1;refine fin (.inl (stepN_ok hE hloc hj sx (by rw [←hgx];exact hu) hwt hmk hp (hN1.resolve_right ?_)));simp only [ne_eq,Classical.not_not,List.length_append,setT_length];omega
end
theorem push_rsv {κ:Kr} {H:Hp} {w:World} (hw:WR κ H w):WR κ (H.push .rsv) w:=by
 refine ⟨hw.frz,hw.mps,hw.mmap,Hp.push_len _ _ hw.len,fun id o h=> ?_,fun id g y h=>by have:=hw.dom _ _ _ h;simp only [Hp.push];omega,hw.blk,hw.sep⟩;rw [Hp.get_push _ hw.len] at h;split at h
 · rename_i e;subst e;simp only [Option.some.injEq] at h;subst h;intro g
   cases hg:κ.μ H.n g with
   |none=>rfl
   |some y=>have:=hw.dom _ _ _ hg;omega
 · exact hw.obj _ _ h
theorem pushR_ok {κ:Kr} {w:World}: ∀(m:Nat) (H:Hp),WR κ H w→WR κ (pushR m H) w∧(pushR m H).n=H.n+m∧(∀id,id<H.n→(pushR m H).get id=H.get id)∧ ∀j,j<m→(pushR m H).get (H.n+j)=some .rsv
 |0,H,hw=>⟨hw,rfl,fun _ _=>rfl,fun j h=>by omega⟩
 | m + 1,H,hw=>by
   obtain ⟨h1,h2,h3,h4⟩:=pushR_ok m (H.push .rsv) (push_rsv hw);refine ⟨h1,by show (pushR m (H.push .rsv)).n=_;rw [h2];simp only [Hp.push];omega,fun id hid=> ?_,fun j hj=> ?_⟩
   · show (pushR m (H.push .rsv)).get id=_;rw [h3 id (by simp only [Hp.push];omega),Hp.get_push _ hw.len,if_neg (by omega)]
   · show (pushR m (H.push .rsv)).get (H.n+j)=_
     cases j with
     | zero=>
       rw [Nat.add_zero,h3 H.n (by simp [Hp.push]),Hp.get_push _ hw.len,if_pos rfl]
     | succ j=>
       have:=h4 j (by omega);simp only [Hp.push] at this;rw [show H.n+(j+1)=H.n+1+j by omega];exact this
theorem fill_none (m:Nat): ∀(n:Nat) (H:Hp),fillX n (List.replicate m (.tup [])) H=H:=by
 induction m with
 |zero=>intro n H;rfl
 |succ m ih=>intro n H;simp only [List.replicate_succ,fillX,unX];exact ih _ _
section
variable {E:Env} {P:Program} (hE:EnvOK E P) {loc:Nat→Bool} {κ0 κ:Kr} {w0 w:World} {β:Nat→Option Nat} {tm:List Val} {H:Hp} {cf:CallF} {fid:Nat} {ops:Array Oper} {ds:List (Nat×List Val)} {a:Act} {d:DI}
theorem startX (st:StD E loc κ0 w0 κ H w β tm ds a) (m:Nat):StX E loc κ0 w0 H.n m κ w β tm (List.replicate m (.tup [])) (pushR m H) ds a:=by
 obtain ⟨h1,h2,h3,h4⟩:=pushR_ok m H st.wr;refine ⟨?_,by simp,h1.len,by omega,h4,fun _ id o ho=> ?_⟩
 · rw [fill_none];exact ⟨h1,st.gok,st.tr,st.fr,st.lb,st.dk,st.dm⟩
 · have hlt:=Hp.get_lt ho;by_cases hid:id<H.n
   · rw [h3 id hid] at ho;exact st.wr.idb ho
   · have:=h4 (id-H.n) (by omega);rw [show H.n+(id-H.n)=id by omega,ho] at this;simp only [Option.some.injEq] at this;subst this;trivial
include hE in
theorem regionR_ok (hm:P.follows .mixedOrders=true) (hcf: ∀f args H,CallOK E P f args H (cf f args H)) (hloc:loc=E.loc fid) (hd:drawnOKR E fid ops d=true) {Q:Exit→Act→World→Prop} {id:Nat}
  (st:StD E loc κ0 w0 κ H w β tm ds a) {tm':List Val} {H':Hp} (h:evalDrawnR E cf fid ops d tm H=some (tm',H')) (hQ: ∀e a w,PostC E loc κ0 w0 (.normal tm' H' ds) e a w→Q e a w)
  (hdr: ∀n,WR κ H {w with drawn:=n}∧Fr κ.own κ κ w {w with drawn:=n}):(Code.region id ops true).wp P Q a w:=by
 unfold evalDrawnR at h;split at h
 case h_2=>cases h
 rename_i hlow;simp only [Bool.and_eq_true] at hlow;split at h
 case h_2=>cases h
 rename_i s hs;simp only [Option.some.injEq,Prod.mk.injEq] at h;obtain ⟨e1,e2⟩:=h;obtain ⟨σ,R,W,bef,hrun,hP,h0,hn,hl0⟩:=evalDrawnR_runs hd hlow.1 hlow.2 (by simp) hs;refine wp_region_draw fun t=> ?_;rw [hm];have hany:=hrun.any hP t;rw [h0,hn] at hany;obtain ⟨d1,d2⟩:=hdr (w.drawn+1);have st':StD E loc κ0 w0 κ H {w with drawn:=w.drawn+1} β tm ds a:=St.step st d1 d2;refine evalR_ok hE hcf hloc hd _ κ _ β tm _ _ a s rfl (startX st' d.m) hany ?_;intro κ1 w1 β1 tm1 X1 a1 he sx;refine hQ _ _ _ ⟨rfl,κ1,β1,?_⟩;have hl1:tm1.length=tm.length:=by have h1:=congrArg List.length he;rw [List.length_append,sx.xl] at h1;omega
 rw [he,←hl1] at e1 e2;simp only [List.take_left,List.drop_left] at e1 e2;rw [←e1,←e2];exact sx.st
end
section
variable {E:Env} {P:Program} {loc:Nat→Bool} {κ0 κ:Kr} {w0 w:World} {β:Nat→Option Nat} {tm:List Val} {H:Hp} {cf:CallF} {fid:Nat} {ops:Array Oper}
theorem stepE_evalOps {o:Oper} {rest:List Oper} {s':RS} {ds:List (Nat×List Val)} (hnd: ∀c,o.op≠ .defer c) (h:stepE E cf fid ops o (tm,H)=some s'):
  evalOps E cf fid ops (o::rest) tm H ds=evalOps E cf fid ops rest s'.1 s'.2 ds:=by
 unfold stepE at h;simp only at h;split at h
 · rename_i hw;rw [evalOps_plain hnd hw];unfold stepOk at h;split at h
   · rename_i v tm1 H1 hev;rw [hev];simp only;unfold put2 at h;split at h
     · rename_i tm2 hp;simp only [Option.some.injEq] at h;subst h;rw [hp]
     · cases h
   · cases h
 · rename_i hw;unfold put2 at h;split at h
   · rename_i tm2 hp;simp only [Option.some.injEq] at h;subst h;simp only [evalOps,hw,hp]
   · cases h
 · cases h
theorem runL_evalOps (hnd: ∀(i:Nat) (o:Oper),ops[i]? =some o→ ∀c,o.op≠ .defer c) {ds:List (Nat×List Val)}: ∀(l:List Nat) (s s':RS),
  runL (fun i s=>match ops[i]? with|some o=>stepE E cf fid ops o s|none=>some s) l s=some s'→
  evalOps E cf fid ops (l.filterMap (ops[·]?)) s.1 s.2 ds= .normal s'.1 s'.2 ds:=by
 intro l
 induction l with
 |nil=>intro s s' h;simp only [runL,Option.some.injEq] at h;subst h;rfl
 | cons i l ih=>
   intro s s' h;simp only [runL] at h
   cases ho:ops[i]? with
   | none=>
     simp only [ho] at h;simp only [List.filterMap_cons,ho];exact ih s s' h
   | some o=>
     simp only [ho] at h;simp only [List.filterMap_cons,ho];split at h
     · rename_i s1 hs;rw [stepE_evalOps (hnd i o ho) (s':=s1) hs];exact ih s1 s' h
     · cases h
theorem drawn_nodefer {d:DI} (hd:drawnOK E fid ops d=true): ∀(i:Nat) (o:Oper),ops[i]? =some o→ ∀c,o.op≠ .defer c:=by
 intro i o ho c hc;simp only [drawnOK,Bool.and_eq_true,List.all_eq_true,List.mem_range] at hd;have h1:=(hd.2 i (Array.getElem?_eq_some_iff.1 ho).1).1;unfold opChk at h1;rw [ho] at h1;split at h1
 · rename_i o' a e1 e2;cases e1;simp only [Bool.and_eq_true] at h1;have:=h1.1.1.1.1;unfold annOK at this;rw [hc] at this;cases a<;>cases this
 · cases h1
theorem WR.drawn {κ:Kr} {H:Hp} {w:World} (n:Nat) (h:WR κ H w):WR κ H {w with drawn:=n}:=
 ⟨h.frz,h.mps,h.mmap,h.len,fun id o ho=>by
  have:=h.obj id o ho
  cases o with
  | cells g d r cs=>
    obtain ⟨b,C,k⟩:=this;exact ⟨b,C,k.at_,k.room,k.sle,k.free,k.gh,k.cont,k.wr,k.last,k.dle,k.ety⟩
  | map frz ks vs=>
    obtain ⟨b,es,c,k⟩:=this;exact ⟨b,es,c,k.at_,k.lies,k.nk,k.nv,k.keys,k.vals,k.free⟩
  | iter a b c=>
    obtain ⟨b',s,k⟩:=this;exact ⟨b',s,k.at_,k.lies,k.size,k.num,k.free⟩
  |gone=>trivial
  |rsv=>exact this,h.dom,h.blk,h.sep⟩
theorem Fr.drawn {κ:Kr} {w:World} (n:Nat) {own:Nat→Prop} (h: ∀b,κ.own b→own b):Fr own κ κ w {w with drawn:=n}:=
 ⟨Nat.le_refl _,fun _ _ _=>rfl,fun _ _ _ h=>h,fun _ _ _ h=> .inl h,fun _ _ h=>h,fun _ _ h=> .inl h,fun b hb=> .inl (h b hb),fun _ _ _ h=>h,rfl,rfl,rfl⟩
def regionsOK (E:Env) (okDraw:DrawT) (fid:Nat):Code→Bool
 | .region id ops true=>match okDraw fid id with
   | some d=>(match d.rs with
     | []=>drawnOK E fid ops d
     |_::_=>drawnOKR E fid ops d)
   |none=>true
 | .seq a b=>regionsOK E okDraw fid a&&regionsOK E okDraw fid b
 | .cond _ a b=>regionsOK E okDraw fid a&&regionsOK E okDraw fid b
 | .block _ a=>regionsOK E okDraw fid a
 | .loop a=>regionsOK E okDraw fid a
 |_=>true
theorem range_fm: ∀l:List Oper,(List.range l.length).filterMap (l[·]?)=l
 | []=>rfl
 | x::l=>by
   rw [List.length_cons,List.range_succ_eq_map,List.filterMap_cons];simp only [List.getElem?_cons_zero,List.filterMap_map];refine congrArg (x:: ·) ?_;have:((fun i=>(x::l)[i]?)∘Nat.succ)=fun i=>l[i]? :=by funext i;simp
   rw [this,range_fm l]
theorem range_map (ops:Array Oper):(List.range ops.size).filterMap (ops[·]?)=ops.toList:=by obtain ⟨l⟩:=ops;simpa using range_fm l
variable (hE:EnvOK E P) (hm:P.follows .mixedOrders=true)
include hE hm in
theorem evalCode_ok (hcf: ∀f args H,CallOK E P f args H (cf f args H)) {okDraw:DrawT} {lf:Nat} (hloc:loc=E.loc fid):
  ∀ (c:Code) (Q:Exit→Act→World→Prop) (κ:Kr) (w:World) (β:Nat→Option Nat) (tm:List Val) (H:Hp) (ds:List (Nat×List Val)) (a:Act),regionsOK E okDraw fid c=true→StD E loc κ0 w0 κ H w β tm ds a→
    evalCode E cf okDraw lf fid c tm H ds≠ .fail→(∀e a w,PostC E loc κ0 w0 (evalCode E cf okDraw lf fid c tm H ds) e a w→Q e a w)→c.wp P Q a w:=by
 intro c
 induction c with
 |skip=>intro Q κ w β tm H ds a _ st _ hQ;exact wp_skip (hQ _ _ _ ⟨rfl,κ,β,st⟩)
 |label l=>intro Q κ w β tm H ds a _ st _ hQ;exact wp_label (hQ _ _ _ ⟨rfl,κ,β,st⟩)
 |exit id=>intro Q κ w β tm H ds a _ st _ hQ;exact wp_exit (hQ _ _ _ ⟨rfl,κ,β,st⟩)
 |ret=>intro Q κ w β tm H ds a _ st _ hQ;exact wp_ret (hQ _ _ _ ⟨rfl,κ,β,st⟩)
 |goto l=>intro Q κ w β tm H ds a _ st h hQ;exact absurd rfl h
 |refuse s=>intro Q κ w β tm H ds a _ st h hQ;exact absurd rfl h
 |scope c _=>intro Q κ w β tm H ds a _ st h hQ;exact absurd rfl h
 |rangeFunc f p x y _ _=>intro Q κ w β tm H ds a _ st h hQ;exact absurd rfl h
 | region id ops draw=>
   intro Q κ w β tm H ds a hR st h hQ
   cases draw with
   | false=>
     simp only [evalCode] at h hQ;refine wp_region (evalOps_ok hE hcf hloc (List.range ops.size) κ w β tm H ds a st ?_ ?_)
     · rw [range_map];exact h
     · rw [range_map];exact hQ
   | true=>
     simp only [evalCode,goDrawn] at h hQ;simp only [regionsOK] at hR
     cases hd:okDraw fid id with
     |none=>rw [hd] at h;exact absurd rfl h
     | some d=>
       rw [hd] at h hQ hR;simp only at h hQ hR
       cases hrs:d.rs with
       | cons r rs=>
         rw [hrs] at h hQ hR;simp only at h hQ hR
         cases hev:evalDrawnR E cf fid ops d tm H with
         |none=>rw [hev] at h;exact absurd rfl h
         | some s=>
           obtain ⟨tm',H'⟩:=s;rw [hev] at hQ;simp only at hQ;exact regionR_ok hE hm hcf hloc hR st hev hQ fun n=>⟨st.wr.drawn n,Fr.drawn n fun _ h=>h⟩
       |nil=>
       rw [hrs] at h hQ hR;simp only at h hQ hR
       cases hev:evalDrawn E cf fid ops d tm H with
       |none=>rw [hev] at h;exact absurd rfl h
       | some s=>
         rw [hev] at hQ;simp only at hQ;obtain ⟨σ,R,W,bef,hrun,hP,h0,hn⟩:=evalDrawn_runs hR hev;refine wp_region_draw fun t=> ?_;rw [hm];have hany:=hrun.any hP t;rw [h0,hn] at hany;have hops:=runL_evalOps (drawn_nodefer hR) (ds:=ds) _ _ _ hany;have st':StD E loc κ0 w0 κ H {w with drawn:=w.drawn+1} β tm ds a:=St.step st (st.wr.drawn _) (Fr.drawn _ fun _ h=>h);exact evalOps_ok hE hcf hloc _ κ _ β tm H ds a st' (by rw [hops];simp) (by rw [hops];exact hQ)
 | seq x y ihx ihy=>
   intro Q κ w β tm H ds a hR st h hQ;simp only [regionsOK,Bool.and_eq_true] at hR;simp only [evalCode] at h hQ;refine wp_seq (ihx _ κ w β tm H ds a hR.1 st (fun e=>by rw [e] at h;exact h rfl) ?_);intro e a1 w1 hp
   cases hx:evalCode E cf okDraw lf fid x tm H ds with
   | normal tm1 H1 ds1=>
     rw [hx] at h hQ hp;simp only at h hQ;obtain ⟨rfl,κ1,β1,st1⟩:=hp;exact ihy Q κ1 w1 β1 tm1 H1 ds1 a1 hR.2 st1 h hQ
   | exit id tm1 H1 ds1=>
     rw [hx] at h hQ hp;obtain ⟨rfl,r⟩:=hp;exact hQ _ _ _ ⟨rfl,r⟩
   | ret tm1 H1 ds1=>
     rw [hx] at h hQ hp;obtain ⟨rfl,r⟩:=hp;exact hQ _ _ _ ⟨rfl,r⟩
   | pan v tm1 H1 ds1=>
     rw [hx] at h hQ hp;obtain ⟨chain,rfl,r⟩:=hp;exact hQ _ _ _ ⟨chain,rfl,r⟩
   |fail=>rw [hx] at h;exact absurd rfl h
 | cond c x y ihx ihy=>
   intro Q κ w β tm H ds a hR st h hQ;simp only [regionsOK,Bool.and_eq_true] at hR;simp only [evalCode] at h hQ;have hc:OV κ β tm (opd E tm c) (a.eval c):=opd_ok st.tr st.gok c;split at h
   · rename_i e;rw [e] at hc hQ;simp only [OV] at hc;generalize hz:a.eval c=z at hc;cases hc;exact wp_cond_true hz (ihx Q κ w β tm H ds a hR.1 st h hQ)
   · rename_i e;rw [e] at hc hQ;simp only [OV] at hc;generalize hz:a.eval c=z at hc;cases hc;exact wp_cond_false hz (ihy Q κ w β tm H ds a hR.2 st h hQ)
   · exact absurd rfl h
 | block id c ih=>
   intro Q κ w β tm H ds a hR st h hQ;simp only [regionsOK] at hR;simp only [evalCode] at h hQ;refine wp_block (ih _ κ w β tm H ds a hR st (fun e=>by rw [e] at h;exact h rfl) ?_);intro e a1 w1 hp
   cases hx:evalCode E cf okDraw lf fid c tm H ds with
   | normal tm1 H1 ds1=>
     rw [hx] at h hQ hp;obtain ⟨rfl,r⟩:=hp;exact hQ _ _ _ ⟨rfl,r⟩
   | exit id' tm1 H1 ds1=>
     rw [hx] at h hQ hp;obtain ⟨rfl,r⟩:=hp;simp only at h hQ;simp only [Exit.inBlock];split
     · rename_i e;rw [if_pos e] at hQ;exact hQ _ _ _ ⟨rfl,r⟩
     · rename_i e;rw [if_neg e] at hQ;exact hQ _ _ _ ⟨rfl,r⟩
   | ret tm1 H1 ds1=>
     rw [hx] at h hQ hp;obtain ⟨rfl,r⟩:=hp;exact hQ _ _ _ ⟨rfl,r⟩
   | pan v tm1 H1 ds1=>
     rw [hx] at h hQ hp;obtain ⟨chain,rfl,r⟩:=hp;exact hQ _ _ _ ⟨chain,rfl,r⟩
   |fail=>rw [hx] at h;exact absurd rfl h
 | loop c ih=>
   intro Q κ w β tm H ds a hR st h hQ;simp only [regionsOK] at hR;simp only [evalCode] at h hQ;refine wp_loop_rounds lf ?_;have key: ∀(n:Nat) (κ:Kr) (w:World) (β:Nat→Option Nat) (tm:List Val) (H:Hp) (ds:List (Nat×List Val)) (a:Act),StD E loc κ0 w0 κ H w β tm ds a→
     iter (evalCode E cf okDraw lf fid c) n tm H ds≠ .fail→(∀e a w,PostC E loc κ0 w0 (iter (evalCode E cf okDraw lf fid c) n tm H ds) e a w→Q e a w)→Code.rounds P c Q n a w:=by
    intro n
    induction n with
    |zero=>intro κ w β tm H ds a _ h _;exact absurd rfl h
    | succ n ihn=>
      intro κ w β tm H ds a st h hQ;simp only [iter] at h hQ;simp only [Code.rounds];refine ih _ κ w β tm H ds a hR st (fun e=>by rw [e] at h;exact h rfl) ?_;intro e a1 w1 hp
      cases hx:evalCode E cf okDraw lf fid c tm H ds with
      | normal tm1 H1 ds1=>
        rw [hx] at h hQ hp;simp only at h hQ;obtain ⟨rfl,κ1,β1,st1⟩:=hp;exact ihn κ1 w1 β1 tm1 H1 ds1 a1 st1 h hQ
      | exit id tm1 H1 ds1=>
        rw [hx] at h hQ hp;obtain ⟨rfl,r⟩:=hp;exact hQ _ _ _ ⟨rfl,r⟩
      | ret tm1 H1 ds1=>
        rw [hx] at h hQ hp;obtain ⟨rfl,r⟩:=hp;exact hQ _ _ _ ⟨rfl,r⟩
      | pan v tm1 H1 ds1=>
        rw [hx] at h hQ hp;obtain ⟨chain,rfl,r⟩:=hp;exact hQ _ _ _ ⟨chain,rfl,r⟩
      |fail=>rw [hx] at h;exact absurd rfl h
   exact key lf κ w β tm H ds a st h hQ
end
section
variable {E:Env} {P:Program} {loc:Nat→Bool} {κ0 κ:Kr} {w0 w:World} {D:Kr→Prop} {β:Nat→Option Nat} {tm:List Val} {H:Hp} {cf:CallF} {fid:Nat}
variable (hE:EnvOK E P)
include hE in
theorem resultP_ok {ts:Array Value} (st:St E loc κ0 w0 D κ H w β tm ts) {r:ResultVar} {v:Val} (h:resultP E tm H r=some v) (hn:noLoc v=true):
  ∃x,((match r with| .tmp t=>pure (ts.getD t undef)| .cell a t=>do loadVar t (←asAddr (ts.getD a undef))):Sem Value).run P w= .ok x w∧VK κ v x:=by
 have hop: ∀x,OV κ β tm (opd E tm x) ((⟨ts,[]⟩:Act).eval x):=fun x=>opd_ok (a:=⟨ts,[]⟩) st.tr st.gok x
 cases r with
 | tmp t=>
   simp only [resultP,Option.some.injEq] at h;have h1:=hop (.tmp t);have h2:opd E tm (.tmp t)=v:=by simp only [opd,h];cases v<;>first|rfl|(simp [noLoc] at hn)
   rw [h2] at h1;exact ⟨_,Sem.run_pure _ _ _,h1.toVK hn⟩
 | cell a t=>
   simp only [resultP] at h;obtain ⟨y,h1,h2⟩:=loadP_ok hE (a:=⟨ts,[]⟩) st.wr st.tr (hop (.tmp a)) h;refine ⟨y,(show (do loadVar t (←asAddr (ts.getD a undef)):Sem Value).run P w= .ok y w from ?_),h2⟩;have h3:(Instr.loadAt t (ts.getD a undef)).run P w= .ok y w:=h1;generalize ts.getD a undef=z at h3⊢;unfold Instr.loadAt at h3
   cases z with
   | pointer o=>
     cases o with
     |some a=>exact h3
     |none=>exact absurd h3 (by intro h;cases h)
   |_=>exact absurd h3 (by intro h;cases h)
include hE in
theorem resultsP_ok {ts:Array Value} (st:St E loc κ0 w0 D κ H w β tm ts): ∀(rs:List ResultVar) (vs:List Val),resultsP E tm H rs=some vs→vs.all noLoc=true→
  ∃xs:List Value,(rs.mapM fun| .tmp t=>pure (ts.getD t undef)| .cell a t=>do loadVar t (←asAddr (ts.getD a undef)):Sem (List Value)).run P w= .ok xs w∧vs.length=xs.length∧ ∀(i:Nat) (v:Val) (x:Value),vs[i]? =some v→xs[i]? =some x→VK κ v x:=by
 intro rs
 induction rs with
 | nil=>
   intro vs h _;simp only [resultsP,Option.some.injEq] at h;subst h;exact ⟨[],Sem.run_pure _ _ _,rfl,fun i v x h=>by simp at h⟩
 | cons r rs ih=>
   intro vs h hn;simp only [resultsP] at h;split at h
   case h_2=>cases h
   rename_i v hv;split at h
   case h_2=>cases h
   rename_i vs' hvs;simp only [Option.some.injEq] at h;subst h;simp only [List.all_cons,Bool.and_eq_true] at hn;obtain ⟨x,x1,x2⟩:=resultP_ok hE st hv hn.1;obtain ⟨xs,y1,y2,y3⟩:=ih vs' hvs hn.2;refine ⟨x::xs,?_,by simp [y2],fun i u y hu hy=> ?_⟩
   · rw [List.mapM_cons];exact (bind_ok x1).trans ((bind_ok y1).trans (Sem.run_pure _ _ _))
   · cases i with
     | zero=>
       simp only [List.getElem?_cons_zero,Option.some.injEq] at hu hy;subst hu;subst hy;exact x2
     |succ i=>exact y3 i u y (by simpa using hu) (by simpa using hy)
include hE in
theorem resP_ok {ts:Array Value} (st:St E loc κ0 w0 D κ H w β tm ts) {fn:Func} {v:Val} {H':Hp} (h:resP E fn tm H= .ret v H'):H'=H∧ ∃x,(results fn ts).run P w= .ok x w∧VK κ v x:=by
 unfold resP at h;have key: ∀vs,resultsP E tm H fn.results.toList=some vs→vs.all noLoc=true→ ∃xs:List Value,(results fn ts).run P w= .ok (if h:xs.toArray.size=1 then xs.toArray[0] else .tuple xs.toArray) w∧vs.length=xs.length∧
   ∀(i:Nat) (v:Val) (x:Value),vs[i]? =some v→xs[i]? =some x→VK κ v x:=by
  intro vs hvs hn;obtain ⟨xs,x1,x2,x3⟩:=resultsP_ok hE st _ vs hvs hn;refine ⟨xs,?_,x2,x3⟩;unfold results;rw [Array.mapM_eq_mapM_toList];refine (bind_ok (a:=xs.toArray) (w':=w) ?_).trans (Sem.run_pure _ _ _);rw [map_eq_pure_bind];exact (bind_ok x1).trans (Sem.run_pure _ _ _)
 split at h
 · rename_i v' hr;split at h
   · rename_i hn;simp only [fV_eq,FRes.ret.injEq] at h;obtain ⟨rfl,rfl⟩:=h;obtain ⟨xs,x1,x2,x3⟩:=key _ hr (by simp [hn])
     match xs,x2 with
     | [x],_=>exact ⟨rfl,x,x1,x3 0 _ _ rfl rfl⟩
   · cases h
 · rename_i vs hne hr;split at h
   · rename_i hn;simp only [fL_eq,FRes.ret.injEq] at h;obtain ⟨rfl,rfl⟩:=h;obtain ⟨xs,x1,x2,x3⟩:=key _ hr hn;refine ⟨rfl,.tuple xs.toArray,?_,?_⟩
     · rw [x1,dif_neg];intro h1;have:vs.length=1:=by rw [x2];simpa using h1
       match vs,this with
       | [v],_=>exact hne v rfl
     · exact .tup vs xs.toArray (by simpa using x2) fun i v x hv hx=>x3 i v x hv (by simpa using hx)
   · cases h
 · cases h
theorem resP_not_pan {fn:Func} {v:Val} {H':Hp}:resP E fn tm H≠ .pan v H':=by
 unfold resP;split
 · split<;>simp
 · split<;>simp
 · simp
theorem start_St {args:List Val} {xs:Array Value} {n:Nat} (hw:WR κ H w) (hg:GOK E κ) (hl:args.length=xs.size)
  (ha: ∀(i:Nat) (v:Val) (x:Value),args[i]? =some v→xs[i]? =some x→VK κ v x) (hD:D κ) (hDm: ∀own κ κ' w w',D κ→Fr own κ κ' w w'→D κ'):
  St E loc κ w D κ H w (fun _=>none) (args++List.replicate (n-args.length) (.tup [])) (xs++Array.replicate (n-xs.size) undef):=by
 have slot: ∀(i:Nat) (v:Val) (x:Value),(args++List.replicate (n-args.length) (.tup []))[i]? =some v→(xs++Array.replicate (n-xs.size) undef)[i]? =some x→VK κ v x:=by
  intro i v x hv hx;rw [List.getElem?_append] at hv;rw [Array.getElem?_append] at hx;split at hv
  · rename_i h;rw [if_pos (by omega)] at hx;exact ha i v x hv hx
  · rename_i h;rw [if_neg (by omega)] at hx;rw [List.getElem?_replicate] at hv;rw [Array.getElem?_replicate] at hx;split at hv
    · simp only [Option.some.injEq] at hv;subst hv;split at hx
      · simp only [Option.some.injEq] at hx;subst hx;exact VR.tup [] #[] rfl (by simp)
      · cases hx
    · cases hv
 refine ⟨hw,hg,⟨by simp [hl],fun i v x hv hx=> ?_,fun s b h=>by simp at h,fun s s' b h=>by simp at h,fun i st cs h=> ?_⟩,Fr.refl fun _ h=>h,fun s b h=>by simp at h,hD,hDm⟩
 · have:=slot i v x hv hx;have hn:=VK_noLoc this;rw [SV_OV (by rintro st cs rfl;simp [noLoc] at hn)];exact OV.of_VK this
 ·
  have hi:i<(args++List.replicate (n-args.length) (Val.tup [])).length:=(List.getElem?_eq_some_iff.1 h).1;have hs:i<(xs++Array.replicate (n-xs.size) undef).size:=by simp at hi⊢;omega
  have:=VK_noLoc (slot i _ ((xs++Array.replicate (n-xs.size) undef)[i]) h (by simp));simp [noLoc] at this
theorem run_callFunc {f:Nat} {fn:Func} {c:Code} {xs:Array Value} (hf:P.funcs[f]? =some fn) (hn:(fn.name== "runtime.NumGoroutine")=false) (hb:fn.body=some c):(callFunc f xs).run P w= .ok (.enter f xs) w:=by unfold callFunc;refine (bind_ok (a:=P) (w':=w) rfl).trans ?_;simp only [hf,hn,hb,Option.isNone_some,Bool.false_eq_true,if_false];exact Sem.run_pure _ _ _
end
def MR (κ:Kr) (pv:Option Val) (u:FrameMode):Prop:=match pv with
 |some v=> ∃chain,u= .panicking chain∧ChainR κ v chain
 |none=>u= .returning∨ ∃e older,u= .panicking (e::older)∧e.recovered=true∧ ∀x∈older,x.goexit=false
theorem ChainR.fr {κ κ':Kr} {own:Nat→Prop} {w w':World} {v:Val} {chain:List PanicEntry} (h:ChainR κ v chain) (f:Fr own κ κ' w w'):ChainR κ' v chain:=by obtain ⟨x,rest,h1,h2,h3⟩:=h;exact ⟨x,rest,h1,h2,h3.fr f⟩
theorem MR.fr {κ κ':Kr} {own:Nat→Prop} {w w':World} {pv:Option Val} {u:FrameMode} (h:MR κ pv u) (f:Fr own κ κ' w w'):MR κ' pv u:=by
 cases pv with
 |none=>exact h
 |some v=>obtain ⟨chain,h1,h2⟩:=h;exact ⟨chain,h1,h2.fr f⟩
theorem MR.settle {κ:Kr} {pv:Option Val} {u:FrameMode} (h:MR κ pv u):(match pv with|some v=> ∃chain,settle u= .panicking chain∧ChainR κ v chain|none=>settle u= .returning):=by
 cases pv with
 | some v=>
   obtain ⟨chain,rfl,x,rest,rfl,h1,h2⟩:=h;exact ⟨_,rfl,x,rest,rfl,h1,h2⟩
 | none =>
   rcases h with rfl|⟨e,older,rfl,h1,h2⟩
   · rfl
   · obtain ⟨v,r,g⟩:=e;simp only at h1;subst h1;simp only [Go.settle];have:older.dropWhile (!·.goexit)= []:=by
      induction older with
      |nil=>rfl
      | cons x l ih=>
        rw [List.dropWhile_cons_of_pos (by simp [h2 x (by simp)])];exact ih fun y hy=>h2 y (by simp [hy])
     rw [this]
theorem MR.raised {κ:Kr} {pv:Option Val} {u:FrameMode} (h:MR κ pv u) {v:Val} {chain:List PanicEntry} (hc:ChainR κ v chain) (hg: ∀e older,u= .panicking (e::older)→e.goexit=false):
  ∃ch,raised u chain= .panicking ch∧ChainR κ v ch:=by
 obtain ⟨x,rest,rfl,h1,h2⟩:=hc
 cases pv with
 | some v'=>
   obtain ⟨ch,rfl,x',rest',rfl,h3,h4⟩:=h;refine ⟨_,rfl,x,rest++({v:=x',recovered:=false}::rest'),rfl,?_,h2⟩;intro e he;simp only [List.mem_append,List.mem_cons] at he;rcases he with he|he|he
   · exact h1 e he
   · subst he;rfl
   · exact h3 e he
 | none=>
   rcases h with rfl|⟨e,older,rfl,h3,h4⟩
   · exact ⟨_,rfl,x,rest,rfl,h1,h2⟩
   · refine ⟨_,rfl,x,rest++(e::older),rfl,?_,h2⟩;intro e' he;simp only [List.mem_append,List.mem_cons] at he;rcases he with he|he|he
     · exact h1 e' he
     · subst he;exact hg _ _ rfl
     · exact h4 e' he
section
variable {E:Env} {P:Program} {loc:Nat→Bool} {κ0 κ:Kr} {w0 w:World} {D:Kr→Prop} {β:Nat→Option Nat} {tm:List Val} {H:Hp} {cf:CallF} {fid:Nat}
variable (hE:EnvOK E P) (hm:P.follows .mixedOrders=true)
def noExit (u:FrameMode):Prop:= ∀e older,u= .panicking (e::older)→e.goexit=false
def PostS (E:Env) (loc:Nat→Bool) (κ0:Kr) (w0:World) (c0:Frame) (cs0:List Frame) (r:CRes×Option Val) (e:Exit) (a:Act) (cs:List Frame) (w:World):Prop:=
 PostC E loc κ0 w0 r.1 e a w∧ ∃u,cs= {c0 with mode:=u}::cs0∧MR κ0 r.2 u∧noExit u
include hE in
theorem evalOpsD_ok (hcf: ∀f args H,CallOK E P f args H (cf f args H)) (hloc:loc=E.loc fid) {ops:Array Oper} {c0:Frame} {cs0:List Frame} {Q:Exit→Act→List Frame→World→Prop}:
  ∀ (l:List Nat) (pv:Option Val) (u:FrameMode) (κ:Kr) (w:World) (β:Nat→Option Nat) (tm:List Val) (H:Hp) (a:Act),MR κ0 pv u→noExit u→StD E loc κ0 w0 κ H w β tm [] a→
    (evalOpsD E cf fid ops (l.filterMap (ops[·]?)) pv tm H).1≠ .fail→(∀e a cs w,PostS E loc κ0 w0 c0 cs0 (evalOpsD E cf fid ops (l.filterMap (ops[·]?)) pv tm H) e a cs w→Q e a cs w)→
    wpOpsS P ops Q l a ({c0 with mode:=u}::cs0) w:=by
 intro l
 induction l with
 | nil=>
   intro pv u κ w β tm H a hMR hx st _ hQ;exact hQ _ _ _ _ ⟨⟨rfl,κ,β,st⟩,u,rfl,hMR,hx⟩
 | cons i l ih =>
   intro pv u κ w β tm H a hMR hx st hres hQ;simp only [wpOpsS]
   cases ho:ops[i]? with
   | none=>
     simp only [List.filterMap_cons,ho] at hres hQ;exact ih pv u κ w β tm H a hMR hx st hres hQ
   | some o =>
     simp only [List.filterMap_cons,ho] at hres hQ
     cases hw:wantedP ops tm o with
     |none=>simp only [evalOpsD,hw] at hres;exact absurd rfl hres
     | some r =>
       have hwm:=wanted_ok st.tr hw
       cases r with
       | false=>
         simp only [evalOpsD,hw] at hres hQ;dsimp only at hres hQ⊢;rw [hwm,if_neg (by simp)]
         cases hp:putR E fid o.dst (.tup []) tm with
         |none=>rw [hp] at hres;exact absurd rfl hres
         | some tm'=>
           rw [hp] at hres hQ;obtain ⟨β',st'⟩:=put_ok st (OutR.of_OV (OV.of_VK (.tup [] #[] rfl (by simp)))) hloc hp;refine ih pv u κ w β' tm' H (a.put o.dst undef) hMR hx ?_ hres hQ;unfold StD;rw [put_tmps,put_defers];exact st'
       | true =>
         dsimp only at hres hQ⊢;rw [hwm,if_pos rfl];by_cases hrec: ∃args ts,o.op= .call ⟨.builtin .recover,args,ts⟩
         · obtain ⟨args,ts,hop⟩:=hrec;have hrun:(execOp a.eval o).run P w= .ok .recover w:=by unfold execOp;simp only [hop];rfl
           rw [hrun];simp only [evalOpsD,hw,hop] at hres hQ;have put: ∀(v:Val) (x:Value) (tm':List Val),VK κ v x→putR E fid o.dst v tm=some tm'→ ∃β',StD E loc κ0 w0 κ H w β' tm' [] (a.put o.dst x):=by intro v x tm' hv hp;obtain ⟨β',st'⟩:=put_ok st (OutR.of_OV (OV.of_VK hv)) hloc hp;refine ⟨β',?_⟩;unfold StD;rw [put_tmps,put_defers];exact st'
           cases hp:putR E fid o.dst (pv.getD .nili) tm with
           |none=>rw [hp] at hres;exact absurd rfl hres
           | some tm'=>
             rw [hp] at hres hQ;simp only at hres hQ⊢
             cases pv with
             | some v=>
               obtain ⟨chain,rfl,x,rest,rfl,h1,h2⟩:=hMR;simp only [recoverD];obtain ⟨β',st'⟩:=put v x tm' (VK.fr h2 st.fr) hp;exact ih none _ κ w β' tm' H _ (.inr ⟨_,rest,rfl,rfl,h1⟩) (fun e older he=>by cases he;rfl) st' hres hQ
             | none=>
               have hn:recoverD ({c0 with mode:=u}::cs0)=none:=by
                rcases hMR with rfl|⟨e,older,rfl,h1,h2⟩
                · rfl
                · obtain ⟨v,r,g⟩:=e;simp only at h1;subst h1;rfl
               rw [hn];simp only;obtain ⟨β',st'⟩:=put .nili .nilIface tm' .nili hp;exact ih none u κ w β' tm' H _ hMR hx st' hres hQ
         · have hnd: ∀c,o.op≠ .defer c:=by intro c hc;simp only [evalOpsD,hw,hc] at hres;exact absurd rfl hres
           have heq:evalOpsD E cf fid ops (o::l.filterMap (ops[·]?)) pv tm H=(match evalOp E cf fid o tm H with
             | .ok v tm' H'=>match putR E fid o.dst v tm' with
               |some tm''=>evalOpsD E cf fid ops (l.filterMap (ops[·]?)) pv tm'' H'
               |none=>(.fail,none)
             | .pan v H'=>(.pan v tm H' [],pv)
             | .fail=>(.fail,none)):=by
            simp only [evalOpsD,hw];split
            · rename_i c hc;exact absurd hc (hnd c)
            · rename_i args ts hc;exact absurd ⟨_,_,hc⟩ hrec
            · rfl
           rw [heq] at hres hQ;have hev:evalOp E cf fid o tm H≠ .fail:=by intro e;rw [e] at hres;exact absurd rfl hres
           have hop:=evalOp_ok hE hcf hloc (dst:=o.dst) rfl st hev;have hnr: ∀w',(execOp a.eval o).run P w≠ .ok .recover w':=by intro w' e;rw [e] at hop;exact hop.elim
           have hup:o.upon P a (fun a' w'=>wpOpsS P ops Q l a' ({c0 with mode:=u}::cs0) w') (fun e a' w'=>Q e a' ({c0 with mode:=u}::cs0) w') ((execOp a.eval o).run P w):=by
            refine upon_ok hop (fun x w' hdn=> ?_) (fun chain w' hpn=> ?_)
            · obtain ⟨v,tm',H',κ',β',e1,st',ho'⟩:=hdn;rw [e1] at hres hQ;dsimp only at hres hQ
              cases hp:putR E fid o.dst v tm' with
              |none=>rw [hp] at hres;exact absurd rfl hres
              | some tm''=>
                rw [hp] at hres hQ;obtain ⟨β'',st''⟩:=put_ok st' ho' hloc hp;refine ih pv u κ' w' β'' tm'' H' (a.put o.dst x) hMR hx ?_ hres hQ;unfold StD;rw [put_tmps,put_defers];exact st''
            · obtain ⟨v,H',κ',e1,st',hch⟩:=hpn;rw [e1] at hQ;exact hQ _ _ _ _ ⟨⟨chain,rfl,κ',β,st',hch⟩,u,rfl,hMR,hx⟩
           split
           · rename_i w' e;exact absurd e (hnr w')
           · exact hup
include hE hm in
theorem evalCodeD_ok (hcf: ∀f args H,CallOK E P f args H (cf f args H)) {okDraw:DrawT} {lf:Nat} (hloc:loc=E.loc fid) {c0:Frame} {cs0:List Frame}:
  ∀ (c:Code) (Q:Exit→Act→List Frame→World→Prop) (pv:Option Val) (u:FrameMode) (κ:Kr) (w:World) (β:Nat→Option Nat) (tm:List Val) (H:Hp) (a:Act),regionsOK E okDraw fid c=true→
    MR κ0 pv u→noExit u→StD E loc κ0 w0 κ H w β tm [] a→
    (evalCodeD E cf okDraw lf fid c pv tm H).1≠ .fail→(∀e a cs w,PostS E loc κ0 w0 c0 cs0 (evalCodeD E cf okDraw lf fid c pv tm H) e a cs w→Q e a cs w)→
    c.wpS P Q a ({c0 with mode:=u}::cs0) w:=by
 have plain: ∀(c:Code) (Q:Exit→Act→List Frame→World→Prop) (pv:Option Val) (u:FrameMode) (κ:Kr) (w:World) (β:Nat→Option Nat) (tm:List Val) (H:Hp) (a:Act),regionsOK E okDraw fid c=true→
   MR κ0 pv u→noExit u→StD E loc κ0 w0 κ H w β tm [] a→(evalCode E cf okDraw lf fid c tm H [])≠ .fail→
   (∀e a cs w,PostS E loc κ0 w0 c0 cs0 (evalCode E cf okDraw lf fid c tm H [],pv) e a cs w→Q e a cs w)→c.wpS P Q a ({c0 with mode:=u}::cs0) w:=by
  intro c Q pv u κ w β tm H a hR hMR hx st hres hQ;exact wpS_of_wp (evalCode_ok hE hm hcf hloc c _ κ w β tm H [] a hR st hres fun e a w hp=>hQ _ _ _ _ ⟨hp,u,rfl,hMR,hx⟩)
 intro c
 induction c with
 | seq x y ihx ihy=>
   intro Q pv u κ w β tm H a hR hMR hx st hres hQ;simp only [regionsOK,Bool.and_eq_true] at hR;simp only [evalCodeD] at hres hQ;refine wpS_seq (ihx _ pv u κ w β tm H a hR.1 hMR hx st (fun e=> ?_) ?_)
   · rcases hxr:evalCodeD E cf okDraw lf fid x pv tm H with ⟨r,pv'⟩;rw [hxr] at e hres;simp only at e;subst e;exact hres rfl
   · intro e a1 cs1 w1 hp;rcases hxr:evalCodeD E cf okDraw lf fid x pv tm H with ⟨r,pv'⟩;rw [hxr] at hp hres hQ;obtain ⟨hpc,u',rfl,hMR',hx'⟩:=hp
     cases r with
     | normal tm1 H1 ds1=>
       obtain ⟨rfl,κ1,β1,st1⟩:=hpc
       cases ds1 with
       | nil=>
         simp only at hres hQ;exact ihy Q pv' u' κ1 w1 β1 tm1 H1 a1 hR.2 hMR' hx' st1 hres hQ
       |cons d ds=>exact absurd rfl hres
     | exit id tm1 H1 ds1=>
       obtain ⟨rfl,r⟩:=hpc;exact hQ _ _ _ _ ⟨⟨rfl,r⟩,u',rfl,hMR',hx'⟩
     | ret tm1 H1 ds1=>
       obtain ⟨rfl,r⟩:=hpc;exact hQ _ _ _ _ ⟨⟨rfl,r⟩,u',rfl,hMR',hx'⟩
     | pan v tm1 H1 ds1=>
       obtain ⟨chain,rfl,r⟩:=hpc;exact hQ _ _ _ _ ⟨⟨chain,rfl,r⟩,u',rfl,hMR',hx'⟩
     |fail=>exact absurd rfl hres
 | region id ops draw=>
   intro Q pv u κ w β tm H a hR hMR hx st hres hQ
   cases draw with
   |true=>exact plain _ Q pv u κ w β tm H a hR hMR hx st hres hQ
   | false=>
     simp only [evalCodeD] at hres hQ;refine wpS_region (evalOpsD_ok hE hcf hloc (List.range ops.size) pv u κ w β tm H a hMR hx st ?_ ?_)
     · rw [range_map];exact hres
     · rw [range_map];exact hQ
 |_=>intro Q pv u κ w β tm H a hR hMR hx st hres hQ;exact plain _ Q pv u κ w β tm H a hR hMR hx st hres hQ
end
def MR0 (κ:Kr) (pv:Option Val) (u:FrameMode):Prop:=match pv with
 |some v=> ∃chain,u= .panicking chain∧ChainR κ v chain
 |none=>u= .returning
theorem MR0.toMR {κ:Kr} {pv:Option Val} {u:FrameMode} (h:MR0 κ pv u):MR κ pv u:=by
 cases pv with
 |some v=>exact h
 |none=>exact .inl h
theorem MR0.noExit {κ:Kr} {pv:Option Val} {u:FrameMode} (h:MR0 κ pv u):noExit u:=by
 intro e older he
 cases pv with
 | some v=>
   obtain ⟨chain,rfl,x,rest,rfl,h1,h2⟩:=h;cases he;rfl
 |none=>cases h;cases he
theorem MR0.fr {κ κ':Kr} {own:Nat→Prop} {w w':World} {pv:Option Val} {u:FrameMode} (h:MR0 κ pv u) (f:Fr own κ κ' w w'):MR0 κ' pv u:=by
 cases pv with
 |none=>exact h
 |some v=>obtain ⟨chain,h1,h2⟩:=h;exact ⟨chain,h1,h2.fr f⟩
theorem MR0.ofSettle {κ:Kr} {pv:Option Val} {u:FrameMode} (h:MR κ pv u):MR0 κ pv (settle u):=by have:=h.settle;cases pv<;>exact this
theorem MR0.neRun {κ:Kr} {pv:Option Val} {u:FrameMode} (h:MR0 κ pv u):u≠ .run:=by
 cases pv with
 |some v=>obtain ⟨chain,rfl,_⟩:=h;simp
 |none=>cases h;simp
structure TabOK (E:Env) (P:Program) (okDraw:DrawT):Prop where
  env:EnvOK E P
  mixed:P.follows .mixedOrders=true
  regions: ∀f fn c,E.fns f=some fn→fn.body=some c→regionsOK E okDraw f c=true
  prim: ∀f p,E.prim f=some p→ ∀args H,CallOK E P f args H (p args H)
section
variable {E:Env} {P:Program} {okDraw:DrawT} (hT:TabOK E P okDraw) {loc:Nat→Bool} {κ0 κ:Kr} {w0 w:World} {β:Nat→Option Nat} {tm:List Val} {H:Hp} {cf:CallF} {lf:Nat}
def NextD (κ:Kr) (w:World) (r:DRes) (u:FrameMode) (w':World):Prop:= ∃mode H' κ',r= .ok mode H'∧WR κ' H' w'∧Fr κ.own κ κ' w w'∧MR0 κ' mode u
include hT in
theorem evalD_ok (hcf: ∀f args H,CallOK E P f args H (cf f args H)) {f:Nat} {args:List Val} {xs:Array Value} {mode:Option Val} {u:FrameMode} (hw:WR κ H w) (hg:GOK E κ) (hl:args.length=xs.size)
  (ha: ∀(i:Nat) (v:Val) (x:Value),args[i]? =some v→xs[i]? =some x→VK κ v x) (hM:MR0 κ mode u) {res:DRes} (he:evalD E cf okDraw lf f args mode H=res) (h:res≠ .fail):
  (callFunc f xs).run P w= .ok (.enter f xs) w∧CallsD P f xs u w fun
   | .returned _,u',w'=>NextD κ w res (settle u') w'
   | .panicked chain,u',w'=>NextD κ w res (raised u' chain) w'
   | .outgrown,_,_=>False:=by
 unfold evalD at he;split at he
 case h_2=>exact absurd he.symm h
 rename_i fn hfn;split at he
 case h_2=>exact absurd he.symm h
 rename_i c hc;split at he
 case isFalse=>exact absurd he.symm h
 rename_i hlen;obtain ⟨hpf,hname⟩:=hT.env.fns f fn hfn;refine ⟨run_callFunc hpf hname hc,callsD_of_wpS hpf hc fun c₀ cs hu=> ?_⟩;have hc0:c₀::cs= {c₀ with mode:=u}::cs:=by subst hu;rfl
 rw [hc0];have st0:=start_St (loc:=E.loc f) (D:=fun κ=>DR κ [] []) (n:=fn.ntmps) hw hg hl ha trivial (fun own κ κ' w w' hd hf=>DR.fr hf _ _ hd);rcases hr:evalCodeD E cf okDraw lf f c mode (args++List.replicate (fn.ntmps-args.length) (.tup [])) H with ⟨r,pv'⟩;rw [hr] at he;refine evalCodeD_ok (okDraw:=okDraw) (lf:=lf) hT.env hT.mixed hcf rfl (c0:=c₀) (cs0:=cs) c _ mode u κ w (fun _=>none) _ H _ (hT.regions f fn c hfn hc) hM.toMR hM.noExit st0 ?_ ?_
 · rw [hr];intro e;simp only at e;subst e;exact h he.symm
 · intro e a cs1 w1 hp;rw [hr] at hp;obtain ⟨hpc,u',rfl,hMR,hx⟩:=hp;have dn: ∀ {κ1:Kr} {β1:Nat→Option Nat} {tm1:List Val} {H1:Hp},StD E (E.loc f) κ w κ1 H1 w1 β1 tm1 [] a→a.defers= []:=by
    intro κ1 β1 tm1 H1 st1;have:=st1.dk
    cases hd:a.defers with
    |nil=>rfl
    |cons d ds=>rw [hd] at this;exact this.elim
   have ret: ∀ {κ1:Kr} {β1:Nat→Option Nat} {tm1:List Val} {H1:Hp},StD E (E.loc f) κ w κ1 H1 w1 β1 tm1 [] a→(match resP E fn tm1 H1 with| .ret _ H=>DRes.ok pv' H|_=> .fail)=res→
     a.defers= []∧ ∃u'',({c₀ with mode:=u'}::cs:List Frame)= {c₀ with mode:=u''}::cs∧ ∃v,(results fn a.tmps).run P w1= .ok v w1∧NextD κ w res (settle u'') w1:=by
    intro κ1 β1 tm1 H1 st1 he;refine ⟨dn st1,u',rfl,?_⟩
    cases hre:resP E fn tm1 H1 with
    | ret v H2=>
      rw [hre] at he;simp only at he;obtain ⟨rfl,x,x1,x2⟩:=resP_ok hT.env st1 hre;exact ⟨x,x1,pv',H2,κ1,he.symm,st1.wr,st1.fr,(MR0.ofSettle hMR).fr st1.fr⟩
    |pan v H2=>exact absurd hre resP_not_pan
    |fail=>rw [hre] at he;exact absurd he.symm h
   cases r with
   | normal tm1 H1 ds1=>
     obtain ⟨rfl,κ1,β1,st1⟩:=hpc
     cases ds1 with
     |nil=>exact ret st1 he
     |cons d ds=>exact absurd he.symm h
   | ret tm1 H1 ds1=>
     obtain ⟨rfl,κ1,β1,st1⟩:=hpc
     cases ds1 with
     |nil=>exact ret st1 he
     |cons d ds=>exact absurd he.symm h
   | pan v tm1 H1 ds1=>
     obtain ⟨chain,rfl,κ1,β1,st1,hch⟩:=hpc
     cases ds1 with
     | nil=>
       refine ⟨dn st1,u',rfl,?_⟩;obtain ⟨ch,h1,h2⟩:=(hMR.fr st1.fr).raised hch hx;exact ⟨some v,H1,κ1,he.symm,st1.wr,st1.fr,ch,h1,h2⟩
     |cons d ds=>exact absurd he.symm h
   |exit id tm1 H1 ds1=>exact absurd he.symm h
   |fail=>exact absurd he.symm h
include hT in
theorem leaveP_ok (hcf: ∀f args H,CallOK E P f args H (cf f args H)) {fn:Func} {ts:Array Value}: ∀(ds:List (Nat×List Val)) (ds':List Deferred) (mode:Option Val) (u:FrameMode) (κ:Kr) (w:World) (H:Hp),
  St E loc κ0 w0 (fun κ=>DR κ ds ds') κ H w β tm ts→MR0 κ mode u→leaveP E cf okDraw lf fn tm ds mode H≠ .fail→
  Leaves P fn ts (EndR κ0 w0 (leaveP E cf okDraw lf fn tm ds mode H)) ds' u w:=by
 intro ds
 induction ds with
 | nil =>
   intro ds' mode u κ w H st hM h
   cases ds' with
   |cons d ds'=>exact st.dk.elim
   | nil =>
     cases mode with
     | none=>
       cases hM;simp only [leaveP] at h⊢
       cases hre:resP E fn tm H with
       | ret v H2=>
         obtain ⟨rfl,x,x1,x2⟩:=resP_ok hT.env st hre;exact ⟨x,x1,v,H2,κ,rfl,st.wr,st.fr,x2⟩
       |pan v H2=>exact absurd hre resP_not_pan
       |fail=>exact absurd hre h
     | some v=>
       obtain ⟨chain,rfl,hch⟩:=hM;exact ⟨v,H,κ,rfl,st.wr,st.fr,hch⟩
 | cons p ds ih=>
   obtain ⟨f,args⟩:=p;intro ds' mode u κ w H st hM h
   cases ds' with
   |nil=>exact st.dk.elim
   | cons d ds'=>
     obtain ⟨⟨cap,htar,hl,ha⟩,hrest⟩:=st.dk;simp only [leaveP] at h⊢;have hev:evalD E cf okDraw lf f args mode H≠ .fail:=by intro e;rw [e] at h;exact h rfl
     obtain ⟨hrun,hcall⟩:=evalD_ok hT hcf st.wr st.gok hl ha hM rfl hev;refine ⟨hM.neRun,.func f,cap,f,d.args++cap,htar,?_,?_⟩
     · rw [htar];exact hrun
     · have next: ∀u' w',NextD κ w (evalD E cf okDraw lf f args mode H) u' w'→Leaves P fn ts (EndR κ0 w0 (match evalD E cf okDraw lf f args mode H with| .ok mode H=>leaveP E cf okDraw lf fn tm ds mode H| .fail=> .fail)) ds' u' w':=by
        rintro u' w' ⟨mode',H',κ',e1,e2,e3,e4⟩;rw [e1] at h⊢;simp only at h⊢;have st':St E loc κ0 w0 (fun κ=>DR κ ds ds') κ' H' w' β tm ts:=
         ⟨e2,st.gok.fr e3,st.tr.fr e3,st.fr.trans e3 st.fr.onew,st.lb,DR.fr e3 _ _ hrest,fun own κ κ' w w' hd hf=>DR.fr hf _ _ hd⟩
        exact ih ds' mode' u' κ' w' H' st' e4 h
       refine CallsD.mono hcall fun e u' w' he=> ?_
       cases e with
       |returned v=>exact next _ _ he
       |panicked chain=>exact next _ _ he
       |outgrown=>exact he.elim
include hT in
theorem evalBody_ok (hcf: ∀f args H,CallOK E P f args H (cf f args H)) (f:Nat) (args:List Val) (H:Hp):CallOK E P f args H (evalBody E cf okDraw lf f args H):=by
 unfold evalBody;split
 · rename_i p hp;exact hT.prim f p hp args H
 · intro h κ w xs hw hg hl ha;split at h
   case h_2=>exact absurd rfl h
   rename_i fn hfn;split at h
   case h_2=>exact absurd rfl h
   rename_i c hc;split at h
   case isFalse=>exact absurd rfl h
   rename_i hlen;obtain ⟨hpf,hname⟩:=hT.env.fns f fn hfn;refine .inl ⟨f,xs,run_callFunc hpf hname hc,?_⟩;rw [if_pos hlen];have st0:=start_St (loc:=E.loc f) (D:=fun κ=>DR κ [] []) (n:=fn.ntmps) hw hg hl ha trivial (fun own κ κ' w w' hd hf=>DR.fr hf _ _ hd);refine calls_of_wp_defers hpf hc (evalCode_ok (okDraw:=okDraw) (lf:=lf) hT.env hT.mixed hcf rfl c _ κ w (fun _=>none) _ H [] _ (hT.regions f fn c hfn hc) st0 ?_ ?_)
   · intro e;rw [e] at h;exact h rfl
   · intro e a w1 hp;generalize evalCode E cf okDraw lf f c (args++List.replicate (fn.ntmps-args.length) (.tup [])) H []=r at h hp
     cases r with
     | normal tm1 H1 ds1=>
       obtain ⟨rfl,κ1,β1,st1⟩:=hp;exact leaveP_ok hT hcf ds1 a.defers none .returning κ1 w1 H1 st1 rfl h
     | ret tm1 H1 ds1=>
       obtain ⟨rfl,κ1,β1,st1⟩:=hp;exact leaveP_ok hT hcf ds1 a.defers none .returning κ1 w1 H1 st1 rfl h
     | pan v tm1 H1 ds1=>
       obtain ⟨chain,rfl,κ1,β1,st1,hch⟩:=hp;exact leaveP_ok hT hcf ds1 a.defers (some v) (.panicking chain) κ1 w1 H1 st1 ⟨chain,rfl,hch⟩ h
     |exit id tm1 H1 ds1=>exact absurd rfl h
     |fail=>exact absurd rfl h
include hT in
theorem evalFn_ok: ∀(n f:Nat) (args:List Val) (H:Hp),CallOK E P f args H (evalFn E okDraw lf n f args H):=by
 intro n
 induction n with
 |zero=>intro f args H h;exact absurd rfl h
 |succ n ih=>intro f args H;exact evalBody_ok hT ih f args H
end
def isLv:Val→Bool
 | .lv _ _=>true
 |_=>false
theorem O8.get_list {α:Type} (o:O8 α) (i:Nat) (h:i<8):o.list[i]? =some (o.get i):=by
 match i,h with
 |0,_=>rfl
 |1,_=>rfl
 |2,_=>rfl
 |3,_=>rfl
 |4,_=>rfl
 |5,_=>rfl
 |6,_=>rfl
 |7,_=>rfl
theorem O8.set_get {α:Type} (o:O8 α) (i j:Nat) (x:α) (hi:i<8) (hj:j<8):(o.set i x).get j=if i=j then x else o.get j:=by
 match i,hi with
 |0,_=>match j,hj with|0,_=>rfl|1,_=>rfl|2,_=>rfl|3,_=>rfl|4,_=>rfl|5,_=>rfl|6,_=>rfl|7,_=>rfl
 |1,_=>match j,hj with|0,_=>rfl|1,_=>rfl|2,_=>rfl|3,_=>rfl|4,_=>rfl|5,_=>rfl|6,_=>rfl|7,_=>rfl
 |2,_=>match j,hj with|0,_=>rfl|1,_=>rfl|2,_=>rfl|3,_=>rfl|4,_=>rfl|5,_=>rfl|6,_=>rfl|7,_=>rfl
 |3,_=>match j,hj with|0,_=>rfl|1,_=>rfl|2,_=>rfl|3,_=>rfl|4,_=>rfl|5,_=>rfl|6,_=>rfl|7,_=>rfl
 |4,_=>match j,hj with|0,_=>rfl|1,_=>rfl|2,_=>rfl|3,_=>rfl|4,_=>rfl|5,_=>rfl|6,_=>rfl|7,_=>rfl
 |5,_=>match j,hj with|0,_=>rfl|1,_=>rfl|2,_=>rfl|3,_=>rfl|4,_=>rfl|5,_=>rfl|6,_=>rfl|7,_=>rfl
 |6,_=>match j,hj with|0,_=>rfl|1,_=>rfl|2,_=>rfl|3,_=>rfl|4,_=>rfl|5,_=>rfl|6,_=>rfl|7,_=>rfl
 |7,_=>match j,hj with|0,_=>rfl|1,_=>rfl|2,_=>rfl|3,_=>rfl|4,_=>rfl|5,_=>rfl|6,_=>rfl|7,_=>rfl
theorem flat_get {α β:Type} (f:α→List β) (m:Nat) (hm:0<m): ∀(l:List α),(∀x,x∈l→(f x).length=m)→ ∀i,(l.map f).flatten[i]? =(l[i/m]?).bind fun x=>(f x)[i%m]? :=by
 intro l
 induction l with
 |nil=>intro _ i;simp
 | cons x l ih=>
   intro h i;have hx:=h x (by simp);simp only [List.map_cons,List.flatten_cons];rw [List.getElem?_append,hx];by_cases hi:i<m
   · rw [if_pos hi,Nat.div_eq_of_lt hi,Nat.mod_eq_of_lt hi];simp
   · rw [if_neg hi,ih (fun y hy=>h y (by simp [hy]))];have e1:i/m=(i-m)/m+1:=by rw [←Nat.sub_add_cancel (Nat.le_of_not_lt hi)];rw [Nat.add_div_right _ hm];simp
     have e2:i%m=(i-m)%m:=by rw [←Nat.sub_add_cancel (Nat.le_of_not_lt hi)];simp
     rw [e1,e2];simp
theorem toL_length: ∀(d:Nat) (F:FrT d),(toL d F).length=8^d
 |0,F=>rfl
 |d+1,F=>by simp only [toL,O8.list,List.map_cons,List.map_nil,List.flatten_cons,List.flatten_nil,List.length_append,toL_length d,List.length_nil];rw [Nat.pow_succ];omega
theorem toL_get: ∀(d:Nat) (F:FrT d) (i:Nat),i<8^d→(toL d F)[i]? =some (gP d i F)
 | 0,F,i,h=>by
   have:i=0:=by simpa using h
   subst this;rfl
 | d+1,F,i,h=>by
   have hp:0<8^d:=Nat.pow_pos (by decide);have hi:i/8^d<8:=by rw [Nat.div_lt_iff_lt_mul hp];rw [Nat.pow_succ] at h;omega
   simp only [toL,gP];rw [flat_get (toL d) (8^d) hp _ (fun x _=>toL_length d x),O8.get_list _ _ hi];simp only [Option.bind_some];exact toL_get d _ _ (Nat.mod_lt _ hp)
theorem gP_sP: ∀(d:Nat) (F:FrT d) (i j:Nat) (v:Val),i<8^d→j<8^d→gP d j (sP d i v F)=if i=j then v else gP d j F
 | 0,F,i,j,v,hi,hj=>by
   have h1:i=0:=by simpa using hi
   have h2:j=0:=by simpa using hj
   subst h1;subst h2;simp [gP,sP]
 | d + 1,F,i,j,v,hi,hj=>by
   have hp:0<8^d:=Nat.pow_pos (by decide);have hi':i/8^d<8:=by rw [Nat.div_lt_iff_lt_mul hp];rw [Nat.pow_succ] at hi;omega
   have hj':j/8^d<8:=by rw [Nat.div_lt_iff_lt_mul hp];rw [Nat.pow_succ] at hj;omega
   simp only [gP,sP];rw [O8.set_get _ _ _ _ hi' hj'];by_cases e:i/8^d=j/8^d
   · rw [if_pos e,gP_sP d _ _ _ _ (Nat.mod_lt _ hp) (Nat.mod_lt _ hp),e];by_cases e2:i%8^d=j%8^d
     · have:i=j:=by rw [←Nat.div_add_mod i (8^d),←Nat.div_add_mod j (8^d),e,e2]
       rw [if_pos e2,if_pos this]
     · rw [if_neg e2,if_neg (fun h=>e2 (by rw [h]))]
   · rw [if_neg e,if_neg (fun h=>e (by rw [h]))]
def fr (d n:Nat) (F:FrT d):List Val:=(toL d F).take n
section
variable {d n:Nat} (hn:n≤8^d)
include hn in
theorem fr_length (F:FrT d):(fr d n F).length=n:=by simp [fr,toL_length];omega
include hn in
theorem fr_get (F:FrT d) {i:Nat} (hi:i<n):(fr d n F)[i]? =some (gP d i F):=by rw [fr,List.getElem?_take,if_pos hi,toL_get d F i (by omega)]
include hn in
theorem fr_getT (F:FrT d) {i:Nat} (hi:i<n):getT (fr d n F) i=gP d i F:=by rw [getT_eq,fr_get hn F hi];rfl
include hn in
theorem fr_set (F:FrT d) {i:Nat} (hi:i<n) (v:Val):fr d n (sP d i v F)=setT (fr d n F) i v:=by
 refine List.ext_getElem? fun j=> ?_;rw [setT_get,fr_length hn];by_cases hj:j<n
 · rw [fr_get hn _ hj,gP_sP d F i j v (by omega) (by omega),fr_get hn F hj];by_cases e:i=j
   · simp [e,hj]
   · simp [e]
 · rw [List.getElem?_eq_none (by rw [fr_length hn];omega)];rw [if_neg (by omega),List.getElem?_eq_none (by rw [fr_length hn];omega)]
theorem fillT_list: ∀d,toL d (fillT d)=List.replicate (8^d) (.tup [])
 |0=>rfl
 |d+1=>by simp only [toL,fillT,O8.list,List.map_cons,List.map_nil,List.flatten_cons,List.flatten_nil,fillT_list d,List.append_nil,List.replicate_append_replicate];congr 1;rw [Nat.pow_succ];omega
def pad (p:Nat) (l:List Val):List Val:=l.take p++List.replicate (p-l.length) (.tup [])
theorem pad_add (a b:Nat) (l:List Val):pad (a+b) l=pad a l++pad b (l.drop a):=by
 unfold pad;rw [List.take_add];by_cases h:l.length≤a
 · rw [List.drop_eq_nil_of_le h];simp only [List.take_nil,List.nil_append,List.length_nil,List.append_nil,List.append_assoc,List.replicate_append_replicate];congr 2;omega
 · have:a-l.length=0:=by omega
   rw [this];simp only [List.replicate_zero,List.append_nil,List.append_assoc,List.length_drop];congr 3;omega
theorem of8_spec {α:Type} {f:List Val→α×List Val} {L:α→List Val} {p:Nat} (h: ∀l,L (f l).1=pad p l∧(f l).2=l.drop p) (l:List Val):
  ((O8.list (of8 f l).1).map L).flatten=pad (8*p) l∧(of8 f l).2=l.drop (8*p):=by
 unfold of8;rcases h0:f l with ⟨a0,l0⟩;rcases h1:f l0 with ⟨a1,l1⟩;rcases h2:f l1 with ⟨a2,l2⟩;rcases h3:f l2 with ⟨a3,l3⟩;rcases h4:f l3 with ⟨a4,l4⟩;rcases h5:f l4 with ⟨a5,l5⟩;rcases h6:f l5 with ⟨a6,l6⟩;rcases h7:f l6 with ⟨a7,l7⟩;simp only [h0,h1,h2,h3,h4,h5,h6,h7];have g0:=h l;rw [h0] at g0;have g1:=h l0;rw [h1] at g1;have g2:=h l1;rw [h2] at g2;have g3:=h l2;rw [h3] at g3;have g4:=h l3;rw [h4] at g4;have g5:=h l4;rw [h5] at g5;have g6:=h l5;rw [h6] at g6;have g7:=h l6;rw [h7] at g7;simp only at g0 g1 g2 g3 g4 g5 g6 g7⊢;obtain ⟨g0,rfl⟩:=g0;obtain ⟨g1,rfl⟩:=g1;obtain ⟨g2,rfl⟩:=g2;obtain ⟨g3,rfl⟩:=g3;obtain ⟨g4,rfl⟩:=g4;obtain ⟨g5,rfl⟩:=g5;obtain ⟨g6,rfl⟩:=g6;obtain ⟨g7,rfl⟩:=g7;simp only [O8.list,List.map_cons,List.map_nil,List.flatten_cons,List.flatten_nil,List.append_nil,g0,g1,g2,g3,g4,g5,g6,g7];have e:8*p=p+(p+(p+(p+(p+(p+(p+p)))))):=by omega
 rw [e];refine ⟨?_,by simp only [List.drop_drop,Nat.add_assoc]⟩;simp only [pad_add p,List.drop_drop,Nat.add_assoc]
theorem ofL_spec: ∀(d:Nat) (l:List Val),toL d (ofL d l).1=pad (8^d) l∧(ofL d l).2=l.drop (8^d)
 | d,[]=>by
   have:ofL d []=(fillT d,[]):=by cases d<;>rfl
   rw [this,fillT_list];simp [pad]
 |0,v::l=>by simp [ofL,toL,pad]
 |d+1,v::l=>by have:=of8_spec (ofL_spec d) (v::l);rw [Nat.pow_succ,Nat.mul_comm];exact this
include hn in
theorem fr_ofL {l:List Val} (h:l.length≤n):fr d n (ofL d l).1=l++List.replicate (n-l.length) (.tup []):=by have e:l.take (8^d)=l:=List.take_of_length_le (by omega);rw [fr,(ofL_spec d l).1,pad,e,List.take_append,List.take_of_length_le h];congr 1;rw [List.take_replicate];congr 1;omega
end
def UOK {R:Type} (f:Val→R→(Val→R)→R) (spec:Val→Option Val):Prop:= ∀x e k,f x e k=e∨ ∃v,spec x=some v∧isLv v=false∧f x e k=k v
def BOK {R:Type} (f:Val→Val→R→(Val→R)→R) (spec:Val→Val→Option Val):Prop:= ∀x y e k,f x y e k=e∨ ∃v,spec x y=some v∧isLv v=false∧f x y e k=k v
theorem fW_ok {R:Type} (v:Val) (e:R) (k:Val→R):fW v e k=e∨(isLv v=false∧fW v e k=k v):=by cases v<;>first|exact .inl rfl|exact .inr ⟨rfl,by simp [fW]⟩
theorem kB_eq {R:Type} (b:Bool) (k:Val→R):kB b k=k (.bool b):=by cases b<;>rfl
section
variable {R:Type}
def nilS (x:Val):Option Val:=match x with
 | .nilp=>none
 | .nili=>none
 | .nilfn=>none
 | .bad=>none
 | .fn (.func f) a c=>some (.fn (.func f) a c)
 | .fn _ _ _=>none
 |v=>some v
theorem opNilCheck_eq (x:Val) (tm:List Val) (H:Hp):opNilCheck x tm H=okV (nilS x) tm H:=by unfold opNilCheck nilS;split<;>first|rfl|(split<;>first|rfl|simp_all)
theorem fNil_ok:UOK (R:=R) fNil nilS:=by
 intro x e k;unfold fNil;split<;>first
  |exact .inl rfl
  | (split
     · exact .inr ⟨_,rfl,rfl,rfl⟩
     · exact .inl rfl)
  | (rename_i h1 h2 h3 h4 h5 h6
     refine .inr ⟨_,?_,?_,rfl⟩
     · cases x<;>first|rfl|simp_all
     · cases x<;>first|rfl|simp_all)
theorem fNot_ok:UOK (R:=R) fNot (unP .not):=by
 intro x e k;unfold fNot;split
 · split<;>exact .inr ⟨_,rfl,rfl,rfl⟩
 · exact .inl rfl
theorem fUn_ok (op:UnOp):UOK (R:=R) (fUn op) (unP op):=by
 intro x e k;unfold fUn;split
 · rename_i v h;rcases fW_ok v e k with h1|⟨h1,h2⟩
   · exact .inl h1
   · exact .inr ⟨v,h,h1,h2⟩
 · exact .inl rfl
theorem fBin_ok (E:Env) (op:BinOp) (t:Nat):BOK (R:=R) (fBin E op t) (binP E op t):=by
 intro x y e k;unfold fBin;split
 · rename_i v h;rcases fW_ok v e k with h1|⟨h1,h2⟩
   · exact .inl h1
   · exact .inr ⟨v,h,h1,h2⟩
 · exact .inl rfl
theorem twoN_cases {i:IntKind} {x y:Val} {e:R} {k:Nat→Nat→R}:twoN i x y e k=e∨ ∃a b,x= .int i (.ofNat a)∧y= .int i (.ofNat b)∧twoN i x y e k=k a b:=by
 unfold twoN;split
 · split
   · rename_i h;have:=of_decide_eq_true h;obtain ⟨rfl,rfl⟩:=this;exact .inr ⟨_,_,rfl,rfl,rfl⟩
   · exact .inl rfl
 · exact .inl rfl
theorem wrap_lt {m:Nat} (h:m<9223372036854775808):IntKind.i64.wrap (Int.ofNat m)=Int.ofNat m:=by rw [IntKind.wrap_i64];simp;omega
theorem addI_ok (E:Env) (t:Nat):BOK (R:=R) (addI E t) (binP E .add t):=by
 intro x y e k;unfold addI;rcases twoN_cases (i:= .i64) (x:=x) (y:=y) (e:=fBin E .add t x y e k) (k:=addK E t x y e k) with h|⟨a,b,rfl,rfl,h⟩
 · rw [h];exact fBin_ok E .add t x y e k
 · rw [h];unfold addK;split
   · rename_i hb;have hb:a+b<9223372036854775808:=Nat.le_of_ble_eq_true hb;refine .inr ⟨_,?_,rfl,by rw [fN_eq]⟩;simp only [binP,binInt,if_true,binII,fI_eq];rw [show Int.ofNat a+Int.ofNat b=Int.ofNat (a+b) from rfl,wrap_lt hb]
   · exact fBin_ok E .add t _ _ e k
theorem cmpN_ok (E:Env) (i:IntKind) (op:BinOp) (t:Nat) (a b:Nat) (c:Bool) (h:cmpN op a b=some c):binP E op t (.int i (.ofNat a)) (.int i (.ofNat b))=some (.bool c):=by
 cases op<;>simp only [cmpN,Option.some.injEq,reduceCtorEq] at h<;>subst h<;>simp only [binP,binInt,if_true,binII,fB_eq,Option.some.injEq,Val.bool.injEq]
 · rw [Bool.eq_iff_iff,beq_iff_eq];simp;omega
 · rw [Bool.eq_iff_iff];simp [←Bool.not_eq_true,Nat.beq_eq];omega
 · rw [Bool.eq_iff_iff,decide_eq_true_eq];rw [show (Nat.blt a b=true)↔a<b from ⟨fun h=>Nat.le_of_ble_eq_true h,fun h=>Nat.ble_eq_true_of_le h⟩];exact Int.ofNat_lt
 · rw [Bool.eq_iff_iff,decide_eq_true_eq];rw [show (Nat.ble a b=true)↔a≤b from ⟨fun h=>Nat.le_of_ble_eq_true h,fun h=>Nat.ble_eq_true_of_le h⟩];exact Int.ofNat_le
 · rw [Bool.eq_iff_iff,decide_eq_true_eq];rw [show (Nat.blt b a=true)↔b<a from ⟨fun h=>Nat.le_of_ble_eq_true h,fun h=>Nat.ble_eq_true_of_le h⟩];exact Int.ofNat_lt
 · rw [Bool.eq_iff_iff,decide_eq_true_eq];rw [show (Nat.ble b a=true)↔b≤a from ⟨fun h=>Nat.le_of_ble_eq_true h,fun h=>Nat.ble_eq_true_of_le h⟩];exact Int.ofNat_le
theorem cmpI_ok (E:Env) (i:IntKind) (op:BinOp) (t:Nat):BOK (R:=R) (cmpI E i op t) (binP E op t):=by
 intro x y e k;unfold cmpI;rcases twoN_cases (i:=i) (x:=x) (y:=y) (e:=fBin E op t x y e k) (k:=cmpK op e k) with h|⟨a,b,rfl,rfl,h⟩
 · rw [h];exact fBin_ok E op t x y e k
 · rw [h];unfold cmpK;split
   · rename_i c hc;exact .inr ⟨_,cmpN_ok E i op t a b c hc,rfl,kB_eq _ _⟩
   · exact .inl rfl
theorem beqN (a b:Nat):(a==b)=Nat.beq a b:=by rw [Bool.eq_iff_iff,beq_iff_eq,Nat.beq_eq]
theorem eqS_ok (E:Env) (op:BinOp) (t:Nat):BOK (R:=R) (eqS E op t) (binP E op t):=by
 intro x y e k;unfold eqS;split
 · rename_i a b c d;split
   · refine .inr ⟨_,?_,rfl,kB_eq _ _⟩;simp only [binP,binStr,fB_eq,beqN]
   · refine .inr ⟨_,?_,rfl,kB_eq _ _⟩;simp only [binP,binStr,fB_eq,beqN]
   · exact fBin_ok E _ t _ _ e k
 · exact fBin_ok E op t _ _ e k
theorem fIdxS_ok (E:Env) {t:Nat} (h:und E t=some .string):BOK (R:=R) fIdxS (indexP E t):=by
 intro x i e k;unfold fIdxS;split
 · rename_i len num kk n;split
   · rename_i hb;refine .inr ⟨_,?_,rfl,by rw [fN_eq]⟩;simp only [indexP,h,asI];rw [if_pos (show n<len from Nat.le_of_ble_eq_true hb),fN_eq]
   · exact .inl rfl
 · exact .inl rfl
theorem fIxL_ok (E:Env) {t el m:Nat} (h:und E t=some (.slice el)) (hm:sizeT E el=some m):BOK (R:=R) (fIxL m) (indexAddrP E t):=by
 intro x i e k;unfold fIxL;split
 · rename_i kk n;split
   · rename_i rows c;split
     · rename_i r hr;split
       · rename_i hb;refine .inr ⟨_,?_,rfl,rfl⟩;simp only [indexAddrP,h,hm,asI,hr];rw [if_pos (Nat.eq_of_beq_eq_true hb)]
       · exact .inl rfl
     · exact .inl rfl
   · rename_i id gen off m' len c;split
     · rename_i hb;simp only [Bool.and_eq_true] at hb;refine .inr ⟨_,?_,rfl,by rw [fN_eq,fN_eq]⟩;simp only [indexAddrP,h,hm,asI];rw [if_pos ⟨Nat.eq_of_beq_eq_true hb.1,Nat.le_of_ble_eq_true hb.2⟩,fN_eq,fN_eq]
     · exact .inl rfl
   · exact .inl rfl
 · exact .inl rfl
theorem fIxA_ok (E:Env) {t len el m:Nat} (h:und E t=some (.array len el)) (hm:sizeT E el=some m):BOK (R:=R) (fIxA len m) (indexAddrP E t):=by
 intro x i e k;unfold fIxA;split
 · rename_i kk n;split
   · rename_i hb;split
     · rename_i v hv;rcases fW_ok v e k with h1|⟨h1,h2⟩
       · exact .inl h1
       · refine .inr ⟨v,?_,h1,h2⟩;simp only [indexAddrP,h,hm,asI];rw [if_pos (show n<len from Nat.le_of_ble_eq_true hb)];exact hv
     · exact .inl rfl
   · exact .inl rfl
 · exact .inl rfl
theorem fAddr_ok (E:Env) {s f:Nat} {fs:Array Field} {fd:Field} {m:Nat} (h:und E s=some (.struct fs)) (hf:fs[f]? =some fd) (hm:sizeT E fd.type=some (m+1)):
  UOK (R:=R) (fAddr fd.offset) (fun x=>fieldAddrP E s x f):=by
 intro x e k;have e1:fieldAddrP E s x f=addP x fd.offset:=by simp only [fieldAddrP,h,hf,hm]
 simp only [e1];unfold fAddr addP;cases x<;>first|exact .inl rfl|exact .inr ⟨_,by simp only [fN_eq];rfl,rfl,by simp only [fN_eq]⟩
theorem fConv_ok (E:Env) {s d:Nat} {i:IntKind} {sd:TypeDesc} (hs:und E s=some sd) (hd:und E d=some (.int i)) (H:Hp):UOK (R:=R) (fConv i) (fun x=>convertP E s d x H):=by
 intro x e k;unfold fConv;split
 · rename_i kk n;refine .inr ⟨_,?_,rfl,by rw [fI_eq]⟩;simp only [convertP,hs,hd,fI_eq]
 · exact .inl rfl
def extS (i:Nat) (x:Val):Option Val:=match x with
 | .tup vs=>vs[i]?
 |_=>none
theorem opExtract_eq (x:Val) (i:Nat) (tm:List Val) (H:Hp):opExtract x i tm H=okV (extS i x) tm H:=by unfold opExtract extS;cases x<;>rfl
theorem fExt_ok (i:Nat):UOK (R:=R) (fExt i) (extS i):=by
 intro x e k;unfold fExt extS;split
 · rename_i vs;simp only;split
   · rename_i v hv;rcases fW_ok v e k with h1|⟨h1,h2⟩
     · exact .inl h1
     · exact .inr ⟨v,hv,h1,h2⟩
   · exact .inl rfl
 · exact .inl rfl
theorem fLenS_ok (E:Env) {t:Nat} (h:und E t=some .string) (H:Hp):UOK (R:=R) fLenS (fun x=>lenP E t x H):=by
 intro x e k;unfold fLenS;split
 · refine .inr ⟨_,?_,rfl,rfl⟩;simp only [lenP,h]
 · exact .inl rfl
theorem fLenL_ok (E:Env) {t el:Nat} (h:und E t=some (.slice el)) (H:Hp):UOK (R:=R) fLenL (fun x=>lenP E t x H):=by
 intro x e k;unfold fLenL;split
 · exact .inr ⟨_,by simp only [lenP,h],rfl,rfl⟩
 · exact .inr ⟨_,by simp only [lenP,h,fN_eq];rfl,rfl,by rw [fN_eq]⟩
 · exact .inr ⟨_,by simp only [lenP,h],rfl,rfl⟩
 · exact .inl rfl
end
structure Tabs (d:Nat) where
  g:Nat→Get d
  s:Nat→Set d
structure TabsOK (d n:Nat) (T:Tabs d):Prop where
  fit:n≤8^d
  g: ∀i,i<n→ ∀F,T.g i F=gP d i F
  s: ∀i,i<n→ ∀v F k,T.s i v F k=k (sP d i v F)
section
variable (E:Env) (fid:Nat) (d n:Nat) (T:Tabs d)
def InvF (F:FrT d):Prop:= ∀i,i<n→E.loc fid i=false→isLv (gP d i F)=false
def opOK (x:Operand):Bool:=match x with
 | .tmp t=>Nat.blt t n
 | .global g=> !isLv (E.G g)
 |_=>true
def cG (x:Operand):Get d:=match x with
 | .tmp t=>match E.loc fid t with
   |true=>gLoc d t
   |false=>T.g t
 | .const v=>gC d (ofC 2 v)
 | .global g=>gC d (E.G g)
 | .func f=>gC d (.fn (.func f) [] [])
variable {E fid d n T}
theorem ofC_noLv (m:Nat) (x:Value):isLv (ofC m x)=false:=by cases m<;>(unfold ofC;split<;>rfl)
theorem opd_noLv {tm:List Val} {x:Operand} (h:opOK E n x=true):isLv (opd E tm x)=false:=by
 cases x with
 |tmp t=>simp only [opd];split<;>first|rfl|(rename_i hne;cases hg:getT tm t<;>first|rfl|exact absurd hg (hne _ _))
 |const v=>exact ofC_noLv _ _
 |global g=>show isLv (E.G g)=false;simpa [opOK] using h
 |func f=>rfl
theorem cG_ok (hT:TabsOK d n T) {x:Operand} (hx:opOK E n x=true) {F:FrT d} (hF:InvF E fid d n F):cG E fid d T x F=opd E (fr d n F) x:=by
 cases x with
 | tmp t=>
   have ht:t<n:=Nat.le_of_ble_eq_true hx
   cases hl:E.loc fid t with
   | true=>
     simp only [cG,opd,fr_getT hT.fit F ht,hl,gLoc]
     all_goals (cases gP d t F<;>rfl)
   | false=>
     simp only [cG,opd,fr_getT hT.fit F ht,hl];rw [hT.g t ht];have:=hF t ht hl;split
     · rename_i s cs e;rw [e] at this;cases this
     · rfl
 |const v=>rfl
 |global g=>rfl
 |func f=>rfl
theorem InvF.set (hT:TabsOK d n T) {F:FrT d} (hF:InvF E fid d n F) {i:Nat} (hi:i<n) {v:Val} (hv:E.loc fid i=false→isLv v=false):InvF E fid d n (sP d i v F):=by
 intro j hj hl;rw [gP_sP d F i j v (by have:=hT.fit;omega) (by have:=hT.fit;omega)];split
 · rename_i e;subst e;exact hv hl
 · exact hF j hj hl
section
variable (cf:CallF)
def ExOK (E:Env) (cf:CallF) (fid d n:Nat) (i:FI d) (o:Oper):Prop:= ∀(F:FrT d) (H:Hp) (k:FrT d→Hp→MRes d) (kp:Val→Hp→MRes d),InvF E fid d n F→
 exec E cf fid d n i F H k kp= .fail∨
 (∃F' H',InvF E fid d n F'∧stepOk E fid o (evalOp E cf fid o (fr d n F) H)=some (fr d n F',H')∧exec E cf fid d n i F H k kp=k F' H')∨
 ∃v H',evalOp E cf fid o (fr d n F) H= .pan v H'∧exec E cf fid d n i F H k kp=kp v H'
variable {cf}
theorem put2_set (hT:TabsOK d n T) {o:Oper} {i:Nat} (hd:o.dst=some i) (hi:i<n) (hl:E.loc fid i=false) (F:FrT d) (v:Val) (H:Hp):
  put2 E fid o.dst v (fr d n F) H=some (fr d n (sP d i v F),H):=by
 unfold put2 putR;rw [hd];simp only [hl,locSafe,fL_eq,fr_set hT.fit F hi v]
theorem stepOk_okV (hT:TabsOK d n T) {o:Oper} {i:Nat} (hd:o.dst=some i) (hi:i<n) (hl:E.loc fid i=false) (F:FrT d) (v:Val) (H:Hp) {r:Option Val} (hr:r=some v):
  stepOk E fid o (okV r (fr d n F) H)=some (fr d n (sP d i v F),H):=by
 subst hr;simp only [okV,fV_eq,stepOk];exact put2_set hT hd hi hl F v H
theorem ex_mv (hT:TabsOK d n T) {o:Oper} {i:Nat} {x:Operand} (hd:o.dst=some i) (hi:i<n) (hl:E.loc fid i=false) (hx:opOK E n x=true)
  (he: ∀tm H,evalOp E cf fid o tm H=okV (some (opd E tm x)) tm H):ExOK E cf fid d n (.mv (cG E fid d T x) (T.s i)) o:=by
 intro F H k kp hF;refine .inr (.inl ⟨sP d i (opd E (fr d n F) x) F,H,hF.set hT hi fun _=>opd_noLv hx,?_,?_⟩)
 · rw [he];exact stepOk_okV hT hd hi hl F _ H rfl
 · show T.s i (cG E fid d T x F) F (fun F=>k F H)=_;rw [hT.s i hi,cG_ok hT hx hF]
theorem ex_un (hT:TabsOK d n T) {o:Oper} {i:Nat} {x:Operand} {f:Val→MRes d→(Val→MRes d)→MRes d} {spec:Hp→Val→Option Val} (hd:o.dst=some i) (hi:i<n) (hl:E.loc fid i=false) (hx:opOK E n x=true)
  (he: ∀tm H,evalOp E cf fid o tm H=okV (spec H (opd E tm x)) tm H) (hf: ∀H,UOK f (spec H)):ExOK E cf fid d n (.un (cG E fid d T x) f (T.s i)) o:=by
 intro F H k kp hF;show (f (cG E fid d T x F) .fail fun v=>T.s i v F fun F=>k F H)=_∨_;rcases hf H (cG E fid d T x F) .fail (fun v=>T.s i v F fun F=>k F H) with h|⟨v,h1,h2,h3⟩
 · exact .inl h
 · refine .inr (.inl ⟨sP d i v F,H,hF.set hT hi fun _=>h2,?_,?_⟩)
   · rw [cG_ok hT hx hF] at h1;rw [he];exact stepOk_okV hT hd hi hl F v H h1
   · exact h3.trans (hT.s i hi _ _ _)
theorem ex_bi (hT:TabsOK d n T) {o:Oper} {i:Nat} {x y:Operand} {f:Val→Val→MRes d→(Val→MRes d)→MRes d} {spec:Val→Val→Option Val} (hd:o.dst=some i) (hi:i<n) (hl:E.loc fid i=false) (hx:opOK E n x=true) (hy:opOK E n y=true)
  (he: ∀tm H,evalOp E cf fid o tm H=okV (spec (opd E tm x) (opd E tm y)) tm H) (hf:BOK f spec):ExOK E cf fid d n (.bi (cG E fid d T x) (cG E fid d T y) f (T.s i)) o:=by
 intro F H k kp hF;show (f (cG E fid d T x F) (cG E fid d T y F) .fail fun v=>T.s i v F fun F=>k F H)=_∨_;rcases hf (cG E fid d T x F) (cG E fid d T y F) .fail (fun v=>T.s i v F fun F=>k F H) with h|⟨v,h1,h2,h3⟩
 · exact .inl h
 · refine .inr (.inl ⟨sP d i v F,H,hF.set hT hi fun _=>h2,?_,?_⟩)
   · rw [cG_ok hT hx hF,cG_ok hT hy hF] at h1;rw [he];exact stepOk_okV hT hd hi hl F v H h1
   · exact h3.trans (hT.s i hi _ _ _)
theorem ex_pick (hT:TabsOK d n T) {o:Oper} {i:Nat} {c x y:Operand} (hd:o.dst=some i) (hi:i<n) (hl:E.loc fid i=false) (hc:opOK E n c=true) (hx:opOK E n x=true) (hy:opOK E n y=true)
  (he: ∀tm H,evalOp E cf fid o tm H=opPick (opd E tm c) (opd E tm x) (opd E tm y) tm H):ExOK E cf fid d n (.pick (cG E fid d T c) (cG E fid d T x) (cG E fid d T y) (T.s i)) o:=by
 intro F H k kp hF;show xPick d (cG E fid d T c) (cG E fid d T x) (cG E fid d T y) (T.s i) F H k kp=_∨(∃F' H',_∧_∧xPick d (cG E fid d T c) (cG E fid d T x) (cG E fid d T y) (T.s i) F H k kp=_)∨ ∃v H',_∧xPick d (cG E fid d T c) (cG E fid d T x) (cG E fid d T y) (T.s i) F H k kp=_;unfold xPick;rw [cG_ok hT hc hF,cG_ok hT hx hF,cG_ok hT hy hF];split
 · rename_i b hb;split
   · refine .inr (.inl ⟨sP d i (opd E (fr d n F) x) F,H,hF.set hT hi fun _=>opd_noLv hx,?_,hT.s i hi _ _ _⟩);rw [he,hb];exact stepOk_okV hT hd hi hl F _ H rfl
   · refine .inr (.inl ⟨sP d i (opd E (fr d n F) y) F,H,hF.set hT hi fun _=>opd_noLv hy,?_,hT.s i hi _ _ _⟩);rw [he,hb];exact stepOk_okV hT hd hi hl F _ H rfl
 · exact .inl rfl
theorem rowAtF_ok (hn:n≤8^d) {F:FrT d} {H:Hp} {p:Val} {r:List Val×Nat×Nat} (h:rowAtF d n F H p=some r):rowAtP (fr d n F) H p=some r:=by
 unfold rowAtF at h;unfold rowAtP;split at h
 · exact h
 · exact h
 · rename_i slot st off;split at h
   · rename_i hb
     try dsimp only
     rw [fr_getT hn F (Nat.le_of_ble_eq_true hb)];exact h
   · cases h
 · cases h
theorem ex_ld (hT:TabsOK d n T) {o:Oper} {i t m:Nat} {dd:TypeDesc} {x:Operand} (hd:o.dst=some i) (hi:i<n) (hl:E.loc fid i=false) (hx:opOK E n x=true)
  (he: ∀tm H,evalOp E cf fid o tm H=okV (loadP E t (opd E tm x) tm H) tm H) (hm:sizeT E t=some m) (hu:und E t=some dd):ExOK E cf fid d n (.ld (cG E fid d T x) m (isAggD dd) (T.s i)) o:=by
 intro F H k kp hF;show xLd d n (cG E fid d T x) m (isAggD dd) (T.s i) F H k kp=_∨(∃F' H',_∧_∧xLd d n (cG E fid d T x) m (isAggD dd) (T.s i) F H k kp=_)∨ ∃v H',_∧xLd d n (cG E fid d T x) m (isAggD dd) (T.s i) F H k kp=_;unfold xLd;rw [cG_ok hT hx hF];split
 · rename_i v hv;rcases fW_ok v .fail (fun v=>T.s i v F fun F=>k F H) with h|⟨h1,h2⟩
   · exact .inl h
   · refine .inr (.inl ⟨sP d i v F,H,hF.set hT hi fun _=>h1,?_,h2.trans (hT.s i hi _ _ _)⟩);rw [he];refine stepOk_okV hT hd hi hl F v H ?_;unfold loadP;simp only [hm,hu]
     cases hr:rowAtF d n F H (opd E (fr d n F) x) with
     |none=>rw [hr] at hv;cases hv
     |some r=>rw [rowAtF_ok hT.fit hr,←hr];exact hv
 · exact .inl rfl
theorem ex_st (hT:TabsOK d n T) {o:Oper} {t m:Nat} {p x:Operand} (hd:o.dst=none) (hp:opOK E n p=true) (hx:opOK E n x=true)
  (he: ∀tm H,evalOp E cf fid o tm H=storeP E t (opd E tm p) (opd E tm x) tm H) (hm:sizeT E t=some m) (hloc: ∀i st cs,i<n→ ∀F:FrT d,gP d i F= .lv st cs→InvF E fid d n F→E.loc fid i=true):
  ExOK E cf fid d n (.st m (cG E fid d T p) (cG E fid d T x) none) o:=by
 intro F H k kp hF;show xSt d n m (cG E fid d T p) (cG E fid d T x) none F H k kp=_∨(∃F' H',_∧_∧xSt d n m (cG E fid d T p) (cG E fid d T x) none F H k kp=_)∨ ∃v H',_∧xSt d n m (cG E fid d T p) (cG E fid d T x) none F H k kp=_;unfold xSt execSt;rw [cG_ok hT hp hF,cG_ok hT hx hF];have put0: ∀(F:FrT d) (H:Hp),stepOk E fid o (.ok (.tup []) (fr d n F) H)=some (fr d n F,H):=by intro F H;simp only [stepOk,put2,putR,hd]
 split
 · rename_i hc;simp only [Bool.and_eq_true] at hc;have hc1:=Nat.eq_of_beq_eq_true hc.1
   have hst:storeP E t (opd E (fr d n F) p) (opd E (fr d n F) x) (fr d n F) H=(match opd E (fr d n F) p with
     | .ptr id gen off lim=>storeH id gen off lim m (opd E (fr d n F) x).cells (fr d n F) H
     | .lp slot st off=>storeL slot st off (opd E (fr d n F) x).cells (fr d n F) H
     |_=> .fail):=by
    unfold storeP;simp only [hm];unfold storeV;rw [if_pos ⟨hc1,hc.2⟩];cases opd E (fr d n F) p<;>rfl
   split
   · rename_i id gen off lim hop;rw [hop] at hst;simp only at hst;have hre:=storeH_re (tm:= []) (tm':=fr d n F) (H:=H) id gen off lim m (opd E (fr d n F) x).cells;split
     · rename_i v tm' H' hs;refine .inr (.inl ⟨F,H',hF,?_,rfl⟩);rw [he,hop,hst,hre,hs];have hv:v= .tup []:=by
        unfold storeH at hs;split at hs
        · split at hs
          · split at hs
            · simp only [fL_eq,fH_eq,ORes.ok.injEq] at hs;exact hs.1.symm
            · cases hs
          · cases hs
        · cases hs
       subst hv;exact put0 F H'
     · exact .inl rfl
   · rename_i slot stp off hop;rw [hop] at hst;simp only at hst;unfold storeLF;split
     · rename_i hb;have hslot:slot<n:=Nat.le_of_ble_eq_true hb;split
       · rename_i st' cs hg;split
         · rename_i hst';split
           · rename_i cs' hu;simp only [fL_eq];refine .inr (.inl ⟨sP d slot (.lv stp cs') F,H,hF.set hT hslot fun hl=> ?_,?_,rfl⟩)
             · rw [hloc slot st' cs hslot F hg hF] at hl;cases hl
             · rw [he,hop,hst];unfold storeL;rw [fr_getT hT.fit F hslot,hg];simp only;rw [if_pos hst',hu];simp only [fL_eq];rw [←fr_set hT.fit F hslot];exact put0 _ H
           · exact .inl rfl
         · exact .inl rfl
       · exact .inl rfl
     · exact .inl rfl
   · exact .inl rfl
 · exact .inl rfl
end
end
section
variable {E:Env} {cf:CallF} {fid d n:Nat} {T:Tabs d}
theorem InvF.loc {F:FrT d} (hF:InvF E fid d n F) {i st:Nat} {cs:List Val} (hi:i<n) (h:gP d i F= .lv st cs):E.loc fid i=true:=by
 cases hl:E.loc fid i with
 |true=>rfl
 |false=>have:=hF i hi hl;rw [h] at this;cases this
theorem args_ok (hT:TabsOK d n T) {F:FrT d} (hF:InvF E fid d n F): ∀(l:List Operand),l.all (opOK E n)=true→(l.map (cG E fid d T)).map (fun g=>g F)=l.map (opd E (fr d n F))
 | [],_=>rfl
 |x::l,h=>by simp only [List.all_cons,Bool.and_eq_true] at h;simp only [List.map_cons,cG_ok hT h.1 hF,args_ok hT hF l h.2]
theorem okF_ok (hT:TabsOK d n T) {o:Oper} {F:FrT d} {H:Hp} {r:ORes} {so:Option (Set d)} {k:FrT d→Hp→MRes d} {kp:Val→Hp→MRes d} (hF:InvF E fid d n F)
  (hs:(∃i,o.dst=some i∧i<n∧E.loc fid i=false∧so=some (T.s i))∨(o.dst=none∧so=none)) (he:evalOp E cf fid o (fr d n F) H=reTm (fr d n F) r):
  okF d r F so k kp= .fail∨(∃F' H',InvF E fid d n F'∧stepOk E fid o (evalOp E cf fid o (fr d n F) H)=some (fr d n F',H')∧okF d r F so k kp=k F' H')∨
  ∃v H',evalOp E cf fid o (fr d n F) H= .pan v H'∧okF d r F so k kp=kp v H':=by
 unfold okF;split
 · rename_i v tm0 H';rcases fW_ok v .fail (fun v=>setO d so v F fun F=>k F H') with h|⟨h1,h2⟩
   · exact .inl h
   · rcases hs with ⟨i,hd,hi,hl,rfl⟩|⟨hd,rfl⟩
     · refine .inr (.inl ⟨sP d i v F,H',hF.set hT hi fun _=>h1,?_,h2.trans (hT.s i hi _ _ _)⟩);rw [he];exact put2_set hT hd hi hl F v H'
     · refine .inr (.inl ⟨F,H',hF,?_,h2⟩);rw [he];simp only [reTm,stepOk,put2,putR,hd]
 · rename_i v H';exact .inr (.inr ⟨v,H',by rw [he];rfl,rfl⟩)
 · exact .inl rfl
theorem ex_call (hT:TabsOK d n T) {o:Oper} {c:Call} {f:Nat} {so:Option (Set d)} (hop:o.op= .call c) (hc:c.callee= .value (.func f)) (ha:c.args.toList.all (opOK E n)=true)
  (hs:(∃i,o.dst=some i∧i<n∧E.loc fid i=false∧so=some (T.s i))∨(o.dst=none∧so=none)):
  ExOK E cf fid d n (.call f (c.args.toList.map (cG E fid d T)) so) o:=by
 intro F H k kp hF;show okF d (fL ((c.args.toList.map (cG E fid d T)).map fun g=>g F) fun args=>doCall E cf f args H []) F so k kp=_∨(∃F' H',_∧_∧okF d (fL ((c.args.toList.map (cG E fid d T)).map fun g=>g F) fun args=>doCall E cf f args H []) F so k kp=_)∨
  ∃v H',_∧okF d (fL ((c.args.toList.map (cG E fid d T)).map fun g=>g F) fun args=>doCall E cf f args H []) F so k kp=_
 rw [fL_eq,args_ok hT hF _ ha];refine okF_ok hT hF hs ?_;unfold evalOp;simp only [hop,opCall,hc,opd,opCallV,List.nil_append,List.append_nil,fL_eq];exact doCall_re _ _
theorem ex_callv (hT:TabsOK d n T) {o:Oper} {c:Call} {x:Operand} {so:Option (Set d)} (hop:o.op= .call c) (hc:c.callee= .value x) (hx:opOK E n x=true) (ha:c.args.toList.all (opOK E n)=true)
  (hs:(∃i,o.dst=some i∧i<n∧E.loc fid i=false∧so=some (T.s i))∨(o.dst=none∧so=none)):
  ExOK E cf fid d n (.callv (cG E fid d T x) (c.args.toList.map (cG E fid d T)) so) o:=by
 intro F H k kp hF;show okF d (opCallV E cf (cG E fid d T x F) ((c.args.toList.map (cG E fid d T)).map fun g=>g F) H []) F so k kp=_∨(∃F' H',_∧_∧okF d (opCallV E cf (cG E fid d T x F) ((c.args.toList.map (cG E fid d T)).map fun g=>g F) H []) F so k kp=_)∨
  ∃v H',_∧okF d (opCallV E cf (cG E fid d T x F) ((c.args.toList.map (cG E fid d T)).map fun g=>g F) H []) F so k kp=_
 rw [args_ok hT hF _ ha,cG_ok hT hx hF];refine okF_ok hT hF hs ?_;unfold evalOp;simp only [hop,opCall,hc];exact opCallV_re _ _
theorem execNewL_ok (hT:TabsOK d n T) {o:Oper} {i:Nat} {F:FrT d} {H:Hp} {z:List Val} {k:FrT d→MRes d} (hF:InvF E fid d n F) (hd:o.dst=some i) (hi:i<n) (hl:E.loc fid i=true)
  (he:evalOp E cf fid o (fr d n F) H=newLocal i z (fr d n F) H):
  ∃F',InvF E fid d n F'∧stepOk E fid o (evalOp E cf fid o (fr d n F) H)=some (fr d n F',H)∧execNewL d z i F k=k F':=by
 have put: ∀s,stepOk E fid o (.ok (.lv s z) (fr d n F) H)=some (fr d n (sP d i (.lv s z) F),H):=by intro s;simp only [stepOk,put2,putR,hd,hl,locSafe,fL_eq,fr_set hT.fit F hi]
 unfold execNewL;rw [he];unfold newLocal;rw [fr_getT hT.fit F hi];split
 · rename_i s cs hg;refine ⟨sP d i (.lv (s+1) z) F,hF.set hT hi (fun h=>by rw [hl] at h;cases h),?_,by first|(rw [hg];simp only [fN_eq])|simp only [fN_eq]⟩;simp only [hg,okV,fV_eq];exact put _
 · rename_i hg;refine ⟨sP d i (.lv 0 z) F,hF.set hT hi (fun h=>by rw [hl] at h;cases h),?_,by first|rfl|(split<;>first|rfl|(rename_i s cs e;exact absurd e (hg s cs)))⟩;simp only [okV,fV_eq];exact put _
theorem ex_newL (hT:TabsOK d n T) {o:Oper} {i:Nat} {z:Val} (hd:o.dst=some i) (hi:i<n) (hl:E.loc fid i=true) (hz:z.cells.all okCell=true) {el:Nat}
  (he: ∀tm H,evalOp E cf fid o tm H=opAlloc true (some i) el (some z) tm H):ExOK E cf fid d n (.newL z.cells i) o:=by
 intro F H k kp hF;obtain ⟨F',h1,h2,h3⟩:=execNewL_ok (cf:=cf) (H:=H) (z:=z.cells) (k:=fun F=>k F H) hT hF hd hi hl (by rw [he];simp only [opAlloc,hz]);exact .inr (.inl ⟨F',H,h1,h2,h3⟩)
theorem okCellV_eq (v:Val):okCellV v=v.cells.all okCell:=by cases v<;>simp [okCellV,Val.cells]
theorem ex_boxL (hT:TabsOK d n T) {o:Oper} {i:Nat} {x:Operand} (hd:o.dst=some i) (hi:i<n) (hl:E.loc fid i=true) (hx:opOK E n x=true) {el:Nat}
  (he: ∀tm H,evalOp E cf fid o tm H=opAlloc true (some i) el (some (opd E tm x)) tm H):ExOK E cf fid d n (.boxL (cG E fid d T x) i) o:=by
 intro F H k kp hF;show xBoxL d (cG E fid d T x) i F H k kp=_∨(∃F' H',_∧_∧xBoxL d (cG E fid d T x) i F H k kp=_)∨ ∃v H',_∧xBoxL d (cG E fid d T x) i F H k kp=_;unfold xBoxL;rw [cG_ok hT hx hF,okCellV_eq];split
 · rename_i hz;rw [fL_eq];obtain ⟨F',h1,h2,h3⟩:=execNewL_ok (cf:=cf) (H:=H) (z:=(opd E (fr d n F) x).cells) (k:=fun F=>k F H) hT hF hd hi hl (by rw [he];simp only [opAlloc,hz]);exact .inr (.inl ⟨F',H,h1,h2,h3⟩)
 · exact .inl rfl
theorem ex_newB (hT:TabsOK d n T) {o:Oper} {i:Nat} {z:Val} (hd:o.dst=some i) (hi:i<n) (hl:E.loc fid i=false) (hz:z.cells.all okCell=true) {el:Nat}
  (he: ∀tm H,evalOp E cf fid o tm H=opAlloc false (some i) el (some z) tm H):ExOK E cf fid d n (.newB el z.cells (T.s i)) o:=by
 intro F H k kp hF;refine .inr (.inl ⟨sP d i (.ptr H.n (genOf el) 0 z.cells.length) F,H.push (.cells (genOf el) (genOf el) 0 z.cells),hF.set hT hi fun _=>rfl,?_,?_⟩)
 · rw [he];simp only [opAlloc,hz,newBox,fN_eq,fV_eq,fL_eq,fH_eq,stepOk];exact put2_set hT hd hi hl F _ _
 · show fN (genOf el) (fun e=>T.s i (.ptr H.n e 0 z.cells.length) F (fun F=>fH (H.push (.cells e e 0 z.cells)) fun H=>k F H))=_;rw [fN_eq,hT.s i hi,fH_eq]
theorem ex_boxB (hT:TabsOK d n T) {o:Oper} {i:Nat} {x:Operand} (hd:o.dst=some i) (hi:i<n) (hl:E.loc fid i=false) (hx:opOK E n x=true) {el:Nat}
  (he: ∀tm H,evalOp E cf fid o tm H=opAlloc false (some i) el (some (opd E tm x)) tm H):ExOK E cf fid d n (.boxB el (cG E fid d T x) (T.s i)) o:=by
 intro F H k kp hF;show xBoxB d el (cG E fid d T x) (T.s i) F H k kp=_∨(∃F' H',_∧_∧xBoxB d el (cG E fid d T x) (T.s i) F H k kp=_)∨ ∃v H',_∧xBoxB d el (cG E fid d T x) (T.s i) F H k kp=_;unfold xBoxB;rw [cG_ok hT hx hF,okCellV_eq];split
 · rename_i hz;simp only [fL_eq,fN_eq,fV_eq,hT.s i hi,fH_eq];refine .inr (.inl ⟨_,_,hF.set hT hi fun _=>rfl,?_,rfl⟩);rw [he];simp only [opAlloc,hz,newBox,fN_eq,fV_eq,fL_eq,fH_eq,stepOk];exact put2_set hT hd hi hl F _ _
 · exact .inl rfl
theorem evalOp_tm {o:Oper} {tm tm':List Val} {H H':Hp} {v:Val} (h:evalOp E cf fid o tm H= .ok v tm' H'):tm'.length=tm.length∧ ∀i,isLv (getT tm' i)=true→isLv (getT tm i)=true:=by
 by_cases hst: ∃t a x,o.op= .store t a x∧notLp (opd E tm a)=false
 · obtain ⟨t,a,x,hop,hn⟩:=hst;unfold evalOp at h;simp only [hop] at h;cases hp:opd E tm a<;>rw [hp] at hn<;>try (cases hn;done)
   rename_i slot st off;rw [hp] at h;unfold storeP at h;split at h
   case h_2=>cases h
   unfold storeV at h;split at h
   case isFalse=>cases h
   simp only at h;unfold storeL at h;split at h
   case h_2=>cases h
   rename_i st' cs hg;split at h
   case isFalse=>cases h
   split at h
   case h_2=>cases h
   simp only [fL_eq,ORes.ok.injEq] at h;obtain ⟨_,rfl,_⟩:=h;refine ⟨setT_length _ _ _,fun i hi=> ?_⟩;rw [getT_eq,setT_get] at hi;rw [getT_eq] at hg⊢;split at hi
   · rename_i e;rw [←e.1,hg];rfl
   · exact hi
 · have hre:=evalOp_re (E:=E) (cf:=cf) (fid:=fid) (tm:=tm) (tm':=tm) (H:=H) (o:=o) (fun _ _=>rfl) (fun _ _=>rfl) (fun _ _ _ _ _ _ _=>rfl) (fun t a x hop=>by
    cases hn:notLp (opd E tm a) with
    |true=>rfl
    |false=>exact absurd ⟨t,a,x,hop,hn⟩ hst)
   rw [h] at hre;simp only [reTm,ORes.ok.injEq] at hre;obtain ⟨_,rfl,_⟩:=hre;exact ⟨rfl,fun i h=>h⟩
theorem ex_slow (hT:TabsOK d n T) {o:Oper}:ExOK E cf fid d n (.slow o) o:=by
 intro F H k kp hF;have hF0: ∀i,E.loc fid i=false→isLv (getT (fr d n F) i)=false:=by
  intro i hl;by_cases hi:i<n
  · rw [fr_getT hT.fit F hi];exact hF i hi hl
  · rw [getT_eq,List.getElem?_eq_none (by rw [fr_length hT.fit];omega)];rfl
 show execSlow E cf fid d n o F H k kp=_∨(∃F' H',_∧_∧execSlow E cf fid d n o F H k kp=_)∨ ∃v H',_∧execSlow E cf fid d n o F H k kp=_
 have hx:execSlow E cf fid d n o F H k kp=(match evalOp E cf fid o (fr d n F) H with
  | .ok v tm H=>match slowOK E fid o.dst v with
    | true=>match putR E fid o.dst v tm with
      |some tm=>k (ofL d tm).1 H
      |none=> .fail
    |false=> .fail
  | .pan v H=>kp v H
  | .fail=> .fail):=rfl
 rw [hx]
 cases hev:evalOp E cf fid o (fr d n F) H with
 |fail=>exact .inl rfl
 |pan v H'=>exact .inr (.inr ⟨v,H',rfl,rfl⟩)
 | ok v tm' H'=>
   simp only;obtain ⟨t1,t2⟩:=evalOp_tm hev
   cases hso:slowOK E fid o.dst v with
   |false=>exact .inl rfl
   | true =>
     simp only
     cases hp:putR E fid o.dst v tm' with
     |none=>exact .inl rfl
     | some tm''=>
       simp only;have hput:tm''.length=tm'.length∧ ∀i,E.loc fid i=false→isLv (getT tm'' i)=true→isLv (getT tm' i)=true:=by
        unfold putR at hp
        cases hd:o.dst with
        |none=>rw [hd] at hp;simp only [Option.some.injEq] at hp;subst hp;exact ⟨rfl,fun _ _ h=>h⟩
        | some j=>
          rw [hd] at hp;simp only [fL_eq] at hp;split at hp
          · simp only [Option.some.injEq] at hp;subst hp;refine ⟨setT_length _ _ _,fun i hl hi=> ?_⟩;rw [getT_eq,setT_get] at hi;rw [getT_eq];split at hi
            · rename_i e;obtain ⟨rfl,_⟩:=e;simp only [slowOK,hd,hl,Bool.false_or] at hso;simp only [Option.getD_some] at hi;cases v<;>first|(cases hi;done)|(cases hso;done)
            · exact hi
          · cases hp
       have h1:tm''.length=n:=by rw [hput.1,t1,fr_length hT.fit]
       have e:fr d n (ofL d tm'').1=tm'':=by rw [fr_ofL hT.fit (by omega),h1];simp
       refine .inr (.inl ⟨(ofL d tm'').1,H',fun i hi hl=> ?_,?_,rfl⟩)
       · rw [←fr_getT hT.fit _ hi,e]
         cases hq:isLv (getT tm'' i) with
         |false=>rfl
         |true=>have:=hF0 i hl;rw [t2 i (hput.2 i hl hq)] at this;cases this
       · simp only [stepOk,put2,hp,e]
end
section
variable (E:Env) (fid d n:Nat) (T:Tabs d)
def g1 (x:Operand) (o:Oper) (r:FI d):FI d:=match opOK E n x with
 |true=>r
 |false=> .slow o
def cBin {R:Type} (op:BinOp) (t:Nat):Val→Val→R→(Val→R)→R:=match und E t with
 | some (.int k)=>match op with
   | .add=>match decide (k= .i64) with
     |true=>addI E t
     |false=>fBin E .add t
   | .lss=>cmpI E k .lss t
   | .gtr=>cmpI E k .gtr t
   | .leq=>cmpI E k .leq t
   | .geq=>cmpI E k .geq t
   | .eql=>cmpI E k .eql t
   | .neq=>cmpI E k .neq t
   |op=>fBin E op t
 | some .string=>match op with
   | .eql=>eqS E .eql t
   | .neq=>eqS E .neq t
   |op=>fBin E op t
 |_=>fBin E op t
def cCall (c:Call) (so:Option (Set d)) (o:Oper):FI d:=match c.callee with
 | .value f=>match c.args.toList.all (opOK E n) with
   | true=>match f with
     | .func g=> .call g (c.args.toList.map (cG E fid d T)) so
     |f=>g1 E d n f o (.callv (cG E fid d T f) (c.args.toList.map (cG E fid d T)) so)
   |false=> .slow o
 |_=> .slow o
def cLen (t:Nat) (x:Operand) (i:Nat) (o:Oper):FI d:=match und E t with
 |some .string=>g1 E d n x o (.un (cG E fid d T x) fLenS (T.s i))
 |some (.slice _)=>g1 E d n x o (.un (cG E fid d T x) fLenL (T.s i))
 |_=> .slow o
def cI1 (i:Nat) (o:Oper):FI d:=match o.op with
 | .move x=>g1 E d n x o (.mv (cG E fid d T x) (T.s i))
 | .assign x=>g1 E d n x o (.mv (cG E fid d T x) (T.s i))
 | .pick c a b=>g1 E d n c o (g1 E d n a o (g1 E d n b o (.pick (cG E fid d T c) (cG E fid d T a) (cG E fid d T b) (T.s i))))
 | .nilCheck x=>g1 E d n x o (.un (cG E fid d T x) fNil (T.s i))
 | .unOp op _ x=>g1 E d n x o (match op with
   | .not=> .un (cG E fid d T x) fNot (T.s i)
   |op=> .un (cG E fid d T x) (fUn op) (T.s i))
 | .binOp op t x y _=>g1 E d n x o (g1 E d n y o (.bi (cG E fid d T x) (cG E fid d T y) (cBin E op t) (T.s i)))
 | .load t a=>match sizeT E t,und E t with
   |some m,some dd=>g1 E d n a o (.ld (cG E fid d T a) m (isAggD dd) (T.s i))
   |_,_=> .slow o
 | .fieldAddr s x f=>match und E s with
   | some (.struct fs)=>match fs[f]? with
     | some fd=>match sizeT E fd.type with
       |some (_+1)=>g1 E d n x o (.un (cG E fid d T x) (fAddr fd.offset) (T.s i))
       |_=> .slow o
     |none=> .slow o
   |_=> .slow o
 | .indexAddr t x j=>match und E t with
   | some (.slice el)=>match sizeT E el with
     |some m=>g1 E d n x o (g1 E d n j o (.bi (cG E fid d T x) (cG E fid d T j) (fIxL m) (T.s i)))
     |none=> .slow o
   | some (.array len el)=>match sizeT E el with
     |some m=>g1 E d n x o (g1 E d n j o (.bi (cG E fid d T x) (cG E fid d T j) (fIxA len m) (T.s i)))
     |none=> .slow o
   |_=> .slow o
 | .index t x j=>match und E t with
   |some .string=>g1 E d n x o (g1 E d n j o (.bi (cG E fid d T x) (cG E fid d T j) fIdxS (T.s i)))
   |_=> .slow o
 | .convert s t x=>match und E s,und E t with
   |some (.int _),some (.int k)=>g1 E d n x o (.un (cG E fid d T x) (fConv k) (T.s i))
   |_,_=> .slow o
 | .extract x j=>g1 E d n x o (.un (cG E fid d T x) (fExt j) (T.s i))
 | .alloc el=>match zeroT E el with
   | some z=>match z.cells.all okCell with
     |true=> .newB el z.cells (T.s i)
     |false=> .slow o
   |none=> .slow o
 | .box el x=>g1 E d n x o (.boxB el (cG E fid d T x) (T.s i))
 | .call c=>match c.callee with
   | .builtin b=>match b,c.argTypes.toList,c.args.toList with
     | .len,[t],[x]=>cLen E fid d n T t x i o
     |_,_,_=> .slow o
   |_=>cCall E fid d n T c (some (T.s i)) o
 |_=> .slow o
def cI2 (i:Nat) (o:Oper):FI d:=match o.op with
 | .alloc el=>match zeroT E el with
   | some z=>match z.cells.all okCell with
     |true=> .newL z.cells i
     |false=> .slow o
   |none=> .slow o
 | .box _ x=>g1 E d n x o (.boxL (cG E fid d T x) i)
 |_=> .slow o
def cI3 (o:Oper):FI d:=match o.op with
 | .store t a x=>match sizeT E t with
   |some m=>g1 E d n a o (g1 E d n x o (.st m (cG E fid d T a) (cG E fid d T x) none))
   |none=> .slow o
 | .call c=>cCall E fid d n T c none o
 |_=> .slow o
def cI (o:Oper):FI d:=match o.dst with
 | some i=>match Nat.blt i n with
   | true=>match E.loc fid i with
     |false=>cI1 E fid d n T i o
     |true=>cI2 E fid d n T i o
   |false=> .slow o
 |none=>cI3 E fid d n T o
variable {E fid d n T} {cf:CallF}
theorem g1_ok (hT:TabsOK d n T) {x:Operand} {o:Oper} {r:FI d} (h:opOK E n x=true→ExOK E cf fid d n r o):ExOK E cf fid d n (g1 E d n x o r) o:=by
 unfold g1;split
 · rename_i hx;exact h hx
 · exact ex_slow hT
theorem cBin_ok {R:Type} (op:BinOp) (t:Nat):BOK (R:=R) (cBin E op t) (binP E op t):=by
 unfold cBin;split
 · split
   · split
     · exact addI_ok E t
     · exact fBin_ok E _ t
   · exact cmpI_ok E _ _ t
   · exact cmpI_ok E _ _ t
   · exact cmpI_ok E _ _ t
   · exact cmpI_ok E _ _ t
   · exact cmpI_ok E _ _ t
   · exact cmpI_ok E _ _ t
   · exact fBin_ok E _ t
 · split
   · exact eqS_ok E _ t
   · exact eqS_ok E _ t
   · exact fBin_ok E _ t
 · exact fBin_ok E _ t
theorem cCall_ok (hT:TabsOK d n T) {o:Oper} {c:Call} {so:Option (Set d)} (hop:o.op= .call c)
  (hs:(∃i,o.dst=some i∧i<n∧E.loc fid i=false∧so=some (T.s i))∨(o.dst=none∧so=none)):ExOK E cf fid d n (cCall E fid d n T c so o) o:=by
 unfold cCall;split
 · rename_i f hc;split
   · rename_i ha;split
     · rename_i g;exact ex_call hT hop hc ha hs
     · exact g1_ok hT fun hx=>ex_callv hT hop hc hx ha hs
   · exact ex_slow hT
 · exact ex_slow hT
theorem cI1_ok (hT:TabsOK d n T) {o:Oper} {i:Nat} (hd:o.dst=some i) (hi:i<n) (hl:E.loc fid i=false):ExOK E cf fid d n (cI1 E fid d n T i o) o:=by
 have hlo:locO E fid (some i)=false:=hl;unfold cI1;split
 · rename_i x hop;exact g1_ok hT fun hx=>ex_mv hT hd hi hl hx fun tm H=>by unfold evalOp;simp only [hop]
 · rename_i x hop;exact g1_ok hT fun hx=>ex_mv hT hd hi hl hx fun tm H=>by unfold evalOp;simp only [hop]
 · rename_i c a b hop;exact g1_ok hT fun hc=>g1_ok hT fun ha=>g1_ok hT fun hb=>ex_pick hT hd hi hl hc ha hb fun tm H=>by unfold evalOp;simp only [hop]
 · rename_i x hop;exact g1_ok hT fun hx=>ex_un hT (spec:=fun _=>nilS) hd hi hl hx (fun tm H=>by unfold evalOp;simp only [hop];exact opNilCheck_eq _ _ _) fun _=>fNil_ok
 · rename_i op t x hop;refine g1_ok hT fun hx=> ?_;split
   · exact ex_un hT (spec:=fun _=>unP .not) hd hi hl hx (fun tm H=>by unfold evalOp;simp only [hop]) fun _=>fNot_ok
   · exact ex_un hT (spec:=fun _=>unP op) hd hi hl hx (fun tm H=>by unfold evalOp;simp only [hop]) fun _=>fUn_ok op
 · rename_i op t x y ty hop;exact g1_ok hT fun hx=>g1_ok hT fun hy=>ex_bi hT hd hi hl hx hy (fun tm H=>by unfold evalOp;simp only [hop]) (cBin_ok op t)
 · rename_i t a hop;split
   · rename_i m dd hm hu;exact g1_ok hT fun hx=>ex_ld hT hd hi hl hx (fun tm H=>by unfold evalOp;simp only [hop]) hm hu
   · exact ex_slow hT
 · rename_i s x f hop;split
   · rename_i fs hu;split
     · rename_i fd hf;split
       · rename_i m hm;exact g1_ok hT fun hx=>ex_un hT (spec:=fun _ x=>fieldAddrP E s x f) hd hi hl hx (fun tm H=>by unfold evalOp;simp only [hop]) fun _=>fAddr_ok E hu hf hm
       · exact ex_slow hT
     · exact ex_slow hT
   · exact ex_slow hT
 · rename_i t x j hop;split
   · rename_i el hu;split
     · rename_i m hm;exact g1_ok hT fun hx=>g1_ok hT fun hy=>ex_bi hT hd hi hl hx hy (fun tm H=>by unfold evalOp;simp only [hop]) (fIxL_ok E hu hm)
     · exact ex_slow hT
   · rename_i len el hu;split
     · rename_i m hm;exact g1_ok hT fun hx=>g1_ok hT fun hy=>ex_bi hT hd hi hl hx hy (fun tm H=>by unfold evalOp;simp only [hop]) (fIxA_ok E hu hm)
     · exact ex_slow hT
   · exact ex_slow hT
 · rename_i t x j hop;split
   · rename_i hu;exact g1_ok hT fun hx=>g1_ok hT fun hy=>ex_bi hT hd hi hl hx hy (fun tm H=>by unfold evalOp;simp only [hop]) (fIdxS_ok E hu)
   · exact ex_slow hT
 · rename_i s t x hop;split
   · rename_i ks k hs ht;exact g1_ok hT fun hx=>ex_un hT (spec:=fun H x=>convertP E s t x H) hd hi hl hx (fun tm H=>by unfold evalOp;simp only [hop]) fun H=>fConv_ok E hs ht H
   · exact ex_slow hT
 · rename_i x j hop;exact g1_ok hT fun hx=>ex_un hT (spec:=fun _=>extS j) hd hi hl hx (fun tm H=>by unfold evalOp;simp only [hop];exact opExtract_eq _ _ _ _) fun _=>fExt_ok j
 · rename_i el hop;split
   · rename_i z hz;split
     · rename_i hk;exact ex_newB hT hd hi hl hk fun tm H=>by unfold evalOp;simp only [hop,hd,hlo,hz]
     · exact ex_slow hT
   · exact ex_slow hT
 · rename_i t x hop;exact g1_ok hT fun hx=>ex_boxB hT hd hi hl hx fun tm H=>by unfold evalOp;simp only [hop,hd,hlo]
 · rename_i c hop;split
   · rename_i b hc;split
     · rename_i t x hts has;unfold cLen;have he: ∀tm H,evalOp E cf fid o tm H=okV (lenP E t (opd E tm x) H) tm H:=fun tm H=>by unfold evalOp;simp only [hop,opCall,hc,opBuiltin,hts,has,List.map_cons,List.map_nil,builtinP]
       split
       · rename_i hu;exact g1_ok hT fun hx=>ex_un hT (spec:=fun H x=>lenP E t x H) hd hi hl hx he fun H=>fLenS_ok E hu H
       · rename_i el hu;exact g1_ok hT fun hx=>ex_un hT (spec:=fun H x=>lenP E t x H) hd hi hl hx he fun H=>fLenL_ok E hu H
       · exact ex_slow hT
     · exact ex_slow hT
   · exact cCall_ok hT hop (.inl ⟨i,hd,hi,hl,rfl⟩)
 · exact ex_slow hT
theorem cI2_ok (hT:TabsOK d n T) {o:Oper} {i:Nat} (hd:o.dst=some i) (hi:i<n) (hl:E.loc fid i=true):ExOK E cf fid d n (cI2 E fid d n T i o) o:=by
 have hlo:locO E fid (some i)=true:=hl;unfold cI2;split
 · rename_i el hop;split
   · rename_i z hz;split
     · rename_i hk;exact ex_newL (el:=el) hT hd hi hl hk fun tm H=>by unfold evalOp;simp only [hop,hd,hlo,hz]
     · exact ex_slow hT
   · exact ex_slow hT
 · rename_i t x hop;exact g1_ok hT fun hx=>ex_boxL (el:=t) hT hd hi hl hx fun tm H=>by unfold evalOp;simp only [hop,hd,hlo]
 · exact ex_slow hT
theorem cI3_ok (hT:TabsOK d n T) {o:Oper} (hd:o.dst=none):ExOK E cf fid d n (cI3 E fid d n T o) o:=by
 unfold cI3;split
 · rename_i t a x hop;split
   · rename_i m hm;exact g1_ok hT fun ha=>g1_ok hT fun hx=>ex_st hT hd ha hx (fun tm H=>by unfold evalOp;simp only [hop]) hm fun i st cs hi F h hF=>hF.loc hi h
   · exact ex_slow hT
 · rename_i c hop;exact cCall_ok hT hop (.inr ⟨hd,rfl⟩)
 · exact ex_slow hT
theorem cI_ok (hT:TabsOK d n T) (o:Oper):ExOK E cf fid d n (cI E fid d n T o) o:=by
 unfold cI;split
 · rename_i i hd;split
   · rename_i hb;split
     · rename_i hl;exact cI1_ok hT hd (Nat.le_of_ble_eq_true hb) hl
     · rename_i hl;exact cI2_ok hT hd (Nat.le_of_ble_eq_true hb) hl
   · exact ex_slow hT
 · rename_i hd;exact cI3_ok hT hd
end
section
variable {E:Env} {cf:CallF} {fid d n:Nat} {T:Tabs d}
theorem ex_gen (hT:TabsOK d n T) {o:Oper} {xs:List Operand} {f:List Val→Hp→ORes} {so:Option (Set d)} (hx:xs.all (opOK E n)=true)
  (he: ∀tm H,evalOp E cf fid o tm H=reTm tm (f (xs.map (opd E tm)) H))
  (hs:(∃i,o.dst=some i∧i<n∧E.loc fid i=false∧so=some (T.s i))∨(o.dst=none∧so=none)):
  ExOK E cf fid d n (.gen (xs.map (cG E fid d T)) f so) o:=by
 intro F H k kp hF;show okF d (fL ((xs.map (cG E fid d T)).map fun g=>g F) fun args=>f args H) F so k kp=_∨(∃F' H',_∧_∧okF d (fL ((xs.map (cG E fid d T)).map fun g=>g F) fun args=>f args H) F so k kp=_)∨
  ∃v H',_∧okF d (fL ((xs.map (cG E fid d T)).map fun g=>g F) fun args=>f args H) F so k kp=_
 rw [fL_eq,args_ok hT hF _ hx];exact okF_ok hT hF hs (he _ _)
def placesOf (place:Nat→Option (Nat×Nat)):List Nat→Option (List (Nat×Nat))
 | []=>some []
 | i::l=>match place i,placesOf place l with
   |some p,some ps=>some (p::ps)
   |_,_=>none
theorem fillQ_eq {place:Nat→Option (Nat×Nat)}: ∀(ix:List Nat) (vs cells:List Val) (ps:List (Nat×Nat)),ix.length=vs.length→placesOf place ix=some ps→fillQ cells ps vs=fillP place cells (ix.zip vs):=by
 intro ix
 induction ix with
 | nil=>
   intro vs cells ps hl h;simp only [placesOf,Option.some.injEq] at h;subst h
   cases vs with
   |nil=>rfl
   |cons v vs=>cases hl
 | cons i ix ih=>
   intro vs cells ps hl h
   cases vs with
   |nil=>cases hl
   | cons v vs=>
     simp only [placesOf] at h;split at h
     case h_2=>cases h
     rename_i p ps' hp hps;simp only [Option.some.injEq] at h;subst h;obtain ⟨off,size⟩:=p;simp only [fillQ,List.zip_cons_cons,fillP,hp];by_cases hc:v.cells.length=size∧v.cells.all okCell=true
     · rw [if_pos hc];have:(Nat.beq v.cells.length size&&v.cells.all okCell)=true:=by rw [Bool.and_eq_true,hc.2];exact ⟨by rw [hc.1];exact Nat.beq_refl _,rfl⟩
       rw [this];simp only
       cases upd cells off v.cells with
       |none=>rfl
       |some c=>simp only [fL_eq];exact ih vs c ps' (by simpa using hl) hps
     · rw [if_neg hc];have:(Nat.beq v.cells.length size&&v.cells.all okCell)=false:=by
        cases hb:(Nat.beq v.cells.length size&&v.cells.all okCell) with
        |false=>rfl
        | true=>
          rw [Bool.and_eq_true] at hb;exact absurd ⟨Nat.eq_of_beq_eq_true hb.1,hb.2⟩ hc
       rw [this]
variable (E)
def isIntD:TypeDesc→Bool
 | .int _=>true
 |_=>false
def gApend (ts:List Nat):Option (List Val→Hp→ORes):=match ts with
 | [t1,t2]=>match und E t1,und E t2 with
   | some (.slice el),some d2=>match isIntD d2,E.T el with
     |false,some i=>some (gApp el i.size i.bytes)
     |_,_=>none
   |_,_=>none
 |_=>none
def gCall (b:Builtin) (ts:List Nat):List Val→Hp→ORes:=match b with
 | .append=>match gApend E ts with
   |some f=>f
   |none=>gBi E .append ts
 |b=>gBi E b ts
def gBuildOf (t:Nat) (ix:List Nat):Option (List Val→Hp→ORes):=match und E t,zeroT E t with
 | some (.struct fs),some z=>match fs.toList.all (fun f=>(sizeT E f.type).isSome),placesOf (fun i=>match fs[i]? with
    | some f=>match sizeT E f.type with
      |some n=>some (f.offset,n)
      |none=>none
    |none=>none) ix with
   |true,some ps=>some (gBuild z.cells ps)
   |_,_=>none
 |_,_=>none
def gBuildSOf (t len:Nat) (ix:List Nat):Option (List Val→Hp→ORes):=match und E t with
 | some (.slice el)=>match sizeT E el,zeroT E el with
   | some k,some z=>match decide (0<k∧z.cells.length=k∧len*k≤16777216),placesOf (fun i=>some (i*k,k)) ix with
     |true,some ps=>some (gBuildS (List.replicate len z.cells).flatten k len ps)
     |_,_=>none
   |_,_=>none
 |_=>none
def gSliceOf (t:Nat) (l h m:Bool):Option (List Val→Hp→ORes):=match und E t with
 | some .string=>match m with
   |false=>some (gSlS l h)
   |true=>none
 | some (.slice el)=>match sizeT E el with
   |some sz=>some (gSlL sz l h m)
   |none=>none
 |_=>none
def cGenOf (o:Oper):Option (List Operand×(List Val→Hp→ORes)):=match o.op with
 | .build t ps=>match gBuildOf E t (ps.toList.map (·.1)) with
   |some f=>some (ps.toList.map (·.2),f)
   |none=>none
 | .buildSlice t len ps=>match gBuildSOf E t len (ps.toList.map (·.1)) with
   |some f=>some (ps.toList.map (·.2),f)
   |none=>none
 | .call c=>match c.callee with
   | .builtin b=>some (c.args.toList,gCall E b c.argTypes.toList)
   |_=>none
 | .slice t x l h m=>match gSliceOf E t l.isSome h.isSome m.isSome with
   |some f=>some (x::(l.toList++(h.toList++m.toList)),f)
   |none=>none
 | .field t x f=>some ([x],gField E t f)
 | .convert s t x=>some ([x],gConv E s t)
 | .lookup t m k ok=>some ([m,k],gLook E t ok)
 | .mapUpdate t m k v=>some ([m,k,v],gUpd E t)
 | .insert t m k v=>some ([m,k,v],gUpd E t)
 | .makeSlice t l c=>some ([l,c],gMakeS E t)
 | .makeInterface t x=>some ([x],gIface E t)
 | .typeAssert x xt a ok=>some ([x],gAssert E xt a ok)
 | .makeFunc f a c=>some (a.toList++c.toList,gFn E f a.size)
 | .makeMap _ r=>match r with
   |none=>some ([],gMap)
   |some _=>none
 |_=>none
variable {E}
theorem re0 (tm:List Val) (r:Option Val) (H:Hp):okV r tm H=reTm tm (okV r [] H):=okV_re r
theorem gApend_ok {ts:List Nat} {f:List Val→Hp→ORes} (h:gApend E ts=some f) (args:List Val) (tm:List Val) (H:Hp):opBuiltin E .append ts args tm H=reTm tm (f args H):=by
 unfold gApend at h;split at h
 case h_2=>cases h
 rename_i t1 t2;split at h
 case h_2=>cases h
 rename_i el d2 h1 h2;split at h
 case h_2=>cases h
 rename_i i hi hT;simp only [Option.some.injEq] at h;subst h;have hne: ∀x,newElems E el i.size d2 x H=elemsOf i.size H x:=by intro x;unfold newElems;cases d2<;>first|rfl|cases hi
 match args with
 | []=>rfl
 | [a]=>rfl
 |a::b::c::l=>rfl
 | [s,x]=>
   show okVH (appendP E t1 t2 s x H) tm=reTm tm (okVH (appR el i.size i.bytes (elemsOf i.size H x) s H) []);have:appendP E t1 t2 s x H=appR el i.size i.bytes (elemsOf i.size H x) s H:=by unfold appendP;simp only [h1,h2,hT,hne];rfl
   rw [this];exact okVH_re _
theorem gBuildOf_ok {t:Nat} {ps:Array (Nat×Operand)} {f:List Val→Hp→ORes} (h:gBuildOf E t (ps.toList.map (·.1))=some f) (tm:List Val) (H:Hp):
  okV (buildP E t (ps.toList.map fun p=>(p.1,opd E tm p.2))) tm H=reTm tm (f ((ps.toList.map (·.2)).map (opd E tm)) H):=by
 unfold gBuildOf at h;split at h
 case h_2=>cases h
 rename_i fs z hu hz;split at h
 case h_2=>cases h
 rename_i pl hall hpl;simp only [Option.some.injEq] at h;subst h;have hzip:ps.toList.map (fun p=>(p.1,opd E tm p.2))=(ps.toList.map (·.1)).zip ((ps.toList.map (·.2)).map (opd E tm)):=by
  induction ps.toList with
  |nil=>rfl
  |cons p l ih=>simp [ih]
 have hf:=fillQ_eq (ps.toList.map (·.1)) ((ps.toList.map (·.2)).map (opd E tm)) z.cells pl (by simp) hpl;unfold buildP gBuild;simp only [hu,hz];rw [if_pos hall,hzip]
 erw [←hf]
 cases fillQ z.cells pl ((ps.toList.map (·.2)).map (opd E tm)) with
 |none=>rfl
 |some cs=>simp only [okV,fV_eq];rfl
theorem gBuildSOf_ok {t len:Nat} {ps:Array (Nat×Operand)} {f:List Val→Hp→ORes} (h:gBuildSOf E t len (ps.toList.map (·.1))=some f) (tm:List Val) (H:Hp):
  okVH (buildSliceP E t len (ps.toList.map fun p=>(p.1,opd E tm p.2)) H) tm=reTm tm (f ((ps.toList.map (·.2)).map (opd E tm)) H):=by
 unfold gBuildSOf at h;split at h
 case h_2=>cases h
 rename_i el hu;split at h
 case h_2=>cases h
 rename_i k z hk hz;split at h
 case h_2=>cases h
 rename_i pl hall hpl;simp only [Option.some.injEq] at h;subst h;have hall:=of_decide_eq_true hall;have hzip:ps.toList.map (fun p=>(p.1,opd E tm p.2))=(ps.toList.map (·.1)).zip ((ps.toList.map (·.2)).map (opd E tm)):=by
  induction ps.toList with
  |nil=>rfl
  |cons p l ih=>simp [ih]
 have hf:=fillQ_eq (ps.toList.map (·.1)) ((ps.toList.map (·.2)).map (opd E tm)) (List.replicate len z.cells).flatten pl (by simp) hpl;unfold buildSliceP gBuildS;simp only [hu,hk,hz];rw [if_pos hall,hzip,←hf]
 cases fillQ (List.replicate len z.cells).flatten pl ((ps.toList.map (·.2)).map (opd E tm)) with
 |none=>rfl
 | some cs=>
   simp only
   cases mapH (pub depthP) cs H with
   |none=>rfl
   |some r=>simp only [fLL_eq];rfl
theorem gSliceOf_ok {t:Nat} {l h m:Option Operand} {x:Operand} {f:List Val→Hp→ORes} (hf:gSliceOf E t l.isSome h.isSome m.isSome=some f) (tm:List Val) (H:Hp):
  opSlice E t (und E t) (opd E tm x) (l.map (opd E tm)) (h.map (opd E tm)) (m.map (opd E tm)) tm H=reTm tm (f ((x::(l.toList++(h.toList++m.toList))).map (opd E tm)) H):=by
 unfold gSliceOf at hf;split at hf
 · rename_i hu;split at hf
   case h_2=>cases hf
   rename_i hm;simp only [Option.some.injEq] at hf;subst hf;have hm:m=none:=by cases m<;>simp_all
   subst hm;rw [hu];unfold opSlice gSlS;have hmore: ∀v a b,sliceMore E t v a b none H=none:=by intro v a b;unfold sliceMore;simp only [hu]
   have key: ∀lo hi,okV (orV (sliceP E t (opd E tm x) lo hi none) (sliceMore E t (opd E tm x) lo hi none H)) tm H=reTm tm (match opd E tm x with
     | .str len num=>okV (sliceStr len num lo hi none) [] H
     |_=> .fail):=by
    intro lo hi;rw [hmore];unfold sliceP;simp only [hu]
    cases opd E tm x with
    |str len num=>simp only;generalize sliceStr len num lo hi none=r;cases r<;>simp [orV,okV,reTm]
    |_=>rfl
   cases l<;>cases h<;>exact key _ _
 · rename_i el hu;split at hf
   case h_2=>cases hf
   rename_i sz hsz;simp only [Option.some.injEq] at hf;subst hf;rw [hu];unfold opSlice gSlL;have key: ∀lo hi mx,okV (orV (sliceP E t (opd E tm x) lo hi mx) (sliceMore E t (opd E tm x) lo hi mx H)) tm H=reTm tm (okV (orV (slR sz (opd E tm x) lo hi mx) (slM sz (opd E tm x) lo hi mx H)) [] H):=by
    intro lo hi mx;have e1:sliceP E t (opd E tm x) lo hi mx=slR sz (opd E tm x) lo hi mx:=by unfold sliceP slR;simp only [hu,hsz];cases opd E tm x<;>rfl
    have e2:sliceMore E t (opd E tm x) lo hi mx H=slM sz (opd E tm x) lo hi mx H:=by
     unfold sliceMore slM;simp only [hu,hsz]
     cases opd E tm x with
     |ref id gen off k len c=>cases c<;>cases mx<;>rfl
     |_=>cases mx<;>rfl
    rw [e1,e2];exact re0 _ _ _
   cases l<;>cases h<;>cases m<;>exact key _ _ _
 · cases hf
theorem cGenOf_ok {o:Oper} {xs:List Operand} {f:List Val→Hp→ORes} (h:cGenOf E o=some (xs,f)) (tm:List Val) (H:Hp):evalOp E cf fid o tm H=reTm tm (f (xs.map (opd E tm)) H):=by
 unfold cGenOf at h;unfold evalOp;cases hop:o.op<;>simp only [hop] at h⊢ <;>try (cases h;done)
 case build t ps=>
  split at h
  · rename_i g hg;simp only [Option.some.injEq,Prod.mk.injEq] at h;obtain ⟨rfl,rfl⟩:=h;exact gBuildOf_ok hg tm H
  · cases h
 case buildSlice t len ps=>
  split at h
  · rename_i g hg;simp only [Option.some.injEq,Prod.mk.injEq] at h;obtain ⟨rfl,rfl⟩:=h;exact gBuildSOf_ok hg tm H
  · cases h
 case call c=>
  cases hc:c.callee<;>simp only [hc] at h<;>try (cases h;done)
  rename_i b;simp only [Option.some.injEq,Prod.mk.injEq] at h;obtain ⟨rfl,rfl⟩:=h;simp only [opCall,hc];unfold gCall;split
  · cases hg:gApend E c.argTypes.toList with
    |some g=>exact gApend_ok hg _ tm H
    |none=>exact opBuiltin_re _ _ _
  · exact opBuiltin_re _ _ _
 case slice t x l hh m=>
  split at h
  · rename_i g hg;simp only [Option.some.injEq,Prod.mk.injEq] at h;obtain ⟨rfl,rfl⟩:=h;exact gSliceOf_ok hg tm H
  · cases h
 case field t x j=>
  simp only [Option.some.injEq,Prod.mk.injEq] at h;obtain ⟨rfl,rfl⟩:=h;exact re0 _ _ _
 case convert s t x=>
  simp only [Option.some.injEq,Prod.mk.injEq] at h;obtain ⟨rfl,rfl⟩:=h;exact re0 _ _ _
 case lookup t m k ok=>
  simp only [Option.some.injEq,Prod.mk.injEq] at h;obtain ⟨rfl,rfl⟩:=h;exact re0 _ _ _
 case mapUpdate t m k v=>
  simp only [Option.some.injEq,Prod.mk.injEq] at h;obtain ⟨rfl,rfl⟩:=h;exact opMapUpdate_re _ _ _ _
 case insert t m k v=>
  simp only [Option.some.injEq,Prod.mk.injEq] at h;obtain ⟨rfl,rfl⟩:=h;exact opMapUpdate_re _ _ _ _
 case makeSlice t l c=>
  simp only [Option.some.injEq,Prod.mk.injEq] at h;obtain ⟨rfl,rfl⟩:=h;exact opMakeSlice_re _ _ _
 case makeInterface t x=>
  simp only [Option.some.injEq,Prod.mk.injEq] at h;obtain ⟨rfl,rfl⟩:=h;exact opMakeIface_re _ _ _
 case typeAssert x xt a ok=>
  simp only [Option.some.injEq,Prod.mk.injEq] at h;obtain ⟨rfl,rfl⟩:=h;exact re0 _ _ _
 case makeFunc g a c=>
  simp only [Option.some.injEq,Prod.mk.injEq] at h;obtain ⟨rfl,rfl⟩:=h;have e1:((a.toList++c.toList).map (opd E tm)).take a.size=a.toList.map (opd E tm):=by rw [List.map_append,List.take_append_of_le_length (by simp),List.take_of_length_le (by simp)]
  have e2:((a.toList++c.toList).map (opd E tm)).drop a.size=c.toList.map (opd E tm):=by rw [List.map_append,List.drop_append_of_le_length (by simp),List.drop_of_length_le (by simp),List.nil_append]
  simp only [gFn,e1,e2];exact opMakeFn_re _ _ _
 case makeMap t r=>
  cases r with
  |some x=>cases h
  | none=>
    simp only [Option.some.injEq,Prod.mk.injEq] at h;obtain ⟨rfl,rfl⟩:=h;exact opMakeMapO_re _
def cGenI (E:Env) (fid d n:Nat) (T:Tabs d) (so:Option (Set d)) (o:Oper):FI d:=match cGenOf E o with
 | some (xs,f)=>match xs.all (opOK E n) with
   |true=> .gen (xs.map (cG E fid d T)) f so
   |false=> .slow o
 |none=> .slow o
theorem cGenI_ok (hT:TabsOK d n T) {o:Oper} {so:Option (Set d)} (hs:(∃i,o.dst=some i∧i<n∧E.loc fid i=false∧so=some (T.s i))∨(o.dst=none∧so=none)):
  ExOK E cf fid d n (cGenI E fid d n T so o) o:=by
 unfold cGenI;split
 · rename_i xs f h;split
   · rename_i hx;exact ex_gen hT hx (cGenOf_ok h) hs
   · exact ex_slow hT
 · exact ex_slow hT
def isSlow:FI d→Bool
 | .slow _=>true
 |_=>false
def cJ (E:Env) (fid d n:Nat) (T:Tabs d) (o:Oper):FI d:=match isSlow (cI E fid d n T o) with
 |false=>cI E fid d n T o
 | true=>match o.dst with
   |none=>cGenI E fid d n T none o
   | some i=>match Nat.blt i n&& !E.loc fid i with
     |true=>cGenI E fid d n T (some (T.s i)) o
     |false=> .slow o
theorem cJ_ok (hT:TabsOK d n T) (o:Oper):ExOK E cf fid d n (cJ E fid d n T o) o:=by
 unfold cJ;split
 · exact cI_ok hT o
 · split
   · rename_i hd;exact cGenI_ok hT (.inr ⟨hd,rfl⟩)
   · rename_i i hd;split
     · rename_i hb;simp only [Bool.and_eq_true,Bool.not_eq_true'] at hb;exact cGenI_ok hT (.inl ⟨i,hd,Nat.le_of_ble_eq_true hb.1,hb.2,rfl⟩)
     · exact ex_slow hT
end
section
variable (E:Env) (okDraw:DrawT) (fid d n:Nat) (T:Tabs d)
def cSk (o:Oper):Option (Option (Set d)):=match o.dst with
 |none=>some none
 | some i=>match Nat.blt i n&& !E.loc fid i with
   |true=>some (some (T.s i))
   |false=>none
def cGuard (ops:Array Oper) (j:Nat):Option (Get d):=match ops[j]? with
 | some o=>match o.dst with
   | some i=>match Nat.blt i n with
     |true=>some (T.g i)
     |false=>none
   |none=>none
 |none=>none
def isDefer (o:Oper):Bool:=match o.op with
 | .defer _=>true
 |_=>false
def cOps (ops:Array Oper):List Oper→Option (FC d)
 | []=>some .nil
 | o ::os=>match isDefer o with
   |true=>none
   | false=>match cOps ops os with
     |none=>none
     | some nx=>match o.guard with
       |none=>some (.op (cJ E fid d n T o) nx)
       | some (j,w)=>match cGuard d n T ops j,cSk E fid d n T o with
         |some g,some sk=>some (.gop g w sk (cJ E fid d n T o) nx)
         |_,_=>none
def cChk (o:Oper) (a:Ann):Option (FrT d→Bool):=match a with
 | .plain=>match o.op with
   | .slice t x l h m=>match opOK E n x&&((l.toList++(h.toList++m.toList)).all (opOK E n)) with
     |true=>some fun F=>(sliceP E t (cG E fid d T x F) (l.map fun y=>cG E fid d T y F) (h.map fun y=>cG E fid d T y F) (m.map fun y=>cG E fid d T y F)).isSome
     |false=>none
   |_=>some fun _=>true
 | .frz=>match o.op with
   | .call c=>match c.callee with
     | .value f=>match opOK E n f&&c.args.toList.all (opOK E n) with
       |true=>some fun F=>frzFn E (cG E fid d T f F) ((c.args.toList.map (cG E fid d T)).map fun g=>g F)
       |false=>none
     |_=>none
   | .buildSlice _ _ ps=>match (ps.toList.map (·.2)).all (opOK E n) with
     |true=>some fun F=>(((ps.toList.map (·.2)).map (cG E fid d T)).map fun g=>g F).all (frzV depthP)
     |false=>none
   | .makeFunc f a c=>match a.toList.all (opOK E n)&&c.toList.all (opOK E n) with
     |true=>some fun F=>frzV depthP (.fn f ((a.toList.map (cG E fid d T)).map fun g=>g F) ((c.toList.map (cG E fid d T)).map fun g=>g F))
     |false=>none
   |_=>none
 | .loc s=>match o.op with
   | .load _ x=>match opOK E n x with
     |true=>some fun F=>isLp s (cG E fid d T x F)
     |false=>none
   | .store _ x _=>match opOK E n x with
     |true=>some fun F=>isLp s (cG E fid d T x F)
     |false=>none
   |_=>none
 | .heap=>match o.op with
   | .load _ x=>match opOK E n x with
     |true=>some fun F=>notLp (cG E fid d T x F)
     |false=>none
   | .store _ x _=>match opOK E n x with
     |true=>some fun F=>notLp (cG E fid d T x F)
     |false=>none
   |_=>some fun _=>true
 | .rd1 _=>match o.op with
   | .load _ x=>match opOK E n x with
     |true=>some fun F=>notLp (cG E fid d T x F)
     |false=>none
   |_=>none
 | .read _=>none
def cOpsD (ops:Array Oper):List Oper→List Ann→Option (FC d)
 | [],_=>some .nil
 | o ::os,a::as=>match cOpsD ops os as with
   |none=>none
   | some nx=>match cChk E fid d n T o a with
     |none=>none
     | some c=>match o.guard with
       |none=>some (.cop c (cJ E fid d n T o) nx)
       | some (j,w)=>match cGuard d n T ops j,cSk E fid d n T o with
         |some g,some sk=>some (.gcop g w sk c (cJ E fid d n T o) nx)
         |_,_=>none
 |_::_,[]=>none
def cRegD (id:Nat) (ops:Array Oper):Option (FC d):=match okDraw fid id with
 | some di=>match di.rs with
   | []=>cOpsD E fid d n T ops ops.toList di.anns
   |_::_=>none
 |none=>none
def orSlow (r:Option (FC d)) (c:Code):FC d:=match r with
 |some x=>x
 |none=> .slow c
def cCode:Code→FC d
 | .skip=> .nil
 | .region id ops draw=>match draw with
   |false=>orSlow d (cOps E fid d n T ops ops.toList) (.region id ops false)
   |true=>orSlow d (cRegD E okDraw fid d n T id ops) (.region id ops true)
 | .seq a b=> .seq (cCode a) (cCode b)
 | .cond c a b=>match opOK E n c with
   |true=> .cond (cG E fid d T c) (cCode a) (cCode b)
   |false=> .slow (.cond c a b)
 | .block id a=> .block id (cCode a)
 | .loop a=> .loop (cCode a)
 | .exit id=> .exit id
 | .label _=> .nil
 | .ret=> .ret
 |c=> .slow c
variable {E okDraw fid d n T} {cf:CallF} {lf:Nat}
def Good (E:Env) (fid d n:Nat) (r:MRes d) (c:CRes):Prop:=r= .fail∨
 (absM d n r=c∧(∀F H ds,r= .normal F H ds→InvF E fid d n F)∧(∀id F H ds,r= .exit id F H ds→InvF E fid d n F)∧(∀F H ds,r= .ret F H ds→InvF E fid d n F))
theorem Good.normal {F:FrT d} {H:Hp} {ds:List (Nat×List Val)} (hF:InvF E fid d n F):Good E fid d n (.normal F H ds) (.normal (fr d n F) H ds):=by
 refine .inr ⟨rfl,?_,?_,?_⟩
 · intro F' H' ds' e;simp only [MRes.normal.injEq] at e;rw [←e.1];exact hF
 · intro id F' H' ds' e;cases e
 · intro F' H' ds' e;cases e
theorem Good.pan {v:Val} {F:FrT d} {H:Hp} {ds:List (Nat×List Val)}:Good E fid d n (.pan v F H ds) (.pan v (fr d n F) H ds):=by
 refine .inr ⟨rfl,?_,?_,?_⟩
 · intro F' H' ds' e;cases e
 · intro id F' H' ds' e;cases e
 · intro F' H' ds' e;cases e
theorem cGuard_ok (hT:TabsOK d n T) {ops:Array Oper} {o:Oper} {j:Nat} {w:Bool} {g:Get d} (hg:o.guard=some (j,w)) (h:cGuard d n T ops j=some g) (F:FrT d):
  wantedP ops (fr d n F) o=guardV (g F) w:=by
 unfold cGuard at h;split at h
 case h_2=>cases h
 rename_i o' ho;split at h
 case h_2=>cases h
 rename_i i hd;split at h
 case h_2=>cases h
 rename_i hb;have hi:i<n:=Nat.le_of_ble_eq_true hb;simp only [Option.some.injEq] at h;subst h;unfold wantedP;simp only [hg,ho,hd,fr_getT hT.fit F hi,hT.g i hi F]
theorem cSk_ok (hT:TabsOK d n T) {o:Oper} {sk:Option (Set d)} (h:cSk E fid d n T o=some sk) {F:FrT d} (hF:InvF E fid d n F) (H:Hp):
  ∃F',InvF E fid d n F'∧put2 E fid o.dst (.tup []) (fr d n F) H=some (fr d n F',H)∧ ∀k,setO d sk (.tup []) F k=k F':=by
 unfold cSk at h;split at h
 · rename_i hd;simp only [Option.some.injEq] at h;subst h;exact ⟨F,hF,by simp [put2,putR,hd],fun k=>rfl⟩
 · rename_i i hd;split at h
   case h_2=>cases h
   rename_i hb;simp only [Bool.and_eq_true,Bool.not_eq_true'] at hb;have hi:i<n:=Nat.le_of_ble_eq_true hb.1;simp only [Option.some.injEq] at h;subst h;exact ⟨sP d i (.tup []) F,hF.set hT hi fun _=>rfl,put2_set hT hd hi hb.2 F _ H,fun k=>hT.s i hi _ _ _⟩
theorem isDefer_no {o:Oper} (h:isDefer o=false): ∀c,o.op≠ .defer c:=by intro c hc;unfold isDefer at h;rw [hc] at h;cases h
theorem stepE_true {ops:Array Oper} {o:Oper} {tm:List Val} {H:Hp} (h:wantedP ops tm o=some true):stepE E cf fid ops o (tm,H)=stepOk E fid o (evalOp E cf fid o tm H):=by unfold stepE;simp only [h]
theorem cOps_ok (hT:TabsOK d n T) {ops:Array Oper}: ∀(os:List Oper) (fc:FC d),cOps E fid d n T ops os=some fc→ ∀(F:FrT d) (H:Hp) (ds:List (Nat×List Val)),InvF E fid d n F→
  Good E fid d n (runF E cf okDraw lf fid d n fc F H ds) (evalOps E cf fid ops os (fr d n F) H ds):=by
 intro os
 induction os with
 | nil=>
   intro fc h F H ds hF;simp only [cOps,Option.some.injEq] at h;subst h;exact Good.normal hF
 | cons o os ih=>
   intro fc h F H ds hF;simp only [cOps] at h
   cases hdf:isDefer o with
   |true=>rw [hdf] at h;cases h
   |false=>
   rw [hdf] at h;have hnd:=isDefer_no hdf
   cases hnx:cOps E fid d n T ops os with
   |none=>rw [hnx] at h;cases h
   | some nx=>
     rw [hnx] at h;simp only at h;have go:wantedP ops (fr d n F) o=some true→
       Good E fid d n (exec E cf fid d n (cJ E fid d n T o) F H (fun F H=>runF E cf okDraw lf fid d n nx F H ds) (fun v H'=> .pan v F H' ds)) (evalOps E cf fid ops (o::os) (fr d n F) H ds):=by
      intro hw;rcases cJ_ok hT o (cf:=cf) F H (fun F H=>runF E cf okDraw lf fid d n nx F H ds) (fun v H'=> .pan v F H' ds) hF with h|⟨F',H',h1,h2,h3⟩|⟨v,H',h1,h2⟩
      · exact .inl h
      · rw [h3,stepE_evalOps (E:=E) (cf:=cf) (fid:=fid) (ops:=ops) (rest:=os) (ds:=ds) hnd ((stepE_true hw).trans h2)];exact ih nx hnx F' H' ds h1
      · rw [h2,evalOps_plain hnd hw,h1];exact Good.pan
     cases hg:o.guard with
     | none=>
       rw [hg] at h;simp only [Option.some.injEq] at h;subst h;have hw:wantedP ops (fr d n F) o=some true:=by unfold wantedP;simp only [hg]
       exact go hw
     | some jw=>
       obtain ⟨j,w⟩:=jw;rw [hg] at h;simp only at h;split at h
       case h_2=>cases h
       rename_i g sk hgd hsk;simp only [Option.some.injEq] at h;subst h;have hw:=cGuard_ok hT hg hgd F
       have hr:runF E cf okDraw lf fid d n (.gop g w sk (cJ E fid d n T o) nx) F H ds=(match guardV (g F) w with
        |some true=>exec E cf fid d n (cJ E fid d n T o) F H (fun F H=>runF E cf okDraw lf fid d n nx F H ds) (fun v H'=> .pan v F H' ds)
        |some false=>setO d sk (.tup []) F fun F=>runF E cf okDraw lf fid d n nx F H ds
        |none=> .fail):=rfl
       rw [hr]
       cases hgv:guardV (g F) w with
       |none=>exact .inl rfl
       | some b=>
         rw [hgv] at hw
         cases b with
         |true=>exact go hw
         | false=>
           simp only;obtain ⟨F',h1,h2,h3⟩:=cSk_ok hT hsk hF H;rw [h3];have:stepE E cf fid ops o (fr d n F,H)=some (fr d n F',H):=by unfold stepE;simp only [hw];exact h2
           rw [stepE_evalOps hnd this];exact ih nx hnx F' H ds h1
theorem cChk_ok (hT:TabsOK d n T) {o:Oper} {a:Ann} {c:FrT d→Bool} (h:cChk E fid d n T o a=some c) {F:FrT d} (hF:InvF E fid d n F):chkA E o a (fr d n F)=c F:=by
 have one: ∀ {x:Operand} {f:Val→Bool},(match opOK E n x with|true=>some fun F=>f (cG E fid d T x F)|false=>none)=some c→f (opd E (fr d n F) x)=c F:=by
  intro x f h;split at h
  · rename_i hx;simp only [Option.some.injEq] at h;subst h;show _=f (cG E fid d T x F);rw [cG_ok hT hx hF]
  · cases h
 cases a with
 |read ks=>cases h
 | plain=>
   simp only [cChk] at h;simp only [chkA];cases hop:o.op<;>simp only [hop] at h⊢ <;>try (simp only [Option.some.injEq] at h;subst h;rfl)
   rename_i t x l hh m;split at h
   · rename_i hx;simp only [Bool.and_eq_true,List.all_eq_true] at hx;simp only [Option.some.injEq] at h;subst h;have om: ∀y:Option Operand,(∀z,y=some z→opOK E n z=true)→y.map (opd E (fr d n F))=y.map fun y=>cG E fid d T y F:=by
      intro y hy
      cases y with
      |none=>rfl
      |some z=>simp [cG_ok hT (hy z rfl) hF]
     show _=(sliceP E t (cG E fid d T x F) (l.map fun y=>cG E fid d T y F) (hh.map fun y=>cG E fid d T y F) (m.map fun y=>cG E fid d T y F)).isSome;rw [cG_ok hT hx.1 hF,om l fun z hz=>hx.2 z (by simp [hz]),om hh fun z hz=>hx.2 z (by simp [hz]),om m fun z hz=>hx.2 z (by simp [hz])]
   · cases h
 | frz=>
   simp only [cChk] at h;simp only [chkA];cases hop:o.op<;>simp only [hop] at h⊢ <;>try (cases h;done)
   · rename_i t m ps;split at h
     · rename_i hx;simp only [Option.some.injEq] at h;subst h;show _=(((ps.toList.map (·.2)).map (cG E fid d T)).map fun g=>g F).all (frzV depthP);rw [args_ok hT hF _ hx,List.map_map];rfl
     · cases h
   · rename_i f a c';split at h
     · rename_i hx;simp only [Bool.and_eq_true] at hx;simp only [Option.some.injEq] at h;subst h;show _=frzV depthP (.fn f ((a.toList.map (cG E fid d T)).map fun g=>g F) ((c'.toList.map (cG E fid d T)).map fun g=>g F));rw [args_ok hT hF _ hx.1,args_ok hT hF _ hx.2]
     · cases h
   · rename_i cc;cases hc:cc.callee<;>simp only [hc] at h⊢ <;>try (cases h;done)
     rename_i f;split at h
     · rename_i hx;simp only [Bool.and_eq_true] at hx;simp only [Option.some.injEq] at h;subst h;show _=frzFn E (cG E fid d T f F) ((cc.args.toList.map (cG E fid d T)).map fun g=>g F);rw [cG_ok hT hx.1 hF,args_ok hT hF _ hx.2]
     · cases h
 | loc s=>
   simp only [cChk] at h;simp only [chkA];cases hop:o.op<;>simp only [hop] at h⊢ <;>try (cases h;done)
   · exact one h
   · exact one h
 | rd1 k=>
   simp only [cChk] at h;simp only [chkA];cases hop:o.op<;>simp only [hop] at h⊢ <;>try (cases h;done)
   exact one h
 | heap=>
   simp only [cChk] at h;simp only [chkA];cases hop:o.op<;>simp only [hop] at h⊢ <;>try (simp only [Option.some.injEq] at h;subst h;rfl)
   · exact one h
   · exact one h
def foldA (E:Env) (cf:CallF) (fid:Nat) (ops:Array Oper):List Oper→List Ann→RS→Option RS
 | o::os,a::as,s=>match stepA E cf fid ops o a s with
   |some s'=>foldA E cf fid ops os as s'
   |none=>none
 | [],_,s=>some s
 |_,_,_=>none
def noRead:Ann→Bool
 | .read _=>false
 |_=>true
theorem runA_fold {ops:Array Oper}: ∀(os:List Oper) (as:List Ann) (s s':RS),foldA E cf fid ops os as s=some s'→ ∃tr,runA E cf fid ops os as s=some tr∧lastS tr=some s':=by
 intro os
 induction os with
 | nil=>
   intro as s s' h;cases as<;>(simp only [foldA,Option.some.injEq] at h;subst h;exact ⟨[s],rfl,rfl⟩)
 | cons o os ih=>
   intro as s s' h
   cases as with
   |nil=>cases h
   | cons a as=>
     simp only [foldA] at h;split at h
     · rename_i s1 hs;obtain ⟨tr,h1,h2⟩:=ih as s1 s' h;refine ⟨s::tr,by simp only [runA,hs,h1],?_⟩
       cases tr with
       |nil=>cases h2
       |cons x l=>exact h2
     · cases h
theorem winAll_noRead {ops:Array Oper} {tr:List RS}: ∀(os:List Oper) (as:List Ann) (ss:List RS),(as.take os.length).all noRead=true→winAll E ops tr os as ss=true:=by
 intro os
 induction os with
 |nil=>intro as ss _;cases as<;>rfl
 | cons o os ih=>
   intro as ss h
   cases as with
   |nil=>rfl
   | cons a as=>
     cases ss with
     |nil=>rfl
     | cons s ss=>
       simp only [List.length_cons,List.take_succ_cons,List.all_cons,Bool.and_eq_true] at h;simp only [winAll,ih as ss h.2,Bool.and_true];cases a<;>first|rfl|(cases h.1)
theorem cOpsD_noRead {ops:Array Oper}: ∀(os:List Oper) (as:List Ann) (fc:FC d),cOpsD E fid d n T ops os as=some fc→(as.take os.length).all noRead=true:=by
 intro os
 induction os with
 |nil=>intro as fc _;simp
 | cons o os ih=>
   intro as fc h
   cases as with
   |nil=>cases h
   | cons a as=>
     simp only [cOpsD] at h;split at h
     · cases h
     · rename_i nx hnx;split at h
       · cases h
       · rename_i c hc;have h1:=ih as nx hnx;simp only [List.length_cons,List.take_succ_cons,List.all_cons,Bool.and_eq_true];refine ⟨?_,h1⟩;cases a<;>first|rfl|(cases hc)
theorem cOpsD_ok (hT:TabsOK d n T) {ops:Array Oper}: ∀(os:List Oper) (as:List Ann) (fc:FC d),cOpsD E fid d n T ops os as=some fc→ ∀(F:FrT d) (H:Hp) (ds:List (Nat×List Val)),InvF E fid d n F→
  runF E cf okDraw lf fid d n fc F H ds= .fail∨ ∃F' H',InvF E fid d n F'∧foldA E cf fid ops os as (fr d n F,H)=some (fr d n F',H')∧runF E cf okDraw lf fid d n fc F H ds= .normal F' H' ds:=by
 intro os
 induction os with
 | nil=>
   intro as fc h F H ds hF;have:fc= .nil:=by cases as<;>(simp only [cOpsD,Option.some.injEq] at h;exact h.symm)
   subst this;exact .inr ⟨F,H,hF,by cases as<;>rfl,rfl⟩
 | cons o os ih=>
   intro as fc h F H ds hF
   cases as with
   |nil=>cases h
   | cons a as =>
     simp only [cOpsD] at h;split at h
     · cases h
     · rename_i nx hnx;split at h
       · cases h
       · rename_i c hc;have hck:=cChk_ok hT hc hF;have go:wantedP ops (fr d n F) o=some true→
           (match c F with
            |true=>exec E cf fid d n (cJ E fid d n T o) F H (fun F H=>runF E cf okDraw lf fid d n nx F H ds) (fun _ _=> .fail)
            |false=> .fail)= .fail∨ ∃F' H',InvF E fid d n F'∧foldA E cf fid ops (o::os) (a::as) (fr d n F,H)=some (fr d n F',H')∧
            (match c F with
            |true=>exec E cf fid d n (cJ E fid d n T o) F H (fun F H=>runF E cf okDraw lf fid d n nx F H ds) (fun _ _=> .fail)
            |false=> .fail)= .normal F' H' ds:=by
          intro hw
          cases hcf:c F with
          |false=>exact .inl rfl
          | true=>
            rcases cJ_ok hT o (cf:=cf) F H (fun F H=>runF E cf okDraw lf fid d n nx F H ds) (fun _ _=> .fail) hF with h|⟨F',H',h1,h2,h3⟩|⟨v,H',h1,h2⟩
            · exact .inl h
            · simp only [h3];have hst:stepA E cf fid ops o a (fr d n F,H)=some (fr d n F',H'):=by unfold stepA;simp only [hw,hck,hcf];exact h2
              rcases ih as nx hnx F' H' ds h1 with h|⟨F'',H'',k1,k2,k3⟩
              · exact .inl h
              · exact .inr ⟨F'',H'',k1,by simp only [foldA,hst];exact k2,k3⟩
            · exact .inl h2
         cases hg:o.guard with
         | none=>
           rw [hg] at h;simp only [Option.some.injEq] at h;subst h;have hw:wantedP ops (fr d n F) o=some true:=by unfold wantedP;simp only [hg]
           exact go hw
         | some jw=>
           obtain ⟨j,w⟩:=jw;rw [hg] at h;simp only at h;split at h
           case h_2=>cases h
           rename_i g sk hgd hsk;simp only [Option.some.injEq] at h;subst h;have hw:=cGuard_ok hT hg hgd F
           have hr:runF E cf okDraw lf fid d n (.gcop g w sk c (cJ E fid d n T o) nx) F H ds=(match guardV (g F) w with
            | some true=>(match c F with
              |true=>exec E cf fid d n (cJ E fid d n T o) F H (fun F H=>runF E cf okDraw lf fid d n nx F H ds) (fun _ _=> .fail)
              |false=> .fail)
            |some false=>setO d sk (.tup []) F fun F=>runF E cf okDraw lf fid d n nx F H ds
            |none=> .fail):=rfl
           rw [hr]
           cases hgv:guardV (g F) w with
           |none=>exact .inl rfl
           | some b=>
             rw [hgv] at hw
             cases b with
             |true=>exact go hw
             | false=>
               simp only;obtain ⟨F',h1,h2,h3⟩:=cSk_ok hT hsk hF H;rw [h3];have hst:stepA E cf fid ops o a (fr d n F,H)=some (fr d n F',H):=by unfold stepA;simp only [hw];exact h2
               rcases ih as nx hnx F' H ds h1 with h|⟨F'',H'',k1,k2,k3⟩
               · exact .inl h
               · exact .inr ⟨F'',H'',k1,by simp only [foldA,hst];exact k2,k3⟩
end
section
variable {E:Env} {okDraw:DrawT} {fid d n:Nat} {T:Tabs d} {cf:CallF} {lf:Nat}
theorem chkFr_ok (hn:n≤8^d) {tm:List Val} (h:chkFr E fid n tm=true):fr d n (ofL d tm).1=tm∧InvF E fid d n (ofL d tm).1:=by
 simp only [chkFr,Bool.and_eq_true,List.all_eq_true,List.mem_range,Bool.or_eq_true] at h;have hl:=Nat.eq_of_beq_eq_true h.1;have e:fr d n (ofL d tm).1=tm:=by rw [fr_ofL hn (by omega),hl];simp
 refine ⟨e,fun i hi hloc=> ?_⟩;rw [←fr_getT hn _ hi,e];rcases h.2 i hi with h1|h1
 · rw [hloc] at h1;cases h1
 · unfold isLv;split
   · rename_i hg;rw [hg] at h1;cases h1
   · rfl
theorem Good.exit {id:Nat} {F:FrT d} {H:Hp} {ds:List (Nat×List Val)} (hF:InvF E fid d n F):Good E fid d n (.exit id F H ds) (.exit id (fr d n F) H ds):=by
 refine .inr ⟨rfl,?_,?_,?_⟩
 · intro F' H' ds' e;cases e
 · intro id' F' H' ds' e;cases e;exact hF
 · intro F' H' ds' e;cases e
theorem Good.ret {F:FrT d} {H:Hp} {ds:List (Nat×List Val)} (hF:InvF E fid d n F):Good E fid d n (.ret F H ds) (.ret (fr d n F) H ds):=by
 refine .inr ⟨rfl,?_,?_,?_⟩
 · intro F' H' ds' e;cases e
 · intro id' F' H' ds' e;cases e
 · intro F' H' ds' e;cases e;exact hF
theorem slow_good (hn:n≤8^d) (r:CRes):Good E fid d n (ofC' E fid d n r) r:=by
 cases r with
 |fail=>exact .inl rfl
 | normal tm H ds=>
   simp only [ofC'];split
   · rename_i h;obtain ⟨h1,h2⟩:=chkFr_ok hn h;have:=Good.normal (E:=E) (fid:=fid) (d:=d) (n:=n) (H:=H) (ds:=ds) h2;rw [h1] at this;exact this
   · exact .inl rfl
 | exit id tm H ds=>
   simp only [ofC'];split
   · rename_i h;obtain ⟨h1,h2⟩:=chkFr_ok hn h;have:=Good.exit (E:=E) (fid:=fid) (d:=d) (n:=n) (id:=id) (H:=H) (ds:=ds) h2;rw [h1] at this;exact this
   · exact .inl rfl
 | ret tm H ds=>
   simp only [ofC'];split
   · rename_i h;obtain ⟨h1,h2⟩:=chkFr_ok hn h;have:=Good.ret (E:=E) (fid:=fid) (d:=d) (n:=n) (H:=H) (ds:=ds) h2;rw [h1] at this;exact this
   · exact .inl rfl
 | pan v tm H ds=>
   simp only [ofC'];split
   · rename_i h;obtain ⟨h1,h2⟩:=chkFr_ok hn h;have:=Good.pan (E:=E) (fid:=fid) (d:=d) (n:=n) (v:=v) (F:=(ofL d tm).1) (H:=H) (ds:=ds);rw [h1] at this;exact this
   · exact .inl rfl
theorem cCode_ok (hT:TabsOK d n T): ∀(c:Code) (F:FrT d) (H:Hp) (ds:List (Nat×List Val)),InvF E fid d n F→
  Good E fid d n (runF E cf okDraw lf fid d n (cCode E okDraw fid d n T c) F H ds) (evalCode E cf okDraw lf fid c (fr d n F) H ds):=by
 have slow: ∀(c:Code) (F:FrT d) (H:Hp) (ds:List (Nat×List Val)),Good E fid d n (runF E cf okDraw lf fid d n (.slow c) F H ds) (evalCode E cf okDraw lf fid c (fr d n F) H ds):=
  fun c F H ds=>slow_good hT.fit _
 intro c
 induction c with
 |skip=>intro F H ds hF;exact Good.normal hF
 |label l=>intro F H ds hF;exact Good.normal hF
 | exit id=>
   intro F H ds hF;exact Good.exit hF
 | ret=>
   intro F H ds hF;exact Good.ret hF
 |goto l=>intro F H ds hF;exact slow _ F H ds
 |refuse s=>intro F H ds hF;exact slow _ F H ds
 |scope c _=>intro F H ds hF;exact slow _ F H ds
 |rangeFunc f p x y _ _=>intro F H ds hF;exact slow _ F H ds
 | region id ops draw=>
   intro F H ds hF
   cases draw with
   | false=>
     simp only [cCode]
     cases hc:cOps E fid d n T ops ops.toList with
     |none=>exact slow _ F H ds
     |some fc=>exact cOps_ok hT ops.toList fc hc F H ds hF
   | true=>
     simp only [cCode]
     cases hc:cRegD E okDraw fid d n T id ops with
     |none=>exact slow _ F H ds
     | some fc=>
       simp only [orSlow];unfold cRegD at hc
       cases hd:okDraw fid id with
       |none=>rw [hd] at hc;cases hc
       | some di=>
         rw [hd] at hc;simp only at hc
         cases hrs:di.rs with
         |cons r rs=>rw [hrs] at hc;cases hc
         |nil=>
         rw [hrs] at hc;simp only at hc;rcases cOpsD_ok (cf:=cf) (okDraw:=okDraw) (lf:=lf) hT ops.toList di.anns fc hc F H ds hF with h|⟨F',H',h1,h2,h3⟩
         · exact .inl h
         · rw [h3];have hev:evalCode E cf okDraw lf fid (.region id ops true) (fr d n F) H ds= .normal (fr d n F') H' ds:=by simp only [evalCode,goDrawn,hd,hrs];obtain ⟨tr,k1,k2⟩:=runA_fold _ _ _ _ h2;unfold evalDrawn;simp only [k1,winAll_noRead _ _ _ (cOpsD_noRead _ _ _ hc),k2]
           rw [hev];exact Good.normal h1
 | seq x y ihx ihy=>
   intro F H ds hF
   have hr:runF E cf okDraw lf fid d n (cCode E okDraw fid d n T (.seq x y)) F H ds=(match runF E cf okDraw lf fid d n (cCode E okDraw fid d n T x) F H ds with
    | .normal F H ds=>runF E cf okDraw lf fid d n (cCode E okDraw fid d n T y) F H ds
    |r=>r):=rfl
   rw [hr];simp only [evalCode];rcases ihx F H ds hF with h|⟨h1,h2,h3,h4⟩
   · rw [h];exact .inl rfl
   · rw [←h1]
     cases hx:runF E cf okDraw lf fid d n (cCode E okDraw fid d n T x) F H ds with
     |normal F' H' ds'=>exact ihy F' H' ds' (h2 _ _ _ hx)
     |exit id F' H' ds'=>exact Good.exit (h3 _ _ _ _ hx)
     |ret F' H' ds'=>exact Good.ret (h4 _ _ _ hx)
     |pan v F' H' ds'=>exact Good.pan
     |fail=>exact .inl rfl
 | cond c x y ihx ihy=>
   intro F H ds hF;simp only [cCode];split
   · rename_i hc
     have hr:runF E cf okDraw lf fid d n (.cond (cG E fid d T c) (cCode E okDraw fid d n T x) (cCode E okDraw fid d n T y)) F H ds=(match cG E fid d T c F with
      | .bool b=>match b with
        |true=>runF E cf okDraw lf fid d n (cCode E okDraw fid d n T x) F H ds
        |false=>runF E cf okDraw lf fid d n (cCode E okDraw fid d n T y) F H ds
      |_=> .fail):=rfl
     rw [hr,cG_ok hT hc hF];simp only [evalCode];split
     · rename_i b hb;rw [hb]
       cases b with
       |true=>exact ihx F H ds hF
       |false=>exact ihy F H ds hF
     · exact .inl rfl
   · exact slow _ F H ds
 | block id c ih=>
   intro F H ds hF
   have hr:runF E cf okDraw lf fid d n (cCode E okDraw fid d n T (.block id c)) F H ds=(match runF E cf okDraw lf fid d n (cCode E okDraw fid d n T c) F H ds with
    | .exit id' F H ds=>match Nat.beq id' id with
      |true=> .normal F H ds
      |false=> .exit id' F H ds
    |r=>r):=rfl
   rw [hr];simp only [evalCode];rcases ih F H ds hF with h|⟨h1,h2,h3,h4⟩
   · rw [h];exact .inl rfl
   · rw [←h1]
     cases hx:runF E cf okDraw lf fid d n (cCode E okDraw fid d n T c) F H ds with
     |normal F' H' ds'=>exact Good.normal (h2 _ _ _ hx)
     | exit id' F' H' ds'=>
       have hF':=h3 _ _ _ _ hx;simp only [absM];by_cases e:id'=id
       · subst e;simp only [show Nat.beq id' id'=true from Nat.beq_refl _,if_true];exact Good.normal hF'
       · have:Nat.beq id' id=false:=by
          cases hb:Nat.beq id' id with
          |false=>rfl
          |true=>exact absurd (Nat.eq_of_beq_eq_true hb) e
         simp only [this,if_neg e];exact Good.exit hF'
     |ret F' H' ds'=>exact Good.ret (h4 _ _ _ hx)
     |pan v F' H' ds'=>exact Good.pan
     |fail=>exact .inl rfl
 | loop c ih=>
   intro F H ds hF;have hr:runF E cf okDraw lf fid d n (cCode E okDraw fid d n T (.loop c)) F H ds=iterF d (runF E cf okDraw lf fid d n (cCode E okDraw fid d n T c)) lf F H ds:=rfl;rw [hr];simp only [evalCode];have key: ∀(m:Nat) (F:FrT d) (H:Hp) (ds:List (Nat×List Val)),InvF E fid d n F→
     Good E fid d n (iterF d (runF E cf okDraw lf fid d n (cCode E okDraw fid d n T c)) m F H ds) (iter (evalCode E cf okDraw lf fid c) m (fr d n F) H ds):=by
    intro m
    induction m with
    |zero=>intro F H ds _;exact .inl rfl
    | succ m ihm=>
      intro F H ds hF
      have hs:iterF d (runF E cf okDraw lf fid d n (cCode E okDraw fid d n T c)) (m+1) F H ds=(match runF E cf okDraw lf fid d n (cCode E okDraw fid d n T c) F H ds with
       | .normal F H ds=>iterF d (runF E cf okDraw lf fid d n (cCode E okDraw fid d n T c)) m F H ds
       |r=>r):=rfl
      rw [hs];simp only [iter];rcases ih F H ds hF with h|⟨h1,h2,h3,h4⟩
      · rw [h];exact .inl rfl
      · rw [←h1]
        cases hx:runF E cf okDraw lf fid d n (cCode E okDraw fid d n T c) F H ds with
        |normal F' H' ds'=>exact ihm F' H' ds' (h2 _ _ _ hx)
        |exit id F' H' ds'=>exact Good.exit (h3 _ _ _ _ hx)
        |ret F' H' ds'=>exact Good.ret (h4 _ _ _ hx)
        |pan v F' H' ds'=>exact Good.pan
        |fail=>exact .inl rfl
   exact key lf F H ds hF
end
section
variable (E:Env) (okDraw:DrawT) (fid d n:Nat) (T:Tabs d)
def cRV (r:ResultVar):Option (FRV d):=match r with
 | .tmp t=>match Nat.blt t n with
   |true=>some (.tmp (T.g t))
   |false=>none
 | .cell a t=>match opOK E n (.tmp a) with
   | true=>match sizeT E t,und E t with
     |some m,some dd=>some (.cell (cG E fid d T (.tmp a)) m (isAggD dd))
     |_,_=>none
   |false=>none
def cRVs:List ResultVar→Option (List (FRV d))
 | []=>some []
 | r::rs=>match cRV E fid d n T r,cRVs rs with
   |some x,some xs=>some (x::xs)
   |_,_=>none
def cFun (fn:Func):Option (FC d×List (FRV d)):=match fn.body,cRVs E fid d fn.ntmps T fn.results.toList with
 |some c,some rs=>some (cCode E okDraw fid d fn.ntmps T c,rs)
 |_,_=>none
variable {E okDraw fid d n T} {cf:CallF} {lf:Nat}
theorem resF_ok (hT:TabsOK d n T) {F:FrT d} (hF:InvF E fid d n F) {H:Hp}: ∀(rs:List ResultVar) (xs:List (FRV d)) (acc vs:List Val),cRVs E fid d n T rs=some xs→resF d n F H xs acc=some vs→
  ∃ws,resultsP E (fr d n F) H rs=some ws∧vs=acc.reverse++ws:=by
 intro rs
 induction rs with
 | nil=>
   intro xs acc vs h hr;simp only [cRVs,Option.some.injEq] at h;subst h;simp only [resF,Option.some.injEq] at hr;subst hr;exact ⟨[],rfl,by simp⟩
 | cons r rs ih=>
   intro xs acc vs h hr;simp only [cRVs] at h;split at h
   case h_2=>cases h
   rename_i x xs' hx hxs;simp only [Option.some.injEq] at h;subst h
   cases r with
   | tmp t=>
     simp only [cRV] at hx;split at hx
     case h_2=>cases hx
     rename_i hb;simp only [Option.some.injEq] at hx;subst hx;have ht:t<n:=Nat.le_of_ble_eq_true hb;simp only [resF] at hr;obtain ⟨ws,h1,h2⟩:=ih xs' _ vs hxs hr;refine ⟨gP d t F::ws,?_,by rw [h2,hT.g t ht];simp⟩;simp only [resultsP,resultP,fr_getT hT.fit F ht,h1]
   | cell a t=>
     simp only [cRV] at hx;split at hx
     case h_2=>cases hx
     rename_i hb;split at hx
     case h_2=>cases hx
     rename_i m dd hm hu;simp only [Option.some.injEq] at hx;subst hx;simp only [resF] at hr;split at hr
     case h_2=>cases hr
     rename_i v hv;rw [fV_eq] at hr;obtain ⟨ws,h1,h2⟩:=ih xs' _ vs hxs hr;refine ⟨v::ws,?_,by rw [h2];simp⟩;have hl:loadP E t (opd E (fr d n F) (.tmp a)) (fr d n F) H=some v:=by
      rw [cG_ok hT hb hF] at hv;unfold loadP;simp only [hm,hu]
      cases hr:rowAtF d n F H (opd E (fr d n F) (.tmp a)) with
      |none=>rw [hr] at hv;cases hv
      |some r=>rw [rowAtF_ok hT.fit hr,←hr];exact hv
     simp only [resultsP,resultP,hl,h1]
theorem outF_ok {vs:Option (List Val)} {H:Hp} {tm:List Val} {fn:Func} (h: ∀ws,vs=some ws→resultsP E tm H fn.results.toList=some ws) (hne:outF vs H≠ .fail):outF vs H=resP E fn tm H:=by
 cases vs with
 |none=>exact absurd rfl hne
 | some ws=>
   have h1:=h ws rfl;unfold resP;rw [h1];unfold outF at hne⊢;simp only at hne⊢
   match ws with
   | [v]=>
     simp only at hne⊢
     cases hn:noLoc v with
     |true=>simp
     |false=>rw [hn] at hne;exact absurd rfl hne
   | []=>simp
   | a::b::l=>
     simp only at hne⊢
     cases hn:(a::b::l).all noLoc with
     |true=>simp
     |false=>rw [hn] at hne;exact absurd rfl hne
theorem evalFF_eq {ff:FF} {fn:Func} {T:Tabs ff.d} (hn:ff.n=fn.ntmps) (hT:TabsOK ff.d ff.n T) (hc:cFun E okDraw fid ff.d T fn=some (ff.code,ff.res)) (hp:E.prim fid=none) (hf:E.fns fid=some fn) (args:List Val) (H:Hp)
  (h:evalFF E cf okDraw lf fid ff fn args H≠ .fail):evalFF E cf okDraw lf fid ff fn args H=evalBody E cf okDraw lf fid args H:=by
 obtain ⟨d,n,code,res⟩:=ff;simp only at hn T hT hc;subst hn;unfold evalFF at h⊢;split at h
 case h_2=>exact absurd rfl h
 rename_i hcond;simp only [Bool.and_eq_true] at hcond;have hlen:args.length≤fn.ntmps:=Nat.le_of_ble_eq_true hcond.1;simp only at h⊢;unfold cFun at hc;split at hc
 case h_2=>cases hc
 rename_i c rs hb hrs;simp only [Option.some.injEq,Prod.mk.injEq] at hc;obtain ⟨rfl,rfl⟩:=hc;have e0:fr d fn.ntmps (ofL d args).1=args++List.replicate (fn.ntmps-args.length) (.tup []):=fr_ofL hT.fit hlen;have hF0:InvF E fid d fn.ntmps (ofL d args).1:=by
  intro i hi hl;have:=fr_get hT.fit (ofL d args).1 hi;rw [e0,List.getElem?_append] at this;split at this
  · have h2:=List.all_eq_true.1 hcond.2 _ (List.mem_of_getElem? this);cases hg:gP d i (ofL d args).1<;>first|rfl|(rw [hg] at h2;cases h2)
  · rw [List.getElem?_replicate] at this;split at this
    · simp only [Option.some.injEq] at this;rw [←this];rfl
    · cases this
 have hgood:=cCode_ok (cf:=cf) (okDraw:=okDraw) (lf:=lf) hT c (ofL d args).1 H [] hF0;rw [e0] at hgood;unfold evalBody;simp only [hp,hf,hb];rw [if_pos hlen];rcases hgood with hfail|⟨h1,h2,h3,h4⟩
 · rw [hfail] at h;exact absurd rfl h
 · rw [←h1];generalize runF E cf okDraw lf fid d fn.ntmps (cCode E okDraw fid d fn.ntmps T c) (ofL d args).1 H []=r at*;have out: ∀F H',InvF E fid d fn.ntmps F→outF (resF d fn.ntmps F H' rs []) H'≠ .fail→outF (resF d fn.ntmps F H' rs []) H'=resP E fn (fr d fn.ntmps F) H':=by intro F H' hF hne;refine outF_ok (fun ws hw=> ?_) hne;obtain ⟨ws',k1,k2⟩:=resF_ok hT hF fn.results.toList rs [] ws hrs hw;simp only [List.reverse_nil,List.nil_append] at k2;rw [k2];exact k1
   cases r with
   | normal F H' ds=>
     cases ds with
     | nil=>
       exact out F H' (h2 F H' [] rfl) h
     |cons x l=>rfl
   | ret F H' ds=>
     cases ds with
     | nil=>
       exact out F H' (h4 F H' [] rfl) h
     |cons x l=>rfl
   | pan v F H' ds=>
     cases ds with
     |nil=>rfl
     |cons x l=>rfl
   |exit id F H' ds=>rfl
   |fail=>rfl
structure MTab (E:Env) (P:Program) (okDraw:DrawT) (ffs:Nat→Option FX):Prop where
  tab:TabOK E P okDraw
  ff: ∀f x fn,ffs f=some (.ff x fn)→E.prim f=none∧E.fns f=some fn∧x.n=fn.ntmps∧ ∃T:Tabs x.d,TabsOK x.d x.n T∧cFun E okDraw f x.d T fn=some (x.code,x.res)
  prim: ∀f p,ffs f=some (.prim p)→ ∀args H,CallOK E P f args H (p args H)
theorem evalM_ok {P:Program} {ffs:Nat→Option FX} (hM:MTab E P okDraw ffs): ∀(m f:Nat) (args:List Val) (H:Hp),CallOK E P f args H (evalM E okDraw lf ffs m f args H):=by
 intro m
 induction m with
 |zero=>intro f args H h;exact absurd rfl h
 | succ m ih=>
   intro f args H h
   have hs:evalM E okDraw lf ffs (m+1) f args H=(match ffs f with
    |some x=>evalX E okDraw lf f (evalM E okDraw lf ffs m) args H x
    |none=> .fail):=rfl
   rw [hs] at h⊢
   cases hx:ffs f with
   |none=>rw [hx] at h;exact absurd rfl h
   | some x=>
     rw [hx] at h;simp only at h⊢
     cases x with
     |prim p=>exact hM.prim f p hx args H h
     | ff x fn=>
       obtain ⟨h1,h2,h3,T,h4,h5⟩:=hM.ff f x fn hx;simp only [evalX] at h⊢;have e:=evalFF_eq (okDraw:=okDraw) (fid:=f) (cf:=evalM E okDraw lf ffs m) (lf:=lf) h3 h4 h5 h1 h2 args H h;rw [e] at h⊢;exact evalBody_ok hM.tab ih f args H h
end
inductive BT (α:Type) where
  |leaf (v:Option α)
  |node (k:Nat) (l r:BT α)
variable {α:Type}
noncomputable def BT.get (t:BT α) (n:Nat):Option α:=
 BT.rec (motive:=fun _=>Option α) (fun v=>v) (fun k _ _ il ir=>match Nat.blt n k with
  |true=>il
  |false=>ir) t
def BT.all (p:Nat→α→Prop):BT α→Prop
 | .leaf none=>True
 | .leaf (some v)=> ∀n,p n v
 | .node _ l r=>l.all p∧r.all p
def memN (n:Nat):List Nat→Bool
 | []=>false
 | x::l=>match Nat.beq n x with
   |true=>true
   |false=>memN n l
def regIn (id:Nat):Code→Option Code
 | .region i ops dr=>match Nat.beq i id with
   |true=>some (.region i ops dr)
   |false=>none
 | .seq a b=>match regIn id a with
   |some c=>some c
   |none=>regIn id b
 | .cond _ a b=>match regIn id a with
   |some c=>some c
   |none=>regIn id b
 | .block _ a=>regIn id a
 | .loop a=>regIn id a
 |_=>none
def regAt (fn:Func) (id:Nat):Code:=match fn.body with
 | some c=>match regIn id c with
   |some c=>c
   |none=> .skip
 |none=> .skip
noncomputable def upto {α:Type} (n:Nat) (t:BT α) (k:Nat):Option α:=match Nat.blt k n with
 |true=>t.get k
 |false=>none
theorem upto_lt {α:Type} {n:Nat} {t:BT α} {k:Nat} {v:α} (h:upto n t k=some v):k<n:=by
 unfold upto at h;split at h
 · rename_i hb;exact Nat.le_of_ble_eq_true hb
 · cases h
def keepS {α:Type} (f g:Nat→Option α) (n:Nat):Option α:=match f n with
 |some _=>g n
 |none=>none
theorem keepS_spec {α:Type} {f g:Nat→Option α} {n:Nat} (h:(List.range n).map f=(List.range n).map (keepS f g)) (hf: ∀k v,f k=some v→k<n): ∀k v,f k=some v→g k=some v:=by intro k v hk;have hlt:=hf k v hk;have:=congrArg (fun l=>l[k]?) h;simp only [List.getElem?_map,List.getElem?_range hlt,Option.map_some,Option.some.injEq] at this;rw [hk] at this;unfold keepS at this;rw [hk] at this;exact this.symm
def zokB (E:Env) (t:Nat):Bool:=match E.T t with
 | some i=>match i.zero with
   |some z=>(ofC 2 z).cells.all okCell&&Nat.beq (ofC 2 z).cells.length i.size
   |none=>false
 |none=>true
def nameB (E:Env) (f:Nat):Bool:=match E.fns f with
 |some fn=> !(fn.name== "runtime.NumGoroutine")
 |none=>true
def regB (E:Env) (okd:DrawT) (f:Nat):Bool:=match E.fns f with
 | some fn=>match fn.body with
   |some c=>regionsOK E okd f c
   |none=>true
 |none=>true
def noTold (okd:DrawT) (f:Nat):Code→Bool
 | .region id _ dr=> !dr||(okd f id).isNone
 | .seq a b=>noTold okd f a&&noTold okd f b
 | .cond _ a b=>noTold okd f a&&noTold okd f b
 | .block _ a=>noTold okd f a
 | .loop a=>noTold okd f a
 |_=>true
def noDrawB (E:Env) (okd:DrawT) (f:Nat):Bool:=match E.fns f with
 | some fn=>match fn.body with
   |some c=>noTold okd f c
   |none=>true
 |none=>true
theorem noTold_ok {E:Env} {okd:DrawT} {f:Nat}: ∀c,noTold okd f c=true→regionsOK E okd f c=true:=by
 intro c
 induction c with
 | region id ops dr=>
   intro h
   cases dr with
   |false=>rfl
   | true=>
     simp only [noTold,Bool.not_true,Bool.false_or,Option.isNone_iff_eq_none] at h;simp only [regionsOK,h]
 |seq a b iha ihb=>intro h;simp only [noTold,Bool.and_eq_true] at h;simp only [regionsOK,iha h.1,ihb h.2,Bool.and_self]
 |cond c a b iha ihb=>intro h;simp only [noTold,Bool.and_eq_true] at h;simp only [regionsOK,iha h.1,ihb h.2,Bool.and_self]
 |block id a ih=>intro h;exact ih h
 |loop a ih=>intro h;exact ih h
 |_=>intro _;rfl
def allB (p:Nat→Bool):List Nat→Bool
 | []=>true
 |x::l=>p x&&allB p l
theorem allB_nil (p:Nat→Bool):allB p []=true:=rfl
theorem allB_cons {p:Nat→Bool} {x:Nat} {l:List Nat} (h:p x=true) (hl:allB p l=true):allB p (x::l)=true:=by simp [allB,h,hl]
theorem allB_mem {p:Nat→Bool} {f:Nat}: ∀ {l:List Nat},allB p l=true→memN f l=true→p f=true
 | [],_,h=>by cases h
 | x::l,ha,h=>by
   simp only [allB,Bool.and_eq_true] at ha;simp only [memN] at h;split at h
   · rename_i hb;rw [Nat.eq_of_beq_eq_true hb];exact ha.1
   · exact allB_mem ha.2 h
theorem mkTab {E:Env} {P:Program} {okd:DrawT} {nT nF:Nat} {l:List Nat} {typeTab:BT TypeInfo} {funcTab:BT Func} (hq: ∀t,E.eqt t=true→P.stoodInHeld t=false∧P.eqGuardType P.depth t=false)
  (hT:(List.range nT).map E.T=(List.range nT).map (keepS E.T P.info?)) (hZ:(List.range nT).all (zokB E)=true) (hF:(List.range nF).map E.fns=(List.range nF).map (keepS E.fns fun f=>P.funcs[f]?))
  (hN:(List.range nF).all (nameB E)=true) (hm:P.follows .mixedOrders=true) (hr:allB (regB E okd) l=true) (hn:(List.range nF).all (fun f=>memN f l||noDrawB E okd f)=true) (hp: ∀f,E.prim f=none)
  (hlies: ∀e u,E.lies e u=true→ ∀count,1≤count→liesAt P P.depth e count 0 u 1=true)
  (eT:E.T=upto nT typeTab:=by rfl) (eF:E.fns=upto nF funcTab:=by rfl):TabOK E P okd:=by
 have ltT: ∀k v,E.T k=some v→k<nT:=fun k v h=>by rw [eT] at h;exact upto_lt h
 have ltF: ∀k v,E.fns k=some v→k<nF:=fun k v h=>by rw [eF] at h;exact upto_lt h
 have sF:=keepS_spec hF ltF;refine ⟨⟨fun t i h=> ?_,keepS_spec hT ltT,fun f fn h=>⟨sF f fn h,?_⟩,hq,hlies⟩,hm,fun f fn c h hb=> ?_,fun f p h=>by rw [hp] at h;cases h⟩
 · have:=List.all_eq_true.1 hZ t (by simpa using ltT t i h);unfold zokB at this;rw [h] at this;simp only at this;split at this
   · rename_i z hz;simp only [Bool.and_eq_true] at this;exact ⟨z,hz,this.1,Nat.eq_of_beq_eq_true this.2⟩
   · cases this
 · have:=List.all_eq_true.1 hN f (by simpa using ltF f fn h);unfold nameB at this;rw [h] at this;simpa using this
 · have:=List.all_eq_true.1 hn f (by simpa using ltF f fn h);simp only [Bool.or_eq_true] at this;rcases this with h1|h1
   · have h2:=allB_mem hr h1;unfold regB at h2;rw [h] at h2;simp only [hb] at h2;exact h2
   · unfold noDrawB at h1;rw [h] at h1;simp only [hb] at h1;exact noTold_ok c h1
def BT.allIn {α:Type} (p:Nat→α→Prop):Nat→Nat→BT α→Prop
 |_,_,.leaf none=>True
 |lo,hi,.leaf (some v)=> ∀n,lo≤n→n<hi→p n v
 |lo,hi,.node k l r=>BT.allIn p lo k l∧BT.allIn p k hi r
theorem BT.allIn_get {α:Type} {p:Nat→α→Prop} {n:Nat} {v:α}: ∀(t:BT α) (lo hi:Nat),BT.allIn p lo hi t→lo≤n→n<hi→t.get n=some v→p n v:=by
 intro t
 induction t with
 | leaf o=>
   intro lo hi h h1 h2 hg;have hg:o=some v:=hg;subst hg;exact h n h1 h2
 | node k l r ihl ihr=>
   intro lo hi h h1 h2 hg;have e:(BT.node k l r).get n=(match Nat.blt n k with|true=>l.get n|false=>r.get n):=rfl;rw [e] at hg
   cases hb:Nat.blt n k with
   | true=>
     rw [hb] at hg;exact ihl lo k h.1 h1 (Nat.le_of_ble_eq_true hb) hg
   | false=>
     rw [hb] at hg;refine ihr k hi h.2 ?_ h2 hg;rcases Nat.lt_or_ge n k with h3|h3
     · have:Nat.blt n k=true:=Nat.ble_eq_true_of_le h3;rw [hb] at this;cases this
     · exact h3
theorem at1 {α:Type} {p:Nat→α→Prop} {k:Nat} {v:α} (h:p k v): ∀n,k≤n→n<k+1→p n v:=by
 intro n h1 h2;have:n=k:=by omega
 subst this;exact h
def gOK (d:Nat) (i:Nat) (g:Get d):Prop:= ∀F,g F=gP d i F
def sOK (d:Nat) (i:Nat) (s:Set d):Prop:= ∀v F k,s v F k=k (sP d i v F)
noncomputable def tabsOf (d:Nat) (gt:BT (Get d)) (st:BT (Set d)):Tabs d:=⟨fun i=>match gt.get i with
 |some g=>g
 |none=>gP d i,fun i=>match st.get i with
 |some s=>s
 |none=>fun v F k=>k (sP d i v F)⟩
theorem tabsOf_ok {d n:Nat} {gt:BT (Get d)} {st:BT (Set d)} (hg:BT.allIn (gOK d) 0 (8^d) gt) (hs:BT.allIn (sOK d) 0 (8^d) st) (hn:n≤8^d):TabsOK d n (tabsOf d gt st):=by
 refine ⟨hn,fun i hi F=> ?_,fun i hi v F k=> ?_⟩
 · simp only [tabsOf]
   cases h:gt.get i with
   |none=>rfl
   |some g=>exact BT.allIn_get gt 0 (8^d) hg (Nat.zero_le _) (by omega) h F
 · simp only [tabsOf]
   cases h:st.get i with
   |none=>rfl
   |some s=>exact BT.allIn_get st 0 (8^d) hs (Nat.zero_le _) (by omega) h v F k
def fxOK (E:Env) (P:Program) (okDraw:DrawT) (f:Nat):FX→Prop
 | .ff x fn=>E.prim f=none∧E.fns f=some fn∧x.n=fn.ntmps∧ ∃T:Tabs x.d,TabsOK x.d x.n T∧cFun E okDraw f x.d T fn=some (x.code,x.res)
 | .prim p=> ∀args H,CallOK E P f args H (p args H)
noncomputable section
variable {R:Type} (E:Env) (okDraw:DrawT) (fid d n:Nat) (gt:BT (Get d)) (st:BT (Set d))
def kGt (i:Nat) (k:Get d→R):R:=match gt.get i with
 |some g=>k g
 |none=>k (gP d i)
def kSt (i:Nat) (k:Set d→R):R:=match st.get i with
 |some s=>k s
 |none=>k fun v F k=>k (sP d i v F)
def kG (x:Operand) (k:Get d→R):R:=match x with
 | .tmp t=>match E.loc fid t with
   |true=>k (gLoc d t)
   |false=>kGt d gt t k
 | .const v=>fV (ofC 2 v) fun v=>k (gC d v)
 | .global g=>fV (E.G g) fun v=>k (gC d v)
 | .func f=>k (gC d (.fn (.func f) [] []))
def kGs (xs:List Operand) (k:List (Get d)→R):R:=match xs with
 | []=>k []
 |x::xs=>kG E fid d gt x fun g=>kGs xs fun gs=>k (g::gs)
def k1 (x:Operand) (r e:R):R:=match opOK E n x with
 |true=>r
 |false=>e
abbrev BiF (d:Nat):=Val→Val→MRes d→(Val→MRes d)→MRes d
def kBin (op:BinOp) (t:Nat) (k:BiF d→R):R:=match und E t with
 | some (.int i)=>match op with
   | .add=>match decide (i= .i64) with
     |true=>k (addI E t)
     |false=>k (fBin E .add t)
   | .lss=>k (cmpI E i .lss t)
   | .gtr=>k (cmpI E i .gtr t)
   | .leq=>k (cmpI E i .leq t)
   | .geq=>k (cmpI E i .geq t)
   | .eql=>k (cmpI E i .eql t)
   | .neq=>k (cmpI E i .neq t)
   |op=>k (fBin E op t)
 | some .string=>match op with
   | .eql=>k (eqS E .eql t)
   | .neq=>k (eqS E .neq t)
   |op=>k (fBin E op t)
 |_=>k (fBin E op t)
def kCall (c:Call) (so:Option (Set d)) (o:Oper) (k:FI d→R):R:=match c.callee with
 | .value f=>match c.args.toList.all (opOK E n) with
   | true=>match f with
     | .func g=>kGs E fid d gt c.args.toList fun gs=>k (.call g gs so)
     |f=>k1 E n f (kG E fid d gt f fun g=>kGs E fid d gt c.args.toList fun gs=>k (.callv g gs so)) (k (.slow o))
   |false=>k (.slow o)
 |_=>k (.slow o)
def kLen (t:Nat) (x:Operand) (i:Nat) (o:Oper) (k:FI d→R):R:=match und E t with
 |some .string=>k1 E n x (kG E fid d gt x fun g=>kSt d st i fun s=>k (.un g fLenS s)) (k (.slow o))
 |some (.slice _)=>k1 E n x (kG E fid d gt x fun g=>kSt d st i fun s=>k (.un g fLenL s)) (k (.slow o))
 |_=>k (.slow o)
def kU (x:Operand) (i:Nat) (o:Oper) (f:Val→MRes d→(Val→MRes d)→MRes d) (k:FI d→R):R:=
 k1 E n x (kG E fid d gt x fun g=>kSt d st i fun s=>k (.un g f s)) (k (.slow o))
def kB2 (x y:Operand) (i:Nat) (o:Oper) (f:BiF d) (k:FI d→R):R:=
 k1 E n x (k1 E n y (kG E fid d gt x fun g=>kG E fid d gt y fun h=>kSt d st i fun s=>k (.bi g h f s)) (k (.slow o))) (k (.slow o))
def kI1 (i:Nat) (o:Oper) (k:FI d→R):R:=match o.op with
 | .move x=>k1 E n x (kG E fid d gt x fun g=>kSt d st i fun s=>k (.mv g s)) (k (.slow o))
 | .assign x=>k1 E n x (kG E fid d gt x fun g=>kSt d st i fun s=>k (.mv g s)) (k (.slow o))
 | .pick c a b=>k1 E n c (k1 E n a (k1 E n b (kG E fid d gt c fun gc=>kG E fid d gt a fun ga=>kG E fid d gt b fun gb=>kSt d st i fun s=>k (.pick gc ga gb s)) (k (.slow o))) (k (.slow o))) (k (.slow o))
 | .nilCheck x=>kU E fid d n gt st x i o fNil k
 | .unOp op _ x=>match op with
   | .not=>kU E fid d n gt st x i o fNot k
   |op=>kU E fid d n gt st x i o (fUn op) k
 | .binOp op t x y _=>kBin E d op t fun f=>kB2 E fid d n gt st x y i o f k
 | .load t a=>match sizeT E t,und E t with
   |some m,some dd=>fN m fun m=>fB (isAggD dd) fun ag=>k1 E n a (kG E fid d gt a fun g=>kSt d st i fun s=>k (.ld g m ag s)) (k (.slow o))
   |_,_=>k (.slow o)
 | .fieldAddr s x f=>match und E s with
   | some (.struct fs)=>match fs[f]? with
     | some fd=>match sizeT E fd.type with
       |some (_+1)=>fN fd.offset fun off=>kU E fid d n gt st x i o (fAddr off) k
       |_=>k (.slow o)
     |none=>k (.slow o)
   |_=>k (.slow o)
 | .indexAddr t x j=>match und E t with
   | some (.slice el)=>match sizeT E el with
     |some m=>fN m fun m=>kB2 E fid d n gt st x j i o (fIxL m) k
     |none=>k (.slow o)
   | some (.array len el)=>match sizeT E el with
     |some m=>fN m fun m=>kB2 E fid d n gt st x j i o (fIxA len m) k
     |none=>k (.slow o)
   |_=>k (.slow o)
 | .index t x j=>match und E t with
   |some .string=>kB2 E fid d n gt st x j i o fIdxS k
   |_=>k (.slow o)
 | .convert s t x=>match und E s,und E t with
   |some (.int _),some (.int q)=>kU E fid d n gt st x i o (fConv q) k
   |_,_=>k (.slow o)
 | .extract x j=>kU E fid d n gt st x i o (fExt j) k
 | .alloc el=>match zeroT E el with
   | some z=>match z.cells.all okCell with
     |true=>fL z.cells fun z=>kSt d st i fun s=>k (.newB el z s)
     |false=>k (.slow o)
   |none=>k (.slow o)
 | .box el x=>k1 E n x (kG E fid d gt x fun g=>kSt d st i fun s=>k (.boxB el g s)) (k (.slow o))
 | .call c=>match c.callee with
   | .builtin b=>match b,c.argTypes.toList,c.args.toList with
     | .len,[t],[x]=>kLen E fid d n gt st t x i o k
     |_,_,_=>k (.slow o)
   |_=>kSt d st i fun s=>kCall E fid d n gt c (some s) o k
 |_=>k (.slow o)
def kI2 (i:Nat) (o:Oper) (k:FI d→R):R:=match o.op with
 | .alloc el=>match zeroT E el with
   | some z=>match z.cells.all okCell with
     |true=>fL z.cells fun z=>k (.newL z i)
     |false=>k (.slow o)
   |none=>k (.slow o)
 | .box _ x=>k1 E n x (kG E fid d gt x fun g=>k (.boxL g i)) (k (.slow o))
 |_=>k (.slow o)
def kI3 (o:Oper) (k:FI d→R):R:=match o.op with
 | .store t a x=>match sizeT E t with
   |some m=>fN m fun m=>k1 E n a (k1 E n x (kG E fid d gt a fun ga=>kG E fid d gt x fun gx=>k (.st m ga gx none)) (k (.slow o))) (k (.slow o))
   |none=>k (.slow o)
 | .call c=>kCall E fid d n gt c none o k
 |_=>k (.slow o)
def kI (o:Oper) (k:FI d→R):R:=match o.dst with
 | some i=>match Nat.blt i n with
   | true=>match E.loc fid i with
     |false=>kI1 E fid d n gt st i o k
     |true=>kI2 E fid d n gt i o k
   |false=>k (.slow o)
 |none=>kI3 E fid d n gt o k
def kGenI (so:Option (Set d)) (o:Oper) (k:FI d→R):R:=match cGenOf E o with
 | some (xs,f)=>match xs.all (opOK E n) with
   |true=>kGs E fid d gt xs fun gs=>k (.gen gs f so)
   |false=>k (.slow o)
 |none=>k (.slow o)
def kJ (o:Oper) (k:FI d→R):R:=kI E fid d n gt st o fun fi=>match isSlow fi with
 |false=>k fi
 | true=>match o.dst with
   |none=>kGenI E fid d n gt none o k
   | some i=>match Nat.blt i n&& !E.loc fid i with
     |true=>kSt d st i fun s=>kGenI E fid d n gt (some s) o k
     |false=>k (.slow o)
theorem kGt_eq (i:Nat) (k:Get d→R):kGt d gt i k=k ((tabsOf d gt st).g i):=by unfold kGt tabsOf;dsimp only;cases gt.get i<;>rfl
theorem kSt_eq (i:Nat) (k:Set d→R):kSt d st i k=k ((tabsOf d gt st).s i):=by unfold kSt tabsOf;dsimp only;cases st.get i<;>rfl
theorem kG_eq (x:Operand) (k:Get d→R):kG E fid d gt x k=k (cG E fid d (tabsOf d gt st) x):=by unfold kG cG;cases x<;>simp only [fV_eq];cases E.loc fid _<;>simp only [kGt_eq d gt st]
theorem kGs_eq (xs:List Operand) (k:List (Get d)→R):kGs E fid d gt xs k=k (xs.map (cG E fid d (tabsOf d gt st))):=by
 induction xs generalizing k with
 |nil=>rfl
 |cons x xs ih=>simp only [kGs,kG_eq E fid d gt st,ih,List.map_cons]
theorem k1_eq (x:Operand) (o:Oper) (r:FI d) (k:FI d→R):k1 E n x (k r) (k (.slow o))=k (g1 E d n x o r):=by unfold k1 g1;cases opOK E n x<;>rfl
theorem kBin_eq (op:BinOp) (t:Nat) (k:BiF d→R):kBin E d op t k=k (cBin E op t):=by
 unfold kBin cBin
 cases und E t with
 |none=>rfl
 | some dd=>
   cases dd<;>first
    |rfl
    |(cases op<;>first|rfl|(rename_i q;cases h:decide (q=IntKind.i64)<;>simp only [h]))
theorem kCall_eq (c:Call) (so:Option (Set d)) (o:Oper) (k:FI d→R):kCall E fid d n gt c so o k=k (cCall E fid d n (tabsOf d gt st) c so o):=by
 unfold kCall cCall
 cases c.callee with
 | value f=>
   simp only
   cases c.args.toList.all (opOK E n) with
   |true=>cases f<;>simp only [kGs_eq E fid d gt st,kG_eq E fid d gt st,k1_eq]
   |false=>rfl
 |_=>rfl
theorem kU_eq (x:Operand) (i:Nat) (o:Oper) (f:Val→MRes d→(Val→MRes d)→MRes d) (k:FI d→R):kU E fid d n gt st x i o f k=k (g1 E d n x o (.un (cG E fid d (tabsOf d gt st) x) f ((tabsOf d gt st).s i))):=by unfold kU;simp only [kG_eq E fid d gt st,kSt_eq d gt st,k1_eq]
theorem kB2_eq (x y:Operand) (i:Nat) (o:Oper) (f:BiF d) (k:FI d→R):
  kB2 E fid d n gt st x y i o f k=k (g1 E d n x o (g1 E d n y o (.bi (cG E fid d (tabsOf d gt st) x) (cG E fid d (tabsOf d gt st) y) f ((tabsOf d gt st).s i)))):=by
 unfold kB2;simp only [kG_eq E fid d gt st,kSt_eq d gt st,k1_eq]
theorem kLen_eq (t:Nat) (x:Operand) (i:Nat) (o:Oper) (k:FI d→R):kLen E fid d n gt st t x i o k=k (cLen E fid d n (tabsOf d gt st) t x i o):=by
 unfold kLen cLen;cases und E t with
 |none=>rfl
 |some dd=>cases dd<;>simp only [kG_eq E fid d gt st,kSt_eq d gt st,k1_eq]
theorem kI1_eq (i:Nat) (o:Oper) (k:FI d→R):kI1 E fid d n gt st i o k=k (cI1 E fid d n (tabsOf d gt st) i o):=by
 unfold kI1 cI1;cases o.op<;>simp only [kG_eq E fid d gt st,kSt_eq d gt st,k1_eq,kU_eq,kB2_eq,kBin_eq,fN_eq,fB_eq,fL_eq]
 case unOp op t x=>cases op<;>rfl
 case load t a=>cases sizeT E t<;>cases und E t<;>rfl
 case fieldAddr s x f=>
  cases und E s with
  |none=>rfl
  | some dd=>
    cases dd<;>try rfl
    rename_i fs;simp only
    cases fs[f]? with
    |none=>rfl
    | some fd=>
      simp only
      cases sizeT E fd.type with
      |none=>rfl
      |some m=>cases m<;>rfl
 case indexAddr t x j=>
  cases und E t with
  |none=>rfl
  | some dd=>
    cases dd<;>try rfl
    · rename_i el;simp only;cases sizeT E el<;>rfl
    · rename_i len el;simp only;cases sizeT E el<;>rfl
 case index t x j=>
  cases und E t with
  |none=>rfl
  |some dd=>cases dd<;>rfl
 case convert s t x=>
  cases und E s with
  |none=>rfl
  | some dd=>
    cases dd<;>try rfl
    cases und E t with
    |none=>rfl
    |some ee=>cases ee<;>rfl
 case alloc el=>
  cases zeroT E el with
  |none=>rfl
  |some z=>simp only;cases z.cells.all okCell<;>rfl
 case call c=>
  cases hc:c.callee with
  | builtin b=>
    simp only;cases b<;>try rfl
    generalize c.argTypes.toList=ts;generalize c.args.toList=xs;rcases ts with _|⟨t,_|⟨t2,ts⟩⟩<;>try rfl
    rcases xs with _|⟨x,_|⟨x2,xs⟩⟩<;>try rfl
    exact kLen_eq E fid d n gt st _ _ _ _ _
  |_=>exact kCall_eq E fid d n gt st _ _ _ _
theorem kI2_eq (i:Nat) (o:Oper) (k:FI d→R):kI2 E fid d n gt i o k=k (cI2 E fid d n (tabsOf d gt st) i o):=by
 unfold kI2 cI2;cases o.op<;>simp only [kG_eq E fid d gt st,k1_eq,fL_eq]
 case alloc el=>
  cases zeroT E el with
  |none=>rfl
  |some z=>simp only;cases z.cells.all okCell<;>rfl
theorem kI3_eq (o:Oper) (k:FI d→R):kI3 E fid d n gt o k=k (cI3 E fid d n (tabsOf d gt st) o):=by unfold kI3 cI3;cases o.op<;>simp only [kG_eq E fid d gt st,k1_eq,fN_eq,kCall_eq E fid d n gt st];rename_i t a x;cases sizeT E t<;>rfl
theorem kI_eq (o:Oper) (k:FI d→R):kI E fid d n gt st o k=k (cI E fid d n (tabsOf d gt st) o):=by
 unfold kI cI
 cases o.dst with
 |none=>exact kI3_eq E fid d n gt st _ _
 | some i=>
   simp only
   cases Nat.blt i n with
   |false=>rfl
   | true=>
     simp only
     cases E.loc fid i with
     |false=>exact kI1_eq E fid d n gt st _ _ _
     |true=>exact kI2_eq E fid d n gt st _ _ _
theorem kGenI_eq (so:Option (Set d)) (o:Oper) (k:FI d→R):kGenI E fid d n gt so o k=k (cGenI E fid d n (tabsOf d gt st) so o):=by
 unfold kGenI cGenI
 cases cGenOf E o with
 |none=>rfl
 | some p=>
   obtain ⟨xs,f⟩:=p;simp only
   cases xs.all (opOK E n) with
   |true=>exact kGs_eq E fid d gt st _ _
   |false=>rfl
theorem kJ_eq (o:Oper) (k:FI d→R):kJ E fid d n gt st o k=k (cJ E fid d n (tabsOf d gt st) o):=by
 unfold kJ cJ;rw [kI_eq]
 cases isSlow (cI E fid d n (tabsOf d gt st) o) with
 |false=>rfl
 | true=>
   simp only
   cases o.dst with
   |none=>exact kGenI_eq E fid d n gt st _ _ _
   | some i=>
     simp only
     cases Nat.blt i n&& !E.loc fid i with
     |true=>simp only;rw [kSt_eq d gt st];exact kGenI_eq E fid d n gt st _ _ _
     |false=>rfl
end
end Go.PV
