/- A part of the proof: PvD3. -/
import Derived.Test.YtmjfdiohjflnnaaGreatDoorP01
set_option linter.all false
namespace Go.PV
def reTm (tm':List Val):ORes→ORes
 | .ok v _ H=> .ok v tm' H
 |r=>r
section
variable {E:Env} {cf:CallF} {fid:Nat} {tm tm':List Val} {H:Hp}
theorem okV_re (r:Option Val):okV r tm' H=reTm tm' (okV r tm H):=by cases r<;>simp [okV,reTm]
theorem okVH_re (r:Option (Val×Hp)):okVH r tm'=reTm tm' (okVH r tm):=by cases r<;>simp [okVH,reTm]
theorem opPick_re (c a b:Val):opPick c a b tm' H=reTm tm' (opPick c a b tm H):=by unfold opPick;split<;>first|exact okV_re _|rfl
theorem opNilCheck_re (x:Val):opNilCheck x tm' H=reTm tm' (opNilCheck x tm H):=by unfold opNilCheck;split<;>first|exact okV_re _|rfl
theorem opMakeIface_re (t:Nat) (d:Option TypeDesc) (x:Val):opMakeIface t d x tm' H=reTm tm' (opMakeIface t d x tm H):=by unfold opMakeIface;split<;>(try split)<;>simp [reTm]
theorem opMakeFn_re (f:Fn) (a c:List Val):opMakeFn E f a c tm' H=reTm tm' (opMakeFn E f a c tm H):=by
 unfold opMakeFn;split
 · unfold opMakeFunc;split
   · split
     · exact okVH_re _
     · exact okV_re _
   · rfl
 · rfl
theorem opMakeMapO_re (r:Option Operand):opMakeMapO r tm' H=reTm tm' (opMakeMapO r tm H):=by unfold opMakeMapO opMakeMap;split<;>simp [reTm]
theorem opMakeSlice_re (t:Nat) (l c:Val):opMakeSlice E t l c tm' H=reTm tm' (opMakeSlice E t l c tm H):=by
 unfold opMakeSlice;split
 · split
   · split<;>simp [reTm]
   · rfl
 · rfl
theorem opSlice_re (t:Nat) (d:Option TypeDesc) (x:Val) (lo hi mx:Option Val):opSlice E t d x lo hi mx tm' H=reTm tm' (opSlice E t d x lo hi mx tm H):=by unfold opSlice;split<;>first|exact okV_re _|rfl
theorem opMapUpdate_re (t:Nat) (m k v:Val):opMapUpdate E t m k v tm' H=reTm tm' (opMapUpdate E t m k v tm H):=by
 unfold opMapUpdate;split
 · split<;>rfl
 · rfl
theorem opRange_re (d:Option TypeDesc) (x:Val):opRange d x tm' H=reTm tm' (opRange d x tm H):=by unfold opRange;split<;>simp [reTm]
theorem opNextO_re (s:Bool) (x:Val):opNextO s x tm' H=reTm tm' (opNextO s x tm H):=by
 unfold opNextO;split
 · unfold opNext;split
   · split
     · unfold nextIn;split
       · split;simp [reTm]
       · rfl
     · rfl
   · rfl
 · rfl
theorem opExtract_re (x:Val) (i:Nat):opExtract x i tm' H=reTm tm' (opExtract x i tm H):=by unfold opExtract;split<;>first|exact okV_re _|rfl
theorem opPanic_re (x:Val):opPanic x H=reTm tm' (opPanic x H):=by unfold opPanic;split<;>rfl
theorem builtinP_re (b:Builtin) (ts:List Nat) (args:List Val):builtinP E b ts args tm' H=reTm tm' (builtinP E b ts args tm H):=by unfold builtinP;split<;>first|exact okV_re _|exact okVH_re _|rfl
theorem opBuiltin_re (b:Builtin) (ts:List Nat) (args:List Val):opBuiltin E b ts args tm' H=reTm tm' (opBuiltin E b ts args tm H):=by
 unfold opBuiltin;split
 · split<;>first|exact opPanic_re _|rfl
 · exact builtinP_re _ _ _
theorem doCall_re (f:Nat) (args:List Val):doCall E cf f args H tm'=reTm tm' (doCall E cf f args H tm):=by
 unfold doCall;split
 · split
   · unfold doPure;split
     · simp only [fL_eq];split<;>(try split)<;>simp [reTm]
     · rfl
   · unfold doPlain;split
     · split
       · simp [reTm]
       · split<;>simp [reTm]
     · split<;>simp [reTm]
     · rfl
 · rfl
theorem opCallV_re (f:Val) (args:List Val):opCallV E cf f args H tm'=reTm tm' (opCallV E cf f args H tm):=by
 unfold opCallV;split
 · simp only [fL_eq];exact doCall_re _ _
 · rfl
theorem rowAtP_re {p:Val} (hs: ∀s st off,p= .lp s st off→getT tm' s=getT tm s):rowAtP tm' H p=rowAtP tm H p:=by unfold rowAtP;split<;>first|rfl|(rename_i s st off;rw [hs s st off rfl])
theorem loadP_re {t:Nat} {p:Val} (hs: ∀s st off,p= .lp s st off→getT tm' s=getT tm s):loadP E t p tm' H=loadP E t p tm H:=by unfold loadP;rw [rowAtP_re hs]
theorem newLocal_re {d:Nat} (cs:List Val) (hd:getT tm' d=getT tm d):newLocal d cs tm' H=reTm tm' (newLocal d cs tm H):=by unfold newLocal;rw [hd];split<;>exact okV_re _
theorem opAlloc_re {loc:Bool} {d:Option Nat} {el:Nat} {z:Option Val} (hd: ∀d',d=some d'→getT tm' d'=getT tm d'):opAlloc loc d el z tm' H=reTm tm' (opAlloc loc d el z tm H):=by
 unfold opAlloc;split
 · split
   · split
     · exact newLocal_re _ (hd _ rfl)
     · unfold newBox;simp [reTm]
   · rfl
 · rfl
theorem storeH_re (id gen off lim n:Nat) (vs:List Val):storeH id gen off lim n vs tm' H=reTm tm' (storeH id gen off lim n vs tm H):=by
 unfold storeH;split
 · split
   · split<;>simp [reTm]
   · rfl
 · rfl
theorem storeP_re {t:Nat} {p v:Val} (hs:notLp p=true):storeP E t p v tm' H=reTm tm' (storeP E t p v tm H):=by
 unfold storeP;split
 · unfold storeV;split
   · split
     · exact storeH_re _ _ _ _ _ _
     · simp [notLp] at hs
     · rfl
   · rfl
 · rfl
theorem map_congr_arr {xs:Array Operand} (h: ∀x,x∈xs→opd E tm' x=opd E tm x):xs.toList.map (opd E tm')=xs.toList.map (opd E tm):=
 List.map_congr_left fun x hx=>h x (by simpa using hx)
theorem map_congr_pairs {ps:Array (Nat×Operand)} (h: ∀x,x∈ps.map (·.2)→opd E tm' x=opd E tm x):
  (ps.toList.map fun p=>(p.1,opd E tm' p.2))=ps.toList.map fun p=>(p.1,opd E tm p.2):=
 List.map_congr_left fun p hp=>by rw [h p.2 (Array.mem_map.2 ⟨p,by simpa using hp,rfl⟩)]
theorem evalOp_re {o:Oper} (hop: ∀x,x∈o.op.operands→opd E tm' x=opd E tm x) (hd: ∀d,o.dst=some d→getT tm' d=getT tm d)
  (hs: ∀t a s st off,o.op= .load t a→opd E tm a= .lp s st off→getT tm' s=getT tm s) (hst: ∀t a x,o.op= .store t a x→notLp (opd E tm a)=true):
  evalOp E cf fid o tm' H=reTm tm' (evalOp E cf fid o tm H):=by
 unfold evalOp;cases ho:o.op<;>simp only [ho,Op.operands] at hop⊢
 case move x=>rw [hop x (by simp)];exact okV_re _
 case assign x=>rw [hop x (by simp)];exact okV_re _
 case pick c a b=>rw [hop c (by simp),hop a (by simp),hop b (by simp)];exact opPick_re _ _ _
 case alloc el=>exact opAlloc_re hd
 case box t x=>rw [hop x (by simp)];exact opAlloc_re hd
 case build t ps=>rw [map_congr_pairs fun x hx=>hop x (by simpa using hx)];exact okV_re _
 case buildSlice t n ps=>rw [map_congr_pairs fun x hx=>hop x (by simpa using hx)];exact okVH_re _
 case load t a=>rw [hop a (by simp),loadP_re (hs t a · · · ho)];exact okV_re _
 case store t a x=>rw [hop a (by simp),hop x (by simp)];exact storeP_re (hst t a x ho)
 case nilCheck x=>rw [hop x (by simp)];exact opNilCheck_re _
 case binOp b t x y u=>rw [hop x (by simp),hop y (by simp)];exact okV_re _
 case unOp b t x=>rw [hop x (by simp)];exact okV_re _
 case convert s d x=>rw [hop x (by simp)];exact okV_re _
 case makeInterface t x=>rw [hop x (by simp)];exact opMakeIface_re _ _ _
 case makeFunc f a c=>rw [map_congr_arr fun x hx=>hop x (by simp [hx]),map_congr_arr fun x hx=>hop x (by simp [hx])];exact opMakeFn_re _ _ _
 case makeMap t r=>exact opMakeMapO_re _
 case makeSlice t l c=>rw [hop l (by simp),hop c (by simp)];exact opMakeSlice_re _ _ _
 case slice t x lo hi mx=>
  have e: ∀y:Option Operand,(∀z,y=some z→opd E tm' z=opd E tm z)→y.map (opd E tm')=y.map (opd E tm):=by
   intro y hy;cases y with
   |none=>rfl
   |some z=>simp [hy z rfl]
  rw [hop x (by simp),e lo (fun z hz=>hop z (by simp [hz])),e hi (fun z hz=>hop z (by simp [hz])),e mx (fun z hz=>hop z (by simp [hz]))];exact opSlice_re _ _ _ _ _ _
 case fieldAddr s x f=>rw [hop x (by simp)];exact okV_re _
 case field t x f=>rw [hop x (by simp)];exact okV_re _
 case indexAddr t x i=>rw [hop x (by simp),hop i (by simp)];exact okV_re _
 case index t x i=>rw [hop x (by simp),hop i (by simp)];exact okV_re _
 case lookup t m k ok=>rw [hop m (by simp),hop k (by simp)];exact okV_re _
 case mapUpdate t m k v=>rw [hop m (by simp),hop k (by simp),hop v (by simp)];exact opMapUpdate_re _ _ _ _
 case insert t m k v=>rw [hop m (by simp),hop k (by simp),hop v (by simp)];exact opMapUpdate_re _ _ _ _
 case range t x=>rw [hop x (by simp)];exact opRange_re _ _
 case next x s=>rw [hop x (by simp)];exact opNextO_re _ _
 case typeAssert x xt a ok=>rw [hop x (by simp)];exact okV_re _
 case extract x i=>rw [hop x (by simp)];exact opExtract_re _ _
 case panic x=>rw [hop x (by simp)];exact opPanic_re _
 case call c=>
  have h1:c.args.toList.map (opd E tm')=c.args.toList.map (opd E tm):=map_congr_arr fun x hx=>hop x (by simp [Call.operands,hx]);rw [h1];unfold opCall
  cases hc:c.callee with
  |builtin b=>exact opBuiltin_re _ _ _
  | value f=>
    simp only;rw [hop f (by simp [Call.operands,hc])];exact opCallV_re _ _
  |invoke r m=>rfl
 all_goals rfl
end
end Go.PV
