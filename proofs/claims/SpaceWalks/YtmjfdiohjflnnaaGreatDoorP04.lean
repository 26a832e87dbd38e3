/- A part of the proof: PvK2, PvK3, PvSl, PvZ1, PvZ2, PvZ3, PvZ4, PvZ5, PvZ6, PvZ7, GM, GM2, PvP, PvP4, GT, GT2, PvP2, PvRd, PvRd2, PvRd3, GT3. -/
import Derived.Attr
import GoSem.ClaimJoined
import Derived.Test.YtmjfdiohjflnnaaGreatDoorP00
import Derived.Test.YtmjfdiohjflnnaaGreatDoorP03
set_option linter.all false
namespace Go.PV
noncomputable section
variable {R:Type} (E:Env) (okDraw:DrawT) (fid d n:Nat) (gt:BT (Get d)) (st:BT (Set d))
def kSk (o:Oper) (k:Option (Set d)→R) (e:R):R:=match o.dst with
 |none=>k none
 | some i=>match Nat.blt i n&& !E.loc fid i with
   |true=>kSt d st i fun s=>k (some s)
   |false=>e
def kGuard (ops:Array Oper) (j:Nat) (k:Get d→R) (e:R):R:=match ops[j]? with
 | some o=>match o.dst with
   | some i=>match Nat.blt i n with
     |true=>kGt d gt i k
     |false=>e
   |none=>e
 |none=>e
def kOps (ops:Array Oper):List Oper→Option (FC d)
 | []=>some .nil
 | o ::os=>match isDefer o with
   |true=>none
   | false=>match kOps ops os with
     |none=>none
     | some nx=>match o.guard with
       |none=>kJ E fid d n gt st o fun fi=>some (.op fi nx)
       |some (j,w)=>kGuard d n gt ops j (fun g=>kSk E fid d n st o (fun sk=>kJ E fid d n gt st o fun fi=>some (.gop g w sk fi nx)) none) none
def kGo (l:Option Operand) (k:Option (Get d)→R):R:=match l with
 |some x=>kG E fid d gt x fun g=>k (some g)
 |none=>k none
def kChk (o:Oper) (a:Ann) (k:(FrT d→Bool)→R) (e:R):R:=match a with
 | .plain=>match o.op with
   | .slice t x l h m=>match opOK E n x&&((l.toList++(h.toList++m.toList)).all (opOK E n)) with
     |true=>kG E fid d gt x fun g=>kGo E fid d gt l fun gl=>kGo E fid d gt h fun gh=>kGo E fid d gt m fun gm=>
      k fun F=>(sliceP E t (g F) (gl.map fun g=>g F) (gh.map fun g=>g F) (gm.map fun g=>g F)).isSome
     |false=>e
   |_=>k fun _=>true
 | .frz=>match o.op with
   | .call c=>match c.callee with
     | .value f=>match opOK E n f&&c.args.toList.all (opOK E n) with
       |true=>kG E fid d gt f fun g=>kGs E fid d gt c.args.toList fun gs=>k fun F=>frzFn E (g F) (gs.map fun g=>g F)
       |false=>e
     |_=>e
   | .buildSlice _ _ ps=>match (ps.toList.map (·.2)).all (opOK E n) with
     |true=>kGs E fid d gt (ps.toList.map (·.2)) fun gs=>k fun F=>(gs.map fun g=>g F).all (frzV depthP)
     |false=>e
   | .makeFunc f a c=>match a.toList.all (opOK E n)&&c.toList.all (opOK E n) with
     |true=>kGs E fid d gt a.toList fun ga=>kGs E fid d gt c.toList fun gc=>k fun F=>frzV depthP (.fn f (ga.map fun g=>g F) (gc.map fun g=>g F))
     |false=>e
   |_=>e
 | .loc s=>match o.op with
   | .load _ x=>match opOK E n x with
     |true=>kG E fid d gt x fun g=>k fun F=>isLp s (g F)
     |false=>e
   | .store _ x _=>match opOK E n x with
     |true=>kG E fid d gt x fun g=>k fun F=>isLp s (g F)
     |false=>e
   |_=>e
 | .heap=>match o.op with
   | .load _ x=>match opOK E n x with
     |true=>kG E fid d gt x fun g=>k fun F=>notLp (g F)
     |false=>e
   | .store _ x _=>match opOK E n x with
     |true=>kG E fid d gt x fun g=>k fun F=>notLp (g F)
     |false=>e
   |_=>k fun _=>true
 | .rd1 _=>match o.op with
   | .load _ x=>match opOK E n x with
     |true=>kG E fid d gt x fun g=>k fun F=>notLp (g F)
     |false=>e
   |_=>e
 | .read _=>e
def kOpsD (ops:Array Oper):List Oper→List Ann→Option (FC d)
 | [],_=>some .nil
 | o::os,a::as=>match kOpsD ops os as with
   |none=>none
   |some nx=>kChk E fid d n gt o a (fun c=>match o.guard with
    |none=>kJ E fid d n gt st o fun fi=>some (.cop c fi nx)
    |some (j,w)=>kGuard d n gt ops j (fun g=>kSk E fid d n st o (fun sk=>kJ E fid d n gt st o fun fi=>some (.gcop g w sk c fi nx)) none) none) none
 |_::_,[]=>none
def kRegD (id:Nat) (ops:Array Oper):Option (FC d):=match okDraw fid id with
 | some di=>match di.rs with
   | []=>kOpsD E fid d n gt st ops ops.toList di.anns
   |_::_=>none
 |none=>none
def kCode:Code→FC d
 | .skip=> .nil
 | .region id ops draw=>match draw with
   |false=>orSlow d (kOps E fid d n gt st ops ops.toList) (.region id ops false)
   |true=>orSlow d (kRegD E okDraw fid d n gt st id ops) (.region id ops true)
 | .seq a b=> .seq (kCode a) (kCode b)
 | .cond c a b=>match opOK E n c with
   |true=>kG E fid d gt c fun g=> .cond g (kCode a) (kCode b)
   |false=> .slow (.cond c a b)
 | .block id a=> .block id (kCode a)
 | .loop a=> .loop (kCode a)
 | .exit id=> .exit id
 | .label _=> .nil
 | .ret=> .ret
 |c=> .slow c
def kRV (r:ResultVar) (k:FRV d→R) (e:R):R:=match r with
 | .tmp t=>match Nat.blt t n with
   |true=>kGt d gt t fun g=>k (.tmp g)
   |false=>e
 | .cell a t=>match opOK E n (.tmp a) with
   | true=>match sizeT E t,und E t with
     |some m,some dd=>kG E fid d gt (.tmp a) fun g=>k (.cell g m (isAggD dd))
     |_,_=>e
   |false=>e
def kRVs:List ResultVar→Option (List (FRV d))
 | []=>some []
 | r::rs=>match kRVs rs with
   |some xs=>kRV E fid d n gt r (fun x=>some (x::xs)) none
   |none=>none
theorem kSk_eq (o:Oper) (k:Option (Set d)→R) (e:R):kSk E fid d n st o k e=(match cSk E fid d n (tabsOf d gt st) o with|some s=>k s|none=>e):=by
 unfold kSk cSk
 cases o.dst with
 |none=>rfl
 |some i=>simp only;cases Nat.blt i n&& !E.loc fid i<;>simp only [kSt_eq d gt st]
theorem kGuard_eq (ops:Array Oper) (j:Nat) (k:Get d→R) (e:R):kGuard d n gt ops j k e=(match cGuard d n (tabsOf d gt st) ops j with|some s=>k s|none=>e):=by
 unfold kGuard cGuard
 cases ops[j]? with
 |none=>rfl
 | some o=>
   simp only
   cases o.dst with
   |none=>rfl
   |some i=>simp only;cases Nat.blt i n<;>simp only [kGt_eq d gt st]
theorem kOps_eq (ops:Array Oper): ∀os,kOps E fid d n gt st ops os=cOps E fid d n (tabsOf d gt st) ops os
 | []=>rfl
 | o ::os=>by
   simp only [kOps,cOps,kOps_eq ops os]
   cases isDefer o with
   |true=>rfl
   | false=>
     simp only
     cases cOps E fid d n (tabsOf d gt st) ops os with
     |none=>rfl
     | some nx=>
       simp only
       cases o.guard with
       |none=>simp only [kJ_eq]
       | some jw=>
         obtain ⟨j,w⟩:=jw;simp only [kGuard_eq d n gt st,kSk_eq E fid d n gt st,kJ_eq]
         cases cGuard d n (tabsOf d gt st) ops j with
         |none=>rfl
         |some g=>simp only;cases cSk E fid d n (tabsOf d gt st) o<;>rfl
theorem kGo_eq (l:Option Operand) (k:Option (Get d)→R):kGo E fid d gt l k=k (l.map (cG E fid d (tabsOf d gt st))):=by unfold kGo;cases l<;>simp only [kG_eq E fid d gt st,Option.map_some,Option.map_none]
theorem kChk_eq (o:Oper) (a:Ann) (k:(FrT d→Bool)→R) (e:R):kChk E fid d n gt o a k e=(match cChk E fid d n (tabsOf d gt st) o a with|some c=>k c|none=>e):=by
 unfold kChk cChk
 cases a with
 | plain=>
   simp only;cases o.op<;>try rfl
   rename_i t x l h m;simp only
   cases opOK E n x&&((l.toList++(h.toList++m.toList)).all (opOK E n)) with
   |false=>rfl
   |true=>simp only [kG_eq E fid d gt st,kGo_eq E fid d gt st,Option.map_map];rfl
 | frz=>
   simp only;cases o.op<;>try rfl
   · rename_i t len ps;simp only
     cases (ps.toList.map (·.2)).all (opOK E n) with
     |false=>rfl
     |true=>simp only [kGs_eq E fid d gt st]
   · rename_i f a c;simp only
     cases a.toList.all (opOK E n)&&c.toList.all (opOK E n) with
     |false=>rfl
     |true=>simp only [kGs_eq E fid d gt st]
   · rename_i c;simp only;cases c.callee<;>try rfl
     rename_i f;simp only
     cases opOK E n f&&c.args.toList.all (opOK E n) with
     |false=>rfl
     |true=>simp only [kG_eq E fid d gt st,kGs_eq E fid d gt st]
 | loc s=>
   simp only;cases o.op<;>try rfl
   · rename_i t x;simp only;cases opOK E n x<;>simp only [kG_eq E fid d gt st]
   · rename_i t x y;simp only;cases opOK E n x<;>simp only [kG_eq E fid d gt st]
 | heap=>
   simp only;cases o.op<;>try rfl
   · rename_i t x;simp only;cases opOK E n x<;>simp only [kG_eq E fid d gt st]
   · rename_i t x y;simp only;cases opOK E n x<;>simp only [kG_eq E fid d gt st]
 | rd1 q=>
   simp only;cases o.op<;>try rfl
   rename_i t x;simp only;cases opOK E n x<;>simp only [kG_eq E fid d gt st]
 |read ks=>rfl
theorem kOpsD_eq (ops:Array Oper): ∀os as,kOpsD E fid d n gt st ops os as=cOpsD E fid d n (tabsOf d gt st) ops os as
 | [],as=>by simp only [kOpsD,cOpsD]
 |o::os,[]=>by simp only [kOpsD,cOpsD]
 | o ::os,a::as=>by
   simp only [kOpsD,cOpsD,kOpsD_eq ops os as]
   cases cOpsD E fid d n (tabsOf d gt st) ops os as with
   |none=>rfl
   | some nx=>
     simp only [kChk_eq E fid d n gt st]
     cases cChk E fid d n (tabsOf d gt st) o a with
     |none=>rfl
     | some c=>
       simp only
       cases o.guard with
       |none=>simp only [kJ_eq]
       | some jw=>
         obtain ⟨j,w⟩:=jw;simp only [kGuard_eq d n gt st,kSk_eq E fid d n gt st,kJ_eq]
         cases cGuard d n (tabsOf d gt st) ops j with
         |none=>rfl
         |some g=>simp only;cases cSk E fid d n (tabsOf d gt st) o<;>rfl
theorem kCode_eq: ∀c,kCode E okDraw fid d n gt st c=cCode E okDraw fid d n (tabsOf d gt st) c:=by
 intro c
 induction c with
 | region id ops draw=>
   cases draw with
   |false=>simp only [kCode,cCode,kOps_eq]
   |true=>simp only [kCode,cCode,kRegD,cRegD,kOpsD_eq];rfl
 |seq a b iha ihb=>simp only [kCode,cCode,iha,ihb]
 | cond c a b iha ihb=>
   simp only [kCode,cCode,iha,ihb];cases opOK E n c<;>simp only [kG_eq E fid d gt st]
 |block id a ih=>simp only [kCode,cCode,ih]
 |loop a ih=>simp only [kCode,cCode,ih]
 |_=>rfl
theorem kRV_eq (r:ResultVar) (k:FRV d→R) (e:R):kRV E fid d n gt r k e=(match cRV E fid d n (tabsOf d gt st) r with|some c=>k c|none=>e):=by
 unfold kRV cRV
 cases r with
 |tmp t=>simp only;cases Nat.blt t n<;>simp only [kGt_eq d gt st]
 | cell a t=>
   simp only
   cases opOK E n (.tmp a) with
   |false=>rfl
   |true=>simp only;cases sizeT E t<;>cases und E t<;>simp only [kG_eq E fid d gt st]
theorem kRVs_eq: ∀rs,kRVs E fid d n gt rs=cRVs E fid d n (tabsOf d gt st) rs
 | []=>rfl
 |r::rs=>by simp only [kRVs,cRVs,kRVs_eq rs,kRV_eq E fid d n gt st];cases cRVs E fid d n (tabsOf d gt st) rs<;>cases cRV E fid d n (tabsOf d gt st) r<;>rfl
def kC (fn:Func):FC d:=match fn.body with
 |some c=>kCode E okDraw fid d n gt st c
 |none=> .nil
def kR (fn:Func):List (FRV d):=match kRVs E fid d n gt fn.results.toList with
 |some rs=>rs
 |none=> []
def kOKB (fn:Func):Bool:=match fn.body,kRVs E fid d n gt fn.results.toList with
 |some _,some _=>Nat.beq n fn.ntmps&&Nat.ble n (8^d)
 |_,_=>false
theorem kC_ok (fn:Func) (h:kOKB E fid d n gt fn=true):n=fn.ntmps∧n≤8^d∧cFun E okDraw fid d (tabsOf d gt st) fn=some (kC E okDraw fid d n gt st fn,kR E fid d n gt fn):=by
 unfold kOKB at h;split at h
 · rename_i c rs hb hr;simp only [Bool.and_eq_true] at h;have e:=Nat.eq_of_beq_eq_true h.1;refine ⟨e,Nat.le_of_ble_eq_true h.2,?_⟩;subst e;have hr':=hr;rw [kRVs_eq E fid d fn.ntmps gt st] at hr';simp only [cFun,kC,kR,hb,hr,hr',kCode_eq]
 · cases h
def kX (fn:Func):FX:= .ff ⟨d,n,kC E okDraw fid d n gt st fn,kR E fid d n gt fn⟩ fn
theorem kX_ok {P:Program} (hg:BT.allIn (gOK d) 0 (8^d) gt) (hs:BT.allIn (sOK d) 0 (8^d) st) (fn:Func) (hp:E.prim fid=none) (hf:E.fns fid=some fn) (h:kOKB E fid d n gt fn=true):
  fxOK E P okDraw fid (kX E okDraw fid d n gt st fn):=by
 obtain ⟨h1,h2,h3⟩:=kC_ok E okDraw fid d n gt st fn h;exact ⟨hp,hf,h1,tabsOf d gt st,tabsOf_ok hg hs h2,h3⟩
end
def bitsL:Nat→Nat→List Nat
 |0,_=> []
 |n+1,m=>if m%2=1 then (bitsL n (m/2)).map (· +1)|>.cons 0 else (bitsL n (m/2)).map (· +1)
def annOf (c:Nat):Ann:=match c%8 with
 |0=> .plain
 |1=> .frz
 |2=> .heap
 |3=> .loc (c/8)
 |4=> .rd1 (c/8)
 |5=> .read (bitsL 64 (c/8))
 |_=> .plain
def rsOf (c:Nat):Option Nat:=match c%8 with
 |6=>some (c/8)
 |_=>none
def insN (x:Nat) (l:List Nat):List Nat:=match memN x l with
 |true=>l
 |false=>x::l
def predsGo:List Oper→List (List Nat)→List (List Nat)
 | [],acc=>acc.reverse
 | o::os,acc=>predsGo os ((o.after.toList.foldl (fun l e=>match Region.binds .any e with
   |true=>((acc.reverse[e.on]?).getD []).foldl (fun l x=>insN x l) (insN e.on l)
   |false=>l) [])::acc)
def rowsOf (f:Oper→Ann→List Nat):List Oper→List Ann→List (List Nat)
 |o::os,a::as=>f o a::rowsOf f os as
 |_,_=> []
def mkDI (ops:Array Oper) (m:Nat) (cs:List Nat):DI:=
 ⟨cs.map annOf,predsGo ops.toList [],rowsOf (Rl ops) ops.toList (cs.map annOf),rowsOf Wl ops.toList (cs.map annOf),(match m with|0=> []|_=>cs.map rsOf),m⟩
def opsAt (fn:Func) (id:Nat):Array Oper:=match regAt fn id with
 | .region _ ops _=>ops
 |_=> #[]
def findR (id:Nat):List (Nat×Nat×List Nat)→Option (Nat×List Nat)
 | []=>none
 | (i,p)::l=>match Nat.beq i id with
   |true=>some p
   |false=>findR id l
noncomputable def okdOf (fns:Nat→Option Func) (t:BT (List (Nat×Nat×List Nat))):DrawT:=fun f id=>match t.get f with
 | some l=>match findR id l with
   | some (m,cs)=>match fns f with
     |some fn=>some (mkDI (opsAt fn id) m cs)
     |none=>none
   |none=>none
 |none=>none
abbrev SetA (A R:Type):=Val→A→(A→R)→R
section
variable {A R:Type} (s:SetA A R) (v:Val) (F:O8 A) (k:O8 A→R)
noncomputable def q0:R:=O8.rec (fun a b c d e f g h=>s v a fun y=>k ⟨y,b,c,d,e,f,g,h⟩) F
noncomputable def q1:R:=O8.rec (fun a b c d e f g h=>s v b fun y=>k ⟨a,y,c,d,e,f,g,h⟩) F
noncomputable def q2:R:=O8.rec (fun a b c d e f g h=>s v c fun y=>k ⟨a,b,y,d,e,f,g,h⟩) F
noncomputable def q3:R:=O8.rec (fun a b c d e f g h=>s v d fun y=>k ⟨a,b,c,y,e,f,g,h⟩) F
noncomputable def q4:R:=O8.rec (fun a b c d e f g h=>s v e fun y=>k ⟨a,b,c,d,y,f,g,h⟩) F
noncomputable def q5:R:=O8.rec (fun a b c d e f g h=>s v f fun y=>k ⟨a,b,c,d,e,y,g,h⟩) F
noncomputable def q6:R:=O8.rec (fun a b c d e f g h=>s v g fun y=>k ⟨a,b,c,d,e,f,y,h⟩) F
noncomputable def q7:R:=O8.rec (fun a b c d e f g h=>s v h fun y=>k ⟨a,b,c,d,e,f,g,y⟩) F
end
def tq8 {α:Type} (lo w:Nat) (f:Nat→Nat→BT α):BT α:=
 .node (lo+4*w) (.node (lo+2*w) (.node (lo+1*w) (f 0 (lo+0*w)) (f 1 (lo+1*w))) (.node (lo+3*w) (f 2 (lo+2*w)) (f 3 (lo+3*w))))
  (.node (lo+6*w) (.node (lo+5*w) (f 4 (lo+4*w)) (f 5 (lo+5*w))) (.node (lo+7*w) (f 6 (lo+6*w)) (f 7 (lo+7*w))))
theorem tq8_ok {α:Type} {p:Nat→α→Prop} {lo w:Nat} {f:Nat→Nat→BT α} (h: ∀c,c<8→BT.allIn p (lo+c*w) (lo+(c+1)*w) (f c (lo+c*w))):BT.allIn p lo (lo+8*w) (tq8 lo w f):=by have h0:=h 0 (by omega);rw [show lo+0*w=lo by omega] at h0;refine ⟨⟨⟨?_,h 1 (by omega)⟩,h 2 (by omega),h 3 (by omega)⟩,⟨h 4 (by omega),h 5 (by omega)⟩,h 6 (by omega),h 7 (by omega)⟩;rw [show lo+0*w=lo by omega];exact h0
noncomputable def o8G {A:Type} (c:Nat):O8 A→A:=match c with
 |0=>O8.a0
 |1=>O8.a1
 |2=>O8.a2
 |3=>O8.a3
 |4=>O8.a4
 |5=>O8.a5
 |6=>O8.a6
 |_=>O8.a7
noncomputable def o8S {A R:Type} (c:Nat):SetA A R→SetA (O8 A) R:=match c with
 |0=>q0
 |1=>q1
 |2=>q2
 |3=>q3
 |4=>q4
 |5=>q5
 |6=>q6
 |_=>q7
noncomputable def tq8G {α A:Type} (lo w:Nat) (f:(O8 A→A)→Nat→BT α):BT α:=
 .node (lo+4*w) (.node (lo+2*w) (.node (lo+1*w) (f O8.a0 (lo+0*w)) (f O8.a1 (lo+1*w))) (.node (lo+3*w) (f O8.a2 (lo+2*w)) (f O8.a3 (lo+3*w))))
  (.node (lo+6*w) (.node (lo+5*w) (f O8.a4 (lo+4*w)) (f O8.a5 (lo+5*w))) (.node (lo+7*w) (f O8.a6 (lo+6*w)) (f O8.a7 (lo+7*w))))
noncomputable def tq8S {α A R:Type} (lo w:Nat) (f:(SetA A R→SetA (O8 A) R)→Nat→BT α):BT α:=
 .node (lo+4*w) (.node (lo+2*w) (.node (lo+1*w) (f q0 (lo+0*w)) (f q1 (lo+1*w))) (.node (lo+3*w) (f q2 (lo+2*w)) (f q3 (lo+3*w))))
  (.node (lo+6*w) (.node (lo+5*w) (f q4 (lo+4*w)) (f q5 (lo+5*w))) (.node (lo+7*w) (f q6 (lo+6*w)) (f q7 (lo+7*w))))
noncomputable def tG:(d:Nat)→ {B:Type}→((FrT d→Val)→B→Val)→Nat→BT (B→Val)
 |0,_,wr,_=> .leaf (some (wr fun F=>F))
 |d+1,_,wr,lo=>tq8G (A:=FrT d) lo (8^d) fun c lo=>tG d (fun g=>wr fun F=>g (c F)) lo
noncomputable def tS (R:Type):(d:Nat)→ {B:Type}→(SetA (FrT d) R→SetA B R)→Nat→BT (SetA B R)
 |0,_,wr,_=> .leaf (some (wr fun v _ k=>k v))
 |d+1,_,wr,lo=>tq8S (A:=FrT d) (R:=R) lo (8^d) fun c lo=>tS R d (fun s=>wr (c s)) lo
theorem divmod8 {d c i:Nat} (hi:i<8^d):(c*8^d+i)/8^d=c∧(c*8^d+i)%8^d=i:=by have h:0<8^d:=Nat.pow_pos (by omega);rw [Nat.mul_comm,Nat.mul_add_div h,Nat.mul_add_mod,Nat.div_eq_of_lt hi,Nat.mod_eq_of_lt hi];exact ⟨rfl,rfl⟩
theorem lt8 {d c i:Nat} (hc:c<8) (hi:i<8^d):c*8^d+i<8^(d+1):=by have:c*8^d≤7*8^d:=Nat.mul_le_mul_right _ (by omega);rw [Nat.pow_succ];omega
theorem o8G_eq {A:Type} (F:O8 A) {c:Nat} (hc:c<8):o8G c F=O8.get F c:=by
 match c,hc with
 |0,_=>rfl
 |1,_=>rfl
 |2,_=>rfl
 |3,_=>rfl
 |4,_=>rfl
 |5,_=>rfl
 |6,_=>rfl
 |7,_=>rfl
theorem o8S_eq {A R:Type} (s:SetA A R) (v:Val) (F:O8 A) (k:O8 A→R) (f:A→A) (hs: ∀F k,s v F k=k (f F)) {c:Nat} (hc:c<8):o8S c s v F k=k (O8.set F c (f (O8.get F c))):=by
 match c,hc with
 |0,_=>exact hs ..
 |1,_=>exact hs ..
 |2,_=>exact hs ..
 |3,_=>exact hs ..
 |4,_=>exact hs ..
 |5,_=>exact hs ..
 |6,_=>exact hs ..
 |7,_=>exact hs ..
theorem tG_ok: ∀(d:Nat) {B:Type} (wr:(FrT d→Val)→B→Val) (lo:Nat) (p:Nat→(B→Val)→Prop),(∀i g,i<8^d→(∀F,g F=gP d i F)→p (lo+i) (wr g))→BT.allIn p lo (lo+8^d) (tG d wr lo)
 |0,B,wr,lo,p,h=>at1 (h 0 _ (by simp) fun _=>rfl)
 |d+1,B,wr,lo,p,h=>by rw [show lo+8^(d+1)=lo+8*8^d by rw [Nat.pow_succ];omega];refine tq8_ok (f:=fun c lo=>tG d (fun g=>wr fun (F:O8 (FrT d))=>g (o8G c F)) lo) fun c hc=> ?_;rw [show lo+(c+1)*8^d=lo+c*8^d+8^d by rw [Nat.add_mul];omega];refine tG_ok d _ _ _ fun i g hi hg=> ?_;rw [show lo+c*8^d+i=lo+(c*8^d+i) by omega];refine h _ _ (lt8 hc hi) fun F=> ?_;obtain ⟨e1,e2⟩:=divmod8 (c:=c) hi;show g (o8G c F)=gP d ((c*8^d+i)%8^d) (O8.get F ((c*8^d+i)/8^d));rw [e1,e2,hg,o8G_eq F hc]
theorem tS_ok (R:Type): ∀(d:Nat) {B:Type} (wr:SetA (FrT d) R→SetA B R) (lo:Nat) (p:Nat→SetA B R→Prop),(∀i s,i<8^d→(∀v F k,s v F k=k (sP d i v F))→p (lo+i) (wr s))→BT.allIn p lo (lo+8^d) (tS R d wr lo)
 |0,B,wr,lo,p,h=>at1 (h 0 _ (by simp) fun _ _ _=>rfl)
 |d+1,B,wr,lo,p,h=>by rw [show lo+8^(d+1)=lo+8*8^d by rw [Nat.pow_succ];omega];refine tq8_ok (f:=fun c lo=>tS R d (fun s=>wr (o8S (A:=FrT d) c s)) lo) fun c hc=> ?_;rw [show lo+(c+1)*8^d=lo+c*8^d+8^d by rw [Nat.add_mul];omega];refine tS_ok R d _ _ _ fun i s hi hs=> ?_;rw [show lo+c*8^d+i=lo+(c*8^d+i) by omega];refine h _ _ (lt8 hc hi) fun v F k=> ?_;obtain ⟨e1,e2⟩:=divmod8 (c:=c) hi;show o8S c s v F k=k (O8.set F ((c*8^d+i)/8^d) (sP d ((c*8^d+i)%8^d) v (O8.get F ((c*8^d+i)/8^d))));rw [e1,e2];exact o8S_eq s v F k (sP d i v) (fun F k=>hs v F k) hc
noncomputable def gtabD (d:Nat):BT (Get d):=tG d (fun g=>g) 0
noncomputable def stabD (d:Nat):BT (Set d):=tS (MRes d) d (fun s=>s) 0
theorem gtabD_ok (d:Nat):BT.allIn (gOK d) 0 (8^d) (gtabD d):=by
 have:=tG_ok d (fun g=>g) 0 (gOK d) fun i g _ h=>by rw [Nat.zero_add];exact h
 rwa [Nat.zero_add] at this
theorem stabD_ok (d:Nat):BT.allIn (sOK d) 0 (8^d) (stabD d):=by
 have:=tS_ok (MRes d) d (fun s=>s) 0 (sOK d) fun i s _ h=>by rw [Nat.zero_add];exact h
 rwa [Nat.zero_add] at this
abbrev o {α:Type} (x:α):Option α:=some x
noncomputable def BT.ofL {α:Type}:Nat→Nat→List (Option α)→BT α
 |0,_,l=> .leaf (match l with|x::_=>x| []=>none)
 |d+1,lo,l=> .node (lo+2^d) (BT.ofL d lo l) (BT.ofL d (lo+2^d) (l.drop (2^d)))
attribute [go_sem] Nat.reduceEqDiff Nat.reduceLT Nat.reduceAdd Nat.reduceLeDiff Nat.le_refl Nat.zero_le Bool.false_eq_true
abbrev DS:=List (Nat×List Val)
abbrev KT:=List Val→Hp→CRes
structure Tok {α:Type} (a:α):Type
def seqC (r:CRes) (k:List Val→Hp→DS→CRes) (_:Tok k):CRes:=match r with
 | .normal tm H ds=>k tm H ds
 |r=>r
@[go_sem] theorem seqC_normal (tm H ds k u):seqC (.normal tm H ds) k u=k tm H ds:=rfl
@[go_sem] theorem seqC_exit (i tm H ds k u):seqC (.exit i tm H ds) k u= .exit i tm H ds:=rfl
@[go_sem] theorem seqC_ret (tm H ds k u):seqC (.ret tm H ds) k u= .ret tm H ds:=rfl
@[go_sem] theorem seqC_pan (v tm H ds k u):seqC (.pan v tm H ds) k u= .pan v tm H ds:=rfl
@[go_sem] theorem seqC_fail (k u):seqC .fail k u= .fail:=rfl
def ifC (b:Bool) (x y:Unit→CRes) (_:Tok x) (_:Tok y):CRes:=match b with
 |true=>x ()
 |false=>y ()
@[go_sem] theorem ifC_true (x y u w):ifC true x y u w=x ():=rfl
@[go_sem] theorem ifC_false (x y u w):ifC false x y u w=y ():=rfl
def condC (v:Val) (x y:Unit→CRes) (_:Tok x) (_:Tok y):CRes:=match v with
 | .bool true=>x ()
 | .bool false=>y ()
 |_=> .fail
@[go_sem] theorem condC_bool (b x y u w):condC (.bool b) x y u w=ifC b x y u w:=by cases b<;>rfl
def blkC (i:Nat) (r:CRes):CRes:=match r with
 | .exit i' tm H ds=>if i'=i then .normal tm H ds else .exit i' tm H ds
 |r=>r
@[go_sem] theorem blkC_normal (i tm H ds):blkC i (.normal tm H ds)= .normal tm H ds:=rfl
@[go_sem] theorem blkC_exit (i i' tm H ds):blkC i (.exit i' tm H ds)=if i'=i then .normal tm H ds else .exit i' tm H ds:=rfl
@[go_sem] theorem blkC_ret (i tm H ds):blkC i (.ret tm H ds)= .ret tm H ds:=rfl
@[go_sem] theorem blkC_pan (i v tm H ds):blkC i (.pan v tm H ds)= .pan v tm H ds:=rfl
@[go_sem] theorem blkC_fail (i):blkC i .fail= .fail:=rfl
section
variable (E:Env) (cf:CallF) (okD:DrawT) (lf fid:Nat)
def nxtC (dst:Option Nat) (tm0:List Val) (r:ORes) (ds:DS) (k:KT) (_:Tok k):CRes:=match r with
 | .ok v tm H=>match putR E fid dst v tm with
   |some tm=>k tm H
   |none=> .fail
 | .pan v H=> .pan v tm0 H ds
 | .fail=> .fail
def setC (dst:Option Nat) (v:Val) (tm:List Val) (k:List Val→CRes) (_:Tok k):CRes:=match putR E fid dst v tm with
    |some tm=>k tm
    |none=> .fail
end
@[go_sem] theorem nxtC_ok (E fid dst tm0 v tm H ds k u):nxtC E fid dst tm0 (.ok v tm H) ds k u=setC E fid dst v tm (fun tm=>k tm H) ⟨⟩:=rfl
@[go_sem] theorem setC_none (E fid v tm k u):setC E fid none v tm k u=k tm:=rfl
@[go_sem] theorem setC_some (E:Env) (fid d v tm k u):setC E fid (some d) v tm k u=ifC (locSafe (E.loc fid d) v) (fun _=>k (setT tm d v)) (fun _=> .fail) ⟨⟩ ⟨⟩:=by unfold setC putR;cases h:locSafe (E.loc fid d) v<;>simp only [ifC,h,fL_eq]
def wantC (w:Option Bool) (x y:Unit→CRes) (_:Tok x) (_:Tok y):CRes:=match w with
 |some true=>x ()
 |some false=>y ()
 |none=> .fail
@[go_sem] theorem wantC_some (b x y u w):wantC (some b) x y u w=ifC b x y u w:=by cases b<;>rfl
@[reducible] def isDef:Op→Bool
 | .defer _=>true
 |_=>false
section
variable (E:Env) (cf:CallF) (okD:DrawT) (lf fid:Nat)
@[go_sem ↓] theorem evalOps_nil (ops tm H ds):evalOps E cf fid ops [] tm H ds= .normal tm H ds:=rfl
theorem evalOps_cons (ops:Array Oper) (o:Oper) (rest tm H ds) (hd:isDef o.op=false):
  evalOps E cf fid ops (o::rest) tm H ds=wantC (wantedP ops tm o) (fun _=>nxtC E fid o.dst tm (evalOp E cf fid o tm H) ds (fun tm H=>evalOps E cf fid ops rest tm H ds) ⟨⟩)
   (fun _=>setC E fid o.dst (.tup []) tm (fun tm=>evalOps E cf fid ops rest tm H ds) ⟨⟩) ⟨⟩ ⟨⟩:=by
 rw [evalOps];unfold wantC nxtC setC
 cases wantedP ops tm o with
 |none=>rfl
 | some b=>cases b with
   |false=>rfl
   | true=>
     simp only [];split
     · next h=>simp [isDef,h] at hd
     · rfl
@[go_sem ↓] theorem evalOps_some (ops:Array Oper) (dst op ty pos after j w rest tm H ds) (hd:isDef op=false):
 evalOps E cf fid ops (⟨dst,op,ty,pos,after,some (j,w)⟩::rest) tm H ds=
  wantC (wantedP ops tm ⟨dst,op,ty,pos,after,some (j,w)⟩) (fun _=>nxtC E fid dst tm (evalOp E cf fid ⟨dst,op,ty,pos,after,some (j,w)⟩ tm H) ds (fun tm H=>evalOps E cf fid ops rest tm H ds) ⟨⟩)
  (fun _=>setC E fid dst (.tup []) tm (fun tm=>evalOps E cf fid ops rest tm H ds) ⟨⟩) ⟨⟩ ⟨⟩:=evalOps_cons E cf fid ops ⟨dst,op,ty,pos,after,some (j,w)⟩ rest tm H ds hd
@[go_sem ↓] theorem evalOps_none (ops:Array Oper) (dst op ty pos after rest tm H ds) (hd:isDef op=false):
  evalOps E cf fid ops (⟨dst,op,ty,pos,after,none⟩::rest) tm H ds=
   nxtC E fid dst tm (evalOp E cf fid ⟨dst,op,ty,pos,after,none⟩ tm H) ds (fun tm H=>evalOps E cf fid ops rest tm H ds) ⟨⟩:=by
 rw [evalOps_cons E cf fid ops _ rest tm H ds hd];rfl
def dstAt (ops:List Oper) (j:Nat):Option Nat:=match ops[j]? with
 |some o=>o.dst
 |none=>none
theorem dstAt_zero (dst op ty pos after g l):dstAt (⟨dst,op,ty,pos,after,g⟩::l) 0=dst:=rfl
theorem dstAt_succ (o l j):dstAt (o::l) (j+1)=dstAt l j:=rfl
def guardO (tm:List Val) (w:Bool):Option Nat→Option Bool
 |some d=>guardV (getT tm d) w
 |none=>some false
@[go_sem ↓] theorem wantedP_some (ops:List Oper) (dst op ty pos after j w tm):wantedP ops.toArray tm ⟨dst,op,ty,pos,after,some (j,w)⟩=guardO tm w (dstAt ops j):=by
 simp only [wantedP,dstAt,List.getElem?_toArray]
 cases ops[j]? with
 |none=>rfl
 |some o=>rfl
attribute [go_sem] dstAt_zero dstAt_succ guardO
@[go_sem] theorem guardV_bool (b w):guardV (.bool b) w=some (b==w):=rfl
@[go_sem] theorem guardV_tup (l w):guardV (.tup l) w=some false:=rfl
@[go_sem ↓] theorem ec_skip (tm H ds):evalCode E cf okD lf fid .skip tm H ds= .normal tm H ds:=by simp only [evalCode]
@[go_sem ↓] theorem ec_region (id) (ops:List Oper) (tm H ds):evalCode E cf okD lf fid (.region id ops.toArray false) tm H ds=evalOps E cf fid ops.toArray ops tm H ds:=by simp only [evalCode]
@[go_sem ↓] theorem ec_drawn (id ops tm H ds):evalCode E cf okD lf fid (.region id ops true) tm H ds=goDrawn E cf fid ops (okD fid id) tm H ds:=by simp only [evalCode]
@[go_sem ↓] theorem ec_seq (a b tm H ds):evalCode E cf okD lf fid (.seq a b) tm H ds=seqC (evalCode E cf okD lf fid a tm H ds) (fun tm H ds=>evalCode E cf okD lf fid b tm H ds) ⟨⟩:=by simp only [evalCode,seqC];cases evalCode E cf okD lf fid a tm H ds<;>rfl
@[go_sem ↓] theorem ec_cond (c a b tm H ds):evalCode E cf okD lf fid (.cond c a b) tm H ds=condC (opd E tm c) (fun _=>evalCode E cf okD lf fid a tm H ds) (fun _=>evalCode E cf okD lf fid b tm H ds) ⟨⟩ ⟨⟩:=by simp only [evalCode,condC];cases opd E tm c<;>rfl
@[go_sem ↓] theorem ec_block (i c tm H ds):evalCode E cf okD lf fid (.block i c) tm H ds=blkC i (evalCode E cf okD lf fid c tm H ds):=by simp only [evalCode,blkC];cases evalCode E cf okD lf fid c tm H ds<;>rfl
def loopC (c:Code) (n:Nat) (tm:List Val) (H:Hp) (ds:DS):CRes:=iter (evalCode E cf okD lf fid c) n tm H ds
@[go_sem ↓] theorem ec_loop (c tm H ds):evalCode E cf okD lf fid (.loop c) tm H ds=loopC E cf okD lf fid c lf tm H ds:=by simp only [evalCode,loopC]
@[go_sem ↓] theorem ec_exit (i tm H ds):evalCode E cf okD lf fid (.exit i) tm H ds= .exit i tm H ds:=by simp only [evalCode]
@[go_sem ↓] theorem ec_ret (tm H ds):evalCode E cf okD lf fid .ret tm H ds= .ret tm H ds:=by simp only [evalCode]
@[go_sem ↓] theorem ec_label (i tm H ds):evalCode E cf okD lf fid (.label i) tm H ds= .normal tm H ds:=by simp only [evalCode]
def opdV (t:Nat) (v:Val):Val:=match v with
 | .lv s _=> .lp t s 0
 |v=>v
@[go_sem] theorem opd_tmp (tm t):opd E tm (.tmp t)=opdV t (getT tm t):=rfl
@[go_sem] theorem opd_const (tm c):opd E tm (.const c)=ofC 2 c:=rfl
@[go_sem] theorem opd_global (tm g):opd E tm (.global g)=E.G g:=rfl
@[go_sem] theorem opd_func (tm g):opd E tm (.func g)= .fn (.func g) [] []:=rfl
@[go_sem] theorem opdV_bool (t b):opdV t (.bool b)= .bool b:=rfl
@[go_sem] theorem opdV_int (t k n):opdV t (.int k n)= .int k n:=rfl
@[go_sem] theorem opdV_str (t a b):opdV t (.str a b)= .str a b:=rfl
@[go_sem] theorem opdV_nilp (t):opdV t (.nilp)= .nilp:=rfl
@[go_sem] theorem opdV_ptr (t a b c d):opdV t (.ptr a b c d)= .ptr a b c d:=rfl
@[go_sem] theorem opdV_fptr (t a b):opdV t (.fptr a b)= .fptr a b:=rfl
@[go_sem] theorem opdV_nilsl (t):opdV t (.nilsl)= .nilsl:=rfl
@[go_sem] theorem opdV_sl (t a b):opdV t (.sl a b)= .sl a b:=rfl
@[go_sem] theorem opdV_ref (t a b c d e f):opdV t (.ref a b c d e f)= .ref a b c d e f:=rfl
@[go_sem] theorem opdV_nilmap (t):opdV t (.nilmap)= .nilmap:=rfl
@[go_sem] theorem opdV_map (t a):opdV t (.map a)= .map a:=rfl
@[go_sem] theorem opdV_fmap (t a b):opdV t (.fmap a b)= .fmap a b:=rfl
@[go_sem] theorem opdV_nilfn (t):opdV t (.nilfn)= .nilfn:=rfl
@[go_sem] theorem opdV_fn (t a b c):opdV t (.fn a b c)= .fn a b c:=rfl
@[go_sem] theorem opdV_nili (t):opdV t (.nili)= .nili:=rfl
@[go_sem] theorem opdV_iface (t a b):opdV t (.iface a b)= .iface a b:=rfl
@[go_sem] theorem opdV_agg (t a):opdV t (.agg a)= .agg a:=rfl
@[go_sem] theorem opdV_tup (t a):opdV t (.tup a)= .tup a:=rfl
@[go_sem] theorem opdV_lp (t a b c):opdV t (.lp a b c)= .lp a b c:=rfl
@[go_sem] theorem opdV_it (t a):opdV t (.it a)= .it a:=rfl
@[go_sem] theorem opdV_lv (t s c):opdV t (.lv s c)= .lp t s 0:=rfl
@[go_sem] theorem ofC_int (d k n):ofC d (.int k n)= .int k n:=by cases d<;>rfl
@[go_sem] theorem ofC_bool (d b):ofC d (.bool b)= .bool b:=by cases d<;>rfl
@[go_sem] theorem ofC_nilsl (d):ofC d (.slice none 0 0)= .nilsl:=by cases d<;>rfl
@[go_sem] theorem ofC_nilp (d):ofC d (.pointer none)= .nilp:=by cases d<;>rfl
@[go_sem] theorem ofC_nilmap (d):ofC d (.map none)= .nilmap:=by cases d<;>rfl
@[go_sem] theorem ofC_nilfn (d):ofC d .nilFunc= .nilfn:=by cases d<;>rfl
@[go_sem] theorem ofC_nili (d):ofC d .nilIface= .nili:=by cases d<;>rfl
theorem getT_setT (l:List Val) (i j:Nat) (v:Val):getT (setT l i v) j=if j=i∧i<l.length then v else getT l j:=by
 induction l generalizing i j with
 |nil=>cases j<;>simp [setT,getT]
 | cons x l ih=>cases i with
   |zero=>cases j<;>simp [setT,getT]
   | succ i=>cases j with
     |zero=>simp [setT,getT]
     |succ j=>simp [setT,getT,ih]
theorem len_setT (l:List Val) (i:Nat) (v:Val):(setT l i v).length=l.length:=by
 induction l generalizing i with
 |nil=>rfl
 |cons x l ih=>cases i<;>simp [setT,ih]
attribute [go_sem] getT_setT len_setT
@[go_sem] theorem getT_zero (v l):getT (v::l) 0=v:=by rw [getT]
@[go_sem] theorem getT_succ (v l i):getT (v::l) (i+1)=getT l i:=by rw [getT]
@[go_sem] theorem getT_nil (i):getT [] i= .tup []:=by cases i<;>rfl
@[go_sem] theorem getT_rep (n i):getT (List.replicate n (.tup [])) i= .tup []:=by
 induction n generalizing i with
 |zero=>cases i<;>rfl
 |succ n ih=>cases i<;>simp [List.replicate,getT,ih]
@[go_sem] theorem locSafe_false (v):locSafe false v=true:=rfl
@[go_sem] theorem locSafe_lv (b s c):locSafe b (.lv s c)=true:=by cases b<;>rfl
@[congr] theorem okV_congr {r r':Option Val} {tm H} (h:r=r'):okV r tm H=okV r' tm H:=by rw [h]
@[go_sem] theorem okV_some (v tm H):okV (some v) tm H= .ok v tm H:=by simp [okV]
@[go_sem] theorem okV_none (tm H):okV none tm H= .fail:=rfl
@[go_sem ↓] theorem eo_move (d ty pos af g tm H) (x):evalOp E cf fid ⟨d,.move x,ty,pos,af,g⟩ tm H=okV (some (opd E tm x)) tm H:=rfl
@[go_sem ↓] theorem eo_assign (d ty pos af g tm H) (x):evalOp E cf fid ⟨d,.assign x,ty,pos,af,g⟩ tm H=okV (some (opd E tm x)) tm H:=rfl
@[go_sem ↓] theorem eo_pick (d ty pos af g tm H) (c a b):evalOp E cf fid ⟨d,.pick c a b,ty,pos,af,g⟩ tm H=opPick (opd E tm c) (opd E tm a) (opd E tm b) tm H:=rfl
@[go_sem ↓] theorem eo_alloc (d ty pos af g tm H) (el):evalOp E cf fid ⟨d,.alloc el,ty,pos,af,g⟩ tm H=opAlloc (locO E fid d) d el (zeroT E el) tm H:=rfl
@[go_sem ↓] theorem eo_box (d ty pos af g tm H) (el x):evalOp E cf fid ⟨d,.box el x,ty,pos,af,g⟩ tm H=opAlloc (locO E fid d) d el (some (opd E tm x)) tm H:=rfl
@[go_sem ↓] theorem eo_build (d ty pos af g tm H) (t) (l:List (Nat×Operand)):evalOp E cf fid ⟨d,.build t l.toArray,ty,pos,af,g⟩ tm H=okV (buildP E t (l.map fun p=>(p.1,opd E tm p.2))) tm H:=rfl
@[go_sem ↓] theorem eo_buildSlice (d ty pos af g tm H) (t n) (l:List (Nat×Operand)):evalOp E cf fid ⟨d,.buildSlice t n l.toArray,ty,pos,af,g⟩ tm H=okVH (buildSliceP E t n (l.map fun p=>(p.1,opd E tm p.2)) H) tm:=rfl
@[go_sem ↓] theorem eo_load (d ty pos af g tm H) (t a):evalOp E cf fid ⟨d,.load t a,ty,pos,af,g⟩ tm H=okV (loadP E t (opd E tm a) tm H) tm H:=rfl
@[go_sem ↓] theorem eo_store (d ty pos af g tm H) (t a x):evalOp E cf fid ⟨d,.store t a x,ty,pos,af,g⟩ tm H=storeP E t (opd E tm a) (opd E tm x) tm H:=rfl
@[go_sem ↓] theorem eo_nilCheck (d ty pos af g tm H) (x):evalOp E cf fid ⟨d,.nilCheck x,ty,pos,af,g⟩ tm H=opNilCheck (opd E tm x) tm H:=rfl
@[go_sem ↓] theorem eo_binOp (d ty pos af g tm H) (op t x y z):evalOp E cf fid ⟨d,.binOp op t x y z,ty,pos,af,g⟩ tm H=okV (binP E op t (opd E tm x) (opd E tm y)) tm H:=rfl
@[go_sem ↓] theorem eo_unOp (d ty pos af g tm H) (op t x):evalOp E cf fid ⟨d,.unOp op t x,ty,pos,af,g⟩ tm H=okV (unP op (opd E tm x)) tm H:=rfl
@[go_sem ↓] theorem eo_convert (d ty pos af g tm H) (s t x):evalOp E cf fid ⟨d,.convert s t x,ty,pos,af,g⟩ tm H=okV (convertP E s t (opd E tm x) H) tm H:=rfl
@[go_sem ↓] theorem eo_makeInterface (d ty pos af g tm H) (t x):evalOp E cf fid ⟨d,.makeInterface t x,ty,pos,af,g⟩ tm H=opMakeIface t (und E t) (opd E tm x) tm H:=rfl
@[go_sem ↓] theorem eo_makeFunc (d ty pos af g tm H) (f) (a c:List Operand):evalOp E cf fid ⟨d,.makeFunc f a.toArray c.toArray,ty,pos,af,g⟩ tm H=opMakeFn E f (a.map (opd E tm)) (c.map (opd E tm)) tm H:=rfl
@[go_sem ↓] theorem eo_makeMap (d ty pos af g tm H) (t r):evalOp E cf fid ⟨d,.makeMap t r,ty,pos,af,g⟩ tm H=opMakeMapO r tm H:=rfl
@[go_sem ↓] theorem eo_makeSlice (d ty pos af g tm H) (t l c):evalOp E cf fid ⟨d,.makeSlice t l c,ty,pos,af,g⟩ tm H=opMakeSlice E t (opd E tm l) (opd E tm c) tm H:=rfl
@[go_sem ↓] theorem eo_slice (d ty pos af g tm H) (t x lo hi mx):evalOp E cf fid ⟨d,.slice t x lo hi mx,ty,pos,af,g⟩ tm H=opSlice E t (und E t) (opd E tm x) (lo.map (opd E tm)) (hi.map (opd E tm)) (mx.map (opd E tm)) tm H:=rfl
@[go_sem ↓] theorem eo_fieldAddr (d ty pos af g tm H) (s x f):evalOp E cf fid ⟨d,.fieldAddr s x f,ty,pos,af,g⟩ tm H=okV (fieldAddrP E s (opd E tm x) f) tm H:=rfl
@[go_sem ↓] theorem eo_field (d ty pos af g tm H) (s x f):evalOp E cf fid ⟨d,.field s x f,ty,pos,af,g⟩ tm H=okV (fieldP E s (opd E tm x) f) tm H:=rfl
@[go_sem ↓] theorem eo_indexAddr (d ty pos af g tm H) (t x i):evalOp E cf fid ⟨d,.indexAddr t x i,ty,pos,af,g⟩ tm H=okV (indexAddrP E t (opd E tm x) (opd E tm i)) tm H:=rfl
@[go_sem ↓] theorem eo_index (d ty pos af g tm H) (t x i):evalOp E cf fid ⟨d,.index t x i,ty,pos,af,g⟩ tm H=okV (indexP E t (opd E tm x) (opd E tm i)) tm H:=rfl
@[go_sem ↓] theorem eo_lookup (d ty pos af g tm H) (t m k ok):evalOp E cf fid ⟨d,.lookup t m k ok,ty,pos,af,g⟩ tm H=okV (lookupP E t (opd E tm m) (opd E tm k) ok H) tm H:=rfl
@[go_sem ↓] theorem eo_mapUpdate (d ty pos af g tm H) (t m k v):evalOp E cf fid ⟨d,.mapUpdate t m k v,ty,pos,af,g⟩ tm H=opMapUpdate E t (opd E tm m) (opd E tm k) (opd E tm v) tm H:=rfl
@[go_sem ↓] theorem eo_extract (d ty pos af g tm H) (x i):evalOp E cf fid ⟨d,.extract x i,ty,pos,af,g⟩ tm H=opExtract (opd E tm x) i tm H:=rfl
@[go_sem ↓] theorem eo_panic (d ty pos af g tm H) (x):evalOp E cf fid ⟨d,.panic x,ty,pos,af,g⟩ tm H=opPanic (opd E tm x) H:=rfl
@[go_sem ↓] theorem eo_callB (d ty pos af g tm H) (b) (ts:List Nat) (as:List Operand):evalOp E cf fid ⟨d,.call ⟨.builtin b,as.toArray,ts.toArray⟩,ty,pos,af,g⟩ tm H=opBuiltin E b ts (as.map (opd E tm)) tm H:=rfl
@[go_sem ↓] theorem eo_callV (d ty pos af g tm H) (f) (ts:List Nat) (as:List Operand):evalOp E cf fid ⟨d,.call ⟨.value f,as.toArray,ts.toArray⟩,ty,pos,af,g⟩ tm H=opCallV E cf (opd E tm f) (as.map (opd E tm)) H tm:=rfl
@[go_sem] theorem isDef_move (x):isDef (.move x)=false:=rfl
@[go_sem] theorem isDef_assign (x):isDef (.assign x)=false:=rfl
@[go_sem] theorem isDef_pick (c a b):isDef (.pick c a b)=false:=rfl
@[go_sem] theorem isDef_alloc (el):isDef (.alloc el)=false:=rfl
@[go_sem] theorem isDef_box (el x):isDef (.box el x)=false:=rfl
@[go_sem] theorem isDef_build (t) (l:List (Nat×Operand)):isDef (.build t l.toArray)=false:=rfl
@[go_sem] theorem isDef_buildSlice (t n) (l:List (Nat×Operand)):isDef (.buildSlice t n l.toArray)=false:=rfl
@[go_sem] theorem isDef_load (t a):isDef (.load t a)=false:=rfl
@[go_sem] theorem isDef_store (t a x):isDef (.store t a x)=false:=rfl
@[go_sem] theorem isDef_nilCheck (x):isDef (.nilCheck x)=false:=rfl
@[go_sem] theorem isDef_binOp (op t x y z):isDef (.binOp op t x y z)=false:=rfl
@[go_sem] theorem isDef_unOp (op t x):isDef (.unOp op t x)=false:=rfl
@[go_sem] theorem isDef_convert (s t x):isDef (.convert s t x)=false:=rfl
@[go_sem] theorem isDef_makeInterface (t x):isDef (.makeInterface t x)=false:=rfl
@[go_sem] theorem isDef_makeFunc (f) (a c:List Operand):isDef (.makeFunc f a.toArray c.toArray)=false:=rfl
@[go_sem] theorem isDef_makeMap (t r):isDef (.makeMap t r)=false:=rfl
@[go_sem] theorem isDef_makeSlice (t l c):isDef (.makeSlice t l c)=false:=rfl
@[go_sem] theorem isDef_slice (t x lo hi mx):isDef (.slice t x lo hi mx)=false:=rfl
@[go_sem] theorem isDef_fieldAddr (s x f):isDef (.fieldAddr s x f)=false:=rfl
@[go_sem] theorem isDef_field (s x f):isDef (.field s x f)=false:=rfl
@[go_sem] theorem isDef_indexAddr (t x i):isDef (.indexAddr t x i)=false:=rfl
@[go_sem] theorem isDef_index (t x i):isDef (.index t x i)=false:=rfl
@[go_sem] theorem isDef_lookup (t m k ok):isDef (.lookup t m k ok)=false:=rfl
@[go_sem] theorem isDef_mapUpdate (t m k v):isDef (.mapUpdate t m k v)=false:=rfl
@[go_sem] theorem isDef_extract (x i):isDef (.extract x i)=false:=rfl
@[go_sem] theorem isDef_panic (x):isDef (.panic x)=false:=rfl
@[go_sem] theorem isDef_callB (b) (ts:List Nat) (as:List Operand):isDef (.call ⟨.builtin b,as.toArray,ts.toArray⟩)=false:=rfl
@[go_sem] theorem isDef_callV (f) (ts:List Nat) (as:List Operand):isDef (.call ⟨.value f,as.toArray,ts.toArray⟩)=false:=rfl
end
theorem okCell_int (k n):okCell (.int k n)=true:=rfl
theorem okCell_bool (b):okCell (.bool b)=true:=rfl
attribute [go_sem] okCell_int okCell_bool
@[go_sem] theorem opPick_bool (b x y tm H):opPick (.bool b) x y tm H= .ok (if b then x else y) tm H:=by cases b<;>simp [opPick,okV]
@[go_sem] theorem opExtract_tup (vs i tm H):opExtract (.tup vs) i tm H=okV vs[i]? tm H:=rfl
def stp:Val→Nat
 | .lv s _=>s+1
 |_=>0
@[go_sem] theorem opAlloc_loc (d el z tm H):opAlloc true (some d) el (some z) tm H=match z.cells.all okCell with
  |true=> .ok (.lv (stp (getT tm d)) z.cells) tm H
  |false=> .fail:=by
 simp only [opAlloc]
 cases z.cells.all okCell with
 |false=>rfl
 | true=>
   simp only [newLocal];cases getT tm d<;>simp [okV,stp]
@[go_sem] theorem opAlloc_box (d el z tm H):opAlloc false (some d) el (some z) tm H=match z.cells.all okCell with
  |true=> .ok (.ptr H.n (genOf el) 0 z.cells.length) tm (H.push (.cells (genOf el) (genOf el) 0 z.cells))
  |false=> .fail:=by
 simp only [opAlloc]
 cases z.cells.all okCell with
 |false=>rfl
 |true=>simp [newBox]
theorem cells_agg (l):(Val.agg l).cells=l:=rfl
theorem cells_bool (b):(Val.bool b).cells= [.bool b]:=rfl
theorem cells_int (k n):(Val.int k n).cells= [.int k n]:=rfl
attribute [go_sem] cells_agg cells_bool cells_int
@[go_sem] theorem addP_fptr (l o n):addP (.fptr l o) n=some (.fptr l (o+n)):=by simp [addP]
@[go_sem] theorem addP_ptr (a b c d n):addP (.ptr a b c d) n=some (.ptr a b (c+n) d):=by simp [addP]
@[go_sem] theorem addP_lp (a b c n):addP (.lp a b c) n=some (.lp a b (c+n)):=by simp [addP]
@[go_sem] theorem rowAtP_fptr (tm H cs off):rowAtP tm H (.fptr cs off)=some (cs,off,cs.length):=rfl
def rowL (st off:Nat):Val→Option (List Val×Nat×Nat)
 | .lv st' cs=>if st=st' then some (cs,off,cs.length) else none
 |_=>none
@[go_sem] theorem rowAtP_lp (tm H slot st off):rowAtP tm H (.lp slot st off)=rowL st off (getT tm slot):=by simp only [rowAtP,rowL];cases getT tm slot<;>rfl
@[go_sem] theorem rowL_lv (st off cs):rowL st off (.lv st cs)=some (cs,off,cs.length):=by simp [rowL]
def rowH (gen off lim:Nat):Option Obj→Option (List Val×Nat×Nat)
 |some (.cells _ dirty _ cs)=>if dirty≤gen then some (cs,off,lim) else none
 |_=>none
@[go_sem] theorem rowAtP_ptr (tm H id gen off lim):rowAtP tm H (.ptr id gen off lim)=rowH gen off lim (H.get id):=rfl
@[go_sem] theorem rowH_cells (gen off lim g d ro cs):rowH gen off lim (some (.cells g d ro cs))=if d≤gen then some (cs,off,lim) else none:=rfl
@[go_sem] theorem loadC_one (cs off lim):loadC 1 false (some (cs,off,lim))=if off+1≤lim then cs[off]? else none:=by
 simp only [loadC]
 cases h:Nat.ble (off+1) lim with
 |true=>rw [if_pos (Nat.le_of_ble_eq_true h)]
 |false=>rw [if_neg (fun h'=>by rw [Nat.ble_eq_true_of_le h'] at h;cases h)]
@[go_sem] theorem loadC_agg (n cs off lim):loadC n true (some (cs,off,lim))=if off+n≤lim then (if off+n≤cs.length then some (.agg ((cs.drop off).take n)) else none) else none:=by
 simp only [loadC]
 cases h:Nat.ble (off+n) lim with
 | true=>
   rw [if_pos (Nat.le_of_ble_eq_true h)];simp only [aggOf,sub];split
   · next h=>split at h<;>simp_all
   · next h=>split at h<;>simp_all
 |false=>rw [if_neg (fun h'=>by rw [Nat.ble_eq_true_of_le h'] at h;cases h)]
section
variable (E:Env) (t:Nat) (k:IntKind) (a b:Int)
@[go_sem] theorem binP_add:binP E .add t (.int k a) (.int k b)=some (.int k (k.wrap (a+b))):=by simp [binP,binInt,binII]
@[go_sem] theorem binP_sub:binP E .sub t (.int k a) (.int k b)=some (.int k (k.wrap (a-b))):=by simp [binP,binInt,binII]
@[go_sem] theorem binP_mul:binP E .mul t (.int k a) (.int k b)=some (.int k (k.wrap (a*b))):=by simp [binP,binInt,binII]
@[go_sem] theorem binP_quo:binP E .quo t (.int k a) (.int k b)=if b=0 then none else some (.int k (k.wrap (a.tdiv b))):=by simp [binP,binInt,binII]
@[go_sem] theorem binP_rem:binP E .rem t (.int k a) (.int k b)=if b=0 then none else some (.int k (a.tmod b)):=by simp [binP,binInt,binII]
@[go_sem] theorem binP_eql:binP E .eql t (.int k a) (.int k b)=some (.bool (a==b)):=by simp [binP,binInt,binII]
@[go_sem] theorem binP_neq:binP E .neq t (.int k a) (.int k b)=some (.bool (a !=b)):=by simp [binP,binInt,binII]
@[go_sem] theorem binP_lss:binP E .lss t (.int k a) (.int k b)=some (.bool (decide (a<b))):=by simp [binP,binInt,binII]
@[go_sem] theorem binP_leq:binP E .leq t (.int k a) (.int k b)=some (.bool (decide (a≤b))):=by simp [binP,binInt,binII]
@[go_sem] theorem binP_gtr:binP E .gtr t (.int k a) (.int k b)=some (.bool (decide (a>b))):=by simp [binP,binInt,binII]
@[go_sem] theorem binP_geq:binP E .geq t (.int k a) (.int k b)=some (.bool (decide (a≥b))):=by simp [binP,binInt,binII]
@[go_sem] theorem unP_not (c:Bool):unP .not (.bool c)=some (.bool (!c)):=by simp [unP]
end
section
variable (E:Env) (cf:CallF) (okD:DrawT) (lf:Nat)
theorem evalFn_S (n f m:Nat) (args:List Val) (H:Hp) (fn:Func) (c:Code) (hp:E.prim f=none) (hf:E.fns f=some fn) (hb:fn.body=some c) (hl:fn.ntmps=args.length+m):
  evalFn E okD lf (n+1) f args H=finish E (evalFn E okD lf n) okD lf fn (evalCode E (evalFn E okD lf n) okD lf f c (args++List.replicate m (.tup [])) H []):=by
 have h1:args.length≤fn.ntmps:=by omega
 have h2:fn.ntmps-args.length=m:=by omega
 simp only [evalFn,evalBody,hp,hf,hb,if_pos h1,h2]
theorem finish_normal (fn tm H):finish E cf okD lf fn (.normal tm H [])=resP E fn tm H:=rfl
theorem finish_ret (fn tm H):finish E cf okD lf fn (.ret tm H [])=resP E fn tm H:=rfl
attribute [go_sem] finish_normal finish_ret
def res1 (v:Val) (H:Hp):FRes:=if noLoc v then .ret v H else .fail
theorem resP_one (fn:Func) (tm H t) (h:fn.results= #[.tmp t]):resP E fn tm H=res1 (getT tm t) H:=by simp [resP,h,resultsP,resultP,res1]
theorem resP_nil (fn:Func) (tm H) (h:fn.results= #[]):resP E fn tm H= .ret (.tup []) H:=by simp [resP,h,resultsP]
theorem resP_two (fn:Func) (tm H t u) (h:fn.results= #[.tmp t,.tmp u]):resP E fn tm H=if noLoc (getT tm t)&&noLoc (getT tm u) then .ret (.tup [getT tm t,getT tm u]) H else .fail:=by simp [resP,h,resultsP,resultP]
end
@[go_sem] theorem res1_bool (b H):res1 (.bool b) H= .ret (.bool b) H:=rfl
@[go_sem] theorem res1_int (k n H):res1 (.int k n) H= .ret (.int k n) H:=rfl
def ixA (k:Nat) (x i:Val):Option Val:=match x,i with
 | .sl rows _,.int _ (.ofNat n)=>match rows[n]? with
   |some r=>if r.length=k then some (.fptr r 0) else none
   |none=>none
 | .ref id gen off k' len _,.int _ (.ofNat n)=>if k=k'∧n<len then some (.ptr id gen (off+n*k) (off+n*k+k)) else none
 |_,_=>none
theorem indexAddr_sl (E:Env) (t el k:Nat) (x i:Val) (hu:und E t=some (.slice el)) (hs:sizeT E el=some k):indexAddrP E t x i=ixA k x i:=by
 unfold indexAddrP ixA;rw [hu]
 cases i with
 | int kd n=>cases n with
   |ofNat n=>cases x<;>simp [asI,hs]<;>rfl
   |negSucc n=>cases x<;>simp [asI]
 |_=>cases x<;>simp [asI]
def lenS (x:Val):Option Val:=match x with
 | .nilsl=>some (.int .i64 0)
 | .sl rows _=>some (.int .i64 rows.length)
 | .ref _ _ _ _ len _=>some (.int .i64 len)
 |_=>none
theorem len_sl (E:Env) (t el:Nat) (x:Val) (H:Hp) (hu:und E t=some (.slice el)):lenP E t x H=lenS x:=by unfold lenP lenS;rw [hu];cases x<;>simp<;>rfl
@[go_sem] theorem lenS_nil:lenS .nilsl=some (.int .i64 0):=rfl
@[go_sem] theorem lenS_sl (rows c):lenS (.sl rows c)=some (.int .i64 rows.length):=rfl
@[go_sem] theorem lenS_ref (a b c d e f):lenS (.ref a b c d e f)=some (.int .i64 e):=rfl
@[go_sem] theorem builtin_len (E t x tm H):opBuiltin E .len [t] [x] tm H=okV (lenP E t x H) tm H:=rfl
def retC (E:Env) (f:Nat) (n0:Nat) (tm:List Val) (r:FRes):ORes:=match r with
 | .ret v H'=>if E.keep f then .ok v tm (gc n0 v H') else (match pub depthP v H' with
  |some (v,H')=> .ok v tm (gc n0 v H')
  |none=> .fail)
 | .pan v H'=>(match pub depthP v H' with
   |some (v,H')=> .pan v (gc n0 v H')
   |none=> .fail)
 | .fail=> .fail
@[congr] theorem retC_congr {E f n0 tm} {r r':FRes} (h:r=r'):retC E f n0 tm r=retC E f n0 tm r':=by rw [h]
theorem doCall_plain (E:Env) (cf:CallF) (f args H tm) (hp:E.pure f=false) (ha:args.all noLoc=true):doCall E cf f args H tm=retC E f H.n tm (cf f args H):=by simp only [doCall,ha,hp,doPlain,retC];cases cf f args H<;>simp<;>(repeat (first|rfl|split))
@[go_sem] theorem opCallV_fn (E cf f a c args H tm):opCallV E cf (.fn (.func f) a c) args H tm=doCall E cf f (a++(args++c)) H tm:=by simp [opCallV]
attribute [go_sem] List.cons_append List.nil_append List.all_cons List.all_nil List.length_cons List.length_replicate List.length_nil Bool.true_and Bool.and_true Bool.false_and Bool.and_false Bool.true_or Bool.or_true Bool.false_or Bool.or_false
 List.map_cons List.map_nil List.getElem?_cons_zero List.getElem?_cons_succ List.getElem?_nil List.take_succ_cons List.drop_succ_cons List.take_zero List.drop_zero List.append_nil and_true true_and if_true Option.map_some Option.map_none Bool.not_true Bool.not_false
@[go_sem] theorem locO_some (E:Env) (f d):locO E f (some d)=E.loc f d:=rfl
theorem natBeq (x y):Nat.beq x y=decide (x=y):=by
 cases h:Nat.beq x y with
 |true=>simp [Nat.eq_of_beq_eq_true h]
 |false=>simp [Nat.ne_of_beq_eq_false h]
attribute [go_sem] natBeq decide_true decide_false eq_self if_false false_and and_false true_or or_true
@[go_sem] theorem stp_tup (l):stp (.tup l)=0:=rfl
@[go_sem] theorem stp_lv (s c):stp (.lv s c)=s+1:=rfl
@[go_sem] theorem isAgg_struct (l):isAggD (.struct l)=true:=rfl
theorem bb1 (b:Bool):(b==true)=b:=by cases b<;>rfl
theorem bb2 (b:Bool):(b==false)= !b:=by cases b<;>rfl
attribute [go_sem] bb1 bb2
theorem wrap64 (x:Int) (h1: -9223372036854775808≤x) (h2:x<9223372036854775808):IntKind.i64.wrap x=x:=by
 have e1:(2:Int)^64=18446744073709551616:=by decide
 have e2:(2:Int)^(64-1)=9223372036854775808:=by decide
 simp only [IntKind.wrap,IntKind.bits,IntKind.signed,Bool.true_and,e1,e2];by_cases hx:x%18446744073709551616≥9223372036854775808
 · simp only [hx,decide_true,if_true];omega
 · simp only [hx,decide_false,Bool.false_eq_true,if_false];omega
def Ext (H H':Hp):Prop:=H.n≤H'.n∧ ∀id,id<H.n→H'.get id=H.get id
theorem Ext.refl (H:Hp):Ext H H:=⟨Nat.le_refl _,fun _ _=>rfl⟩
theorem Ext.trans {A B C:Hp} (h:Ext A B) (g:Ext B C):Ext A C:=⟨Nat.le_trans h.1 g.1,fun id hi=>by rw [g.2 id (Nat.lt_of_lt_of_le hi h.1),h.2 id hi]⟩
theorem get_push_old (H:Hp) (o:Obj) (id:Nat) (h:id<H.n):(H.push o).get id=H.get id:=by
 have h2:id<H.n+1:=by omega
 have:H.n+1-1-id=(H.n-1-id)+1:=by omega
 unfold Hp.get;rw [if_pos h,if_pos (show id<(H.push o).n from h2)];show (o::H.l)[H.n+1-1-id]? =_;rw [this,List.getElem?_cons_succ]
theorem get_push_new (H:Hp) (o:Obj):(H.push o).get H.n=some o:=by simp [Hp.get,Hp.push]
theorem Ext.push (H:Hp) (o:Obj):Ext H (H.push o):=⟨Nat.le_succ _,fun id h=>get_push_old H o id h⟩
theorem get_lt {H:Hp} {id:Nat} {o:Obj} (h:H.get id=some o):id<H.n:=by
 simp only [Hp.get] at h;split at h
 · assumption
 · cases h
theorem Ext.get {A B:Hp} (h:Ext A B) {id:Nat} {o:Obj} (g:A.get id=some o):B.get id=some o:=by rw [h.2 id (get_lt g),g]
theorem Ext.gc {A B:Hp} (h:Ext A B) (v:Val):Ext A (gc A.n v B):=by
 unfold Go.PV.gc;split
 · exact h
 · show Ext A (if _ then _ else _);split
   · refine ⟨Nat.le_refl _,fun id hi=> ?_⟩;rw [←h.2 id hi];have:=h.1;simp only [Hp.get,if_pos hi,if_pos (Nat.lt_of_lt_of_le hi h.1),List.getElem?_drop];congr 1;omega
   · exact h
@[reducible] def scal:Val→Bool
 | .bool _=>true
 | .int _ _=>true
 | .str _ _=>true
 | .tup []=>true
 |_=>false
theorem pub_scal (v:Val) (H:Hp) (h:scal v=true):pub depthP v H=some (v,H):=by
 cases v with
 |bool b=>rfl
 |int k n=>rfl
 |str a b=>rfl
 | tup l=>cases l with
   |nil=>rfl
   |cons x l=>cases h
 |_=>cases h
theorem retC_scal (E:Env) (f n0 tm v H) (h:scal v=true):retC E f n0 tm (.ret v H)= .ok v tm (gc n0 v H):=by simp only [retC,pub_scal v H h];split<;>rfl
def isNormal:CRes→Bool
 | .normal _ _ _=>true
 |_=>false
theorem loop_up (body:List Val→Hp→DS→CRes) (Q:CRes→Prop) (I:Nat→List Val→Hp→Prop) (N:Nat)
  (step: ∀j tm H,j≤N→I j tm H→(∃tm' H',body tm H []= .normal tm' H' []∧j<N∧I (j+1) tm' H')∨(isNormal (body tm H [])=false∧Q (body tm H [])))
  (n:Nat): ∀i tm H,i≤N→N-i<n→I i tm H→Q (iter body n tm H []):=by
 induction n with
 |zero=>intro i tm H _ h;omega
 | succ n ih=>
   intro i tm H hi hn h;rcases step i tm H hi h with ⟨tm',H',hb,hj,hI⟩|⟨hb,hQ⟩
   · simp only [iter,hb];exact ih (i+1) tm' H' hj (by omega) hI
   · simp only [iter];revert hb hQ;cases body tm H []<;>simp [isNormal]
def IsSl (x:Val) (rows:List (List Val)):Prop:=(x= .nilsl∧rows= [])∨ ∃c,x= .sl rows c
section
variable {x:Val} {rows:List (List Val)} (h:IsSl x rows)
include h
theorem IsSl.len:lenS x=some (.int .i64 rows.length):=by rcases h with ⟨rfl,rfl⟩|⟨c,rfl⟩<;>rfl
theorem IsSl.opdV (t:Nat):opdV t x=x:=by rcases h with ⟨rfl,rfl⟩|⟨c,rfl⟩<;>rfl
theorem IsSl.noLoc:noLoc x=true:=by rcases h with ⟨rfl,rfl⟩|⟨c,rfl⟩<;>rfl
theorem IsSl.okCell:okCell x=true:=by rcases h with ⟨rfl,rfl⟩|⟨c,rfl⟩<;>rfl
theorem IsSl.cells:x.cells= [x]:=by rcases h with ⟨rfl,rfl⟩|⟨c,rfl⟩<;>rfl
theorem IsSl.ix {k j:Nat} {r:List Val} (hj:rows[j]? =some r) (hk:r.length=k):ixA k x (.int .i64 (j:Nat))=some (.fptr r 0):=by
 rcases h with ⟨rfl,rfl⟩|⟨c,rfl⟩
 · cases hj
 · show (match rows[j]? with|some r=>_|none=>_)=_;rw [hj];simp [hk]
end
theorem scal_bool (b):scal (.bool b)=true:=rfl
theorem scal_int (k n):scal (.int k n)=true:=rfl
theorem scal_tup:scal (.tup [])=true:=rfl
theorem noLoc_bool (b):noLoc (.bool b)=true:=rfl
theorem noLoc_int (k n):noLoc (.int k n)=true:=rfl
theorem noLoc_agg (l):noLoc (.agg l)=true:=rfl
theorem noLoc_fn (f a c):noLoc (.fn f a c)=true:=rfl
theorem noLoc_ptr (a b c d):noLoc (.ptr a b c d)=true:=rfl
theorem noLoc_ref (a b c d e f):noLoc (.ref a b c d e f)=true:=rfl
theorem noLoc_sl (a b):noLoc (.sl a b)=true:=rfl
theorem noLoc_nilsl:noLoc .nilsl=true:=rfl
attribute [go_sem] scal_bool scal_int scal_tup noLoc_bool noLoc_int noLoc_agg noLoc_fn noLoc_ptr noLoc_ref noLoc_sl noLoc_nilsl retC_scal
theorem takeLen {α:Type} (r:List α) (n:Nat) (h:r.length=n):r.take n=r:=by rw [←h,List.take_length]
theorem push_set (H:Hp) (o o':Obj):(H.push o).set H.n o'=H.push o':=by simp [Hp.set,Hp.push,setL]
attribute [go_sem] push_set get_push_new
def storeX (id gen off lim n:Nat) (vs:List Val) (tm:List Val) (H:Hp):Option Obj→ORes
 |some (.cells g _ ro cs)=>if gen=g∧ro≤off∧off+n≤lim then (match upd cs off vs with
  |some cs'=> .ok (.tup []) tm (H.set id (.cells g gen ro cs'))
  |none=> .fail) else .fail
 |_=> .fail
@[go_sem] theorem storeV_ptr (n id gen off lim vs tm H):storeV n (.ptr id gen off lim) vs tm H=if vs.length=n∧vs.all okCell=true then storeX id gen off lim n vs tm H (H.get id) else .fail:=by
 simp only [storeV,storeH,storeX];split
 · cases H.get id with
   |none=>rfl
   |some o=>cases o<;>simp only [fL_eq,fH_eq]<;>rfl
 · rfl
@[go_sem] theorem storeX_cells (id gen off lim n vs tm H g d ro cs):storeX id gen off lim n vs tm H (some (.cells g d ro cs))=if gen=g∧ro≤off∧off+n≤lim then (match upd cs off vs with
 |some cs'=> .ok (.tup []) tm (H.set id (.cells g gen ro cs'))
 |none=> .fail) else .fail:=rfl
def storeY (slot st off:Nat) (vs:List Val) (tm:List Val) (H:Hp):Val→ORes
 | .lv st' cs=>if st=st' then (match upd cs off vs with
  |some cs'=> .ok (.tup []) (setT tm slot (.lv st cs')) H
  |none=> .fail) else .fail
 |_=> .fail
@[go_sem] theorem storeV_lp (n slot st off vs tm H):storeV n (.lp slot st off) vs tm H=if vs.length=n∧vs.all okCell=true then storeY slot st off vs tm H (getT tm slot) else .fail:=by
 simp only [storeV,storeL,storeY];split
 · cases getT tm slot<;>simp only [fL_eq]<;>rfl
 · rfl
@[go_sem] theorem storeY_lv (slot st off vs tm H cs):storeY slot st off vs tm H (.lv st cs)=match upd cs off vs with
 |some cs'=> .ok (.tup []) (setT tm slot (.lv st cs')) H
 |none=> .fail:=by simp [storeY]
theorem upd_one (cs:List Val) (off:Nat) (v:Val):upd cs off [v]=if off<cs.length then some (cs.set off v) else none:=by
 simp only [upd,List.length_singleton];by_cases h:off<cs.length
 · rw [if_pos h,if_pos (by omega),List.set_eq_take_append_cons_drop,if_pos h];rfl
 · rw [if_neg h,if_neg (by omega)]
theorem upd_all (cs vs:List Val) (h:vs.length=cs.length):upd cs 0 vs=some vs:=by simp [upd,h]
attribute [go_sem] upd_one List.set_cons_zero List.set_cons_succ
theorem okCell_nilsl:okCell .nilsl=true:=rfl
theorem okCell_ref (a b c d e f):okCell (.ref a b c d e f)=true:=rfl
theorem okCell_sl (a b):okCell (.sl a b)=true:=rfl
theorem okCell_ptr (a b c d):okCell (.ptr a b c d)=true:=rfl
theorem okCell_nilmap:okCell .nilmap=true:=rfl
theorem okCell_map (a):okCell (.map a)=true:=rfl
theorem okCell_nilfn:okCell .nilfn=true:=rfl
theorem okCell_fn (a b c):okCell (.fn a b c)=true:=rfl
theorem okCell_str (a b):okCell (.str a b)=true:=rfl
attribute [go_sem] okCell_nilsl okCell_ref okCell_sl okCell_ptr okCell_nilmap okCell_map okCell_nilfn okCell_fn okCell_str
@[go_sem] theorem cells_ref (a b c d e f):(Val.ref a b c d e f).cells= [.ref a b c d e f]:=rfl
@[go_sem] theorem cells_sl (a b):(Val.sl a b).cells= [.sl a b]:=rfl
@[go_sem] theorem cells_nilsl:(Val.nilsl).cells= [.nilsl]:=rfl
@[go_sem] theorem cells_nilmap:(Val.nilmap).cells= [.nilmap]:=rfl
@[go_sem] theorem cells_map (a):(Val.map a).cells= [.map a]:=rfl
@[go_sem] theorem cells_ptr (a b c d):(Val.ptr a b c d).cells= [.ptr a b c d]:=rfl
@[go_sem] theorem cells_nilfn:(Val.nilfn).cells= [.nilfn]:=rfl
@[go_sem] theorem cells_fn (a b c):(Val.fn a b c).cells= [.fn a b c]:=rfl
section
variable (E:Env) (cf:CallF) (fid:Nat)
def optC (r:Option RS) (k:List Val→Hp→CRes):CRes:=match r with
 |some (tm,H)=>k tm H
 |none=> .fail
def dopsC (ops:Array Oper):List Oper→List Ann→List Val→Hp→DS→CRes
 |o::os,a::as,tm,H,ds=>optC (stepA E cf fid ops o a (tm,H)) (fun tm H=>dopsC ops os as tm H ds)
 | [],_,tm,H,ds=> .normal tm H ds
 |_,_,_,_,_=> .fail
def isRead:Ann→Bool
 | .read _=>true
 |_=>false
theorem winAll_noread (ops:Array Oper) (tr:List RS): ∀(os:List Oper) (as:List Ann) (ss:List RS),as.all (fun a=> !isRead a)=true→winAll E ops tr os as ss=true
 | [],_,_,_=>by simp [winAll]
 |_::_,[],_,_=>by simp [winAll]
 |_::_,_::_,[],_=>by simp [winAll]
 |o::os,a::as,s::ss,h=>by simp only [List.all_cons,Bool.and_eq_true] at h;simp only [winAll,winAll_noread ops tr os as ss h.2,Bool.and_true];cases a<;>simp [winOp,isRead] at h⊢
theorem runA_ne (ops:Array Oper): ∀(os:List Oper) (as:List Ann) (s:RS) (l:List RS),runA E cf fid ops os as s=some l→ ∃s l',l=s::l'
 | [],_,s,l,h=>by simp [runA] at h;exact ⟨s,[],h.symm⟩
 |_::_,[],s,l,h=>by simp [runA] at h
 | o ::os,a::as,s,l,h=>by
   simp only [runA] at h
   cases h1:stepA E cf fid ops o a s with
   |none=>rw [h1] at h;cases h
   | some s'=>
     simp only [h1] at h
     cases h2:runA E cf fid ops os as s' with
     |none=>rw [h2] at h;cases h
     |some l2=>simp only [h2] at h;cases h;exact ⟨s,l2,rfl⟩
theorem runA_last (ops:Array Oper) (ds:DS): ∀(os:List Oper) (as:List Ann) (s:RS),
  dopsC E cf fid ops os as s.1 s.2 ds=optC (match runA E cf fid ops os as s with|some l=>lastS l|none=>none) (fun tm H=> .normal tm H ds)
 | [],_,s=>by simp [dopsC,runA,lastS,optC]
 |_::_,[],s=>by simp [dopsC,runA,optC]
 | o ::os,a::as,s=>by
   simp only [dopsC,runA];show optC (stepA E cf fid ops o a s) _=_
   cases h1:stepA E cf fid ops o a s with
   |none=>rfl
   | some s'=>
     have:=runA_last ops ds os as s';simp only [optC];rw [this]
     cases h2:runA E cf fid ops os as s' with
     |none=>rfl
     | some l2=>
       obtain ⟨x,l',rfl⟩:=runA_ne E cf fid ops os as s' l2 h2;simp [lastS,optC]
theorem goDrawn_plain (ops:List Oper) (d:DI) (tm H ds) (h1:d.anns.all (fun a=> !isRead a)=true) (h2:d.rs= []):
  goDrawn E cf fid ops.toArray (some d) tm H ds=dopsC E cf fid ops.toArray ops d.anns tm H ds:=by
 have h3:=runA_last E cf fid ops.toArray ds ops d.anns (tm,H);simp only at h3;rw [h3];simp only [goDrawn,h2,evalDrawn]
 cases h4:runA E cf fid ops.toArray ops d.anns (tm,H) with
 |none=>rfl
 | some l=>
   simp only [winAll_noread E ops.toArray l _ _ l h1,optC];cases lastS l<;>rfl
def nxtD (dst:Option Nat) (r:ORes) (k:KT) (_:Tok k):CRes:=match r with
 | .ok v tm H=>match putR E fid dst v tm with
   |some tm=>k tm H
   |none=> .fail
 |_=> .fail
theorem dops_cons (ops:Array Oper) (o:Oper) (os:List Oper) (a:Ann) (as:List Ann) (tm H ds):
  dopsC E cf fid ops (o::os) (a::as) tm H ds=wantC (wantedP ops tm o)
   (fun _=>ifC (chkA E o a tm) (fun _=>nxtD E fid o.dst (evalOp E cf fid o tm H) (fun tm H=>dopsC E cf fid ops os as tm H ds) ⟨⟩) (fun _=> .fail) ⟨⟩ ⟨⟩)
   (fun _=>setC E fid o.dst (.tup []) tm (fun tm=>dopsC E cf fid ops os as tm H ds) ⟨⟩) ⟨⟩ ⟨⟩:=by
 rw [dopsC];unfold stepA wantC;simp only []
 cases wantedP ops tm o with
 |none=>rfl
 | some b=>cases b with
   | false=>
     simp only [put2,setC];cases putR E fid o.dst (.tup []) tm<;>rfl
   | true=>
     simp only []
     cases chkA E o a tm with
     |false=>rfl
     | true=>
       simp only [ifC,nxtD]
       cases evalOp E cf fid o tm H with
       | ok v tm' H'=>
         simp only [stepOk,put2];cases putR E fid o.dst v tm'<;>rfl
       |pan=>rfl
       |fail=>rfl
end
@[go_sem] theorem nxtD_ok (E fid dst v tm H k u):nxtD E fid dst (.ok v tm H) k u=setC E fid dst v tm (fun tm=>k tm H) ⟨⟩:=rfl
@[go_sem ↓] theorem dops_nil (E cf fid ops as tm H ds):dopsC E cf fid ops [] as tm H ds= .normal tm H ds:=by cases as<;>rfl
@[go_sem ↓] theorem dops_none (E cf fid) (ops:Array Oper) (dst op ty pos after os) (a:Ann) (as tm H ds):
  dopsC E cf fid ops (⟨dst,op,ty,pos,after,none⟩::os) (a::as) tm H ds=
   ifC (chkA E ⟨dst,op,ty,pos,after,none⟩ a tm) (fun _=>nxtD E fid dst (evalOp E cf fid ⟨dst,op,ty,pos,after,none⟩ tm H) (fun tm H=>dopsC E cf fid ops os as tm H ds) ⟨⟩) (fun _=> .fail) ⟨⟩ ⟨⟩:=by
 rw [dops_cons];rfl
@[reducible] def isSlc:Op→Bool
 | .slice _ _ _ _ _=>true
 |_=>false
@[go_sem ↓] theorem chk_plain (E dst op ty pos after g tm) (h:isSlc op=false):chkA E ⟨dst,op,ty,pos,after,g⟩ .plain tm=true:=by cases op<;>first|rfl|cases h
@[go_sem ↓] theorem chk_slice (E dst t x l h m ty pos after g tm):chkA E ⟨dst,.slice t x l h m,ty,pos,after,g⟩ .plain tm=(sliceP E t (opd E tm x) (l.map (opd E tm)) (h.map (opd E tm)) (m.map (opd E tm))).isSome:=rfl
@[go_sem ↓] theorem chk_load_rd1 (E dst t x ty pos after g k tm):chkA E ⟨dst,.load t x,ty,pos,after,g⟩ (.rd1 k) tm=notLp (opd E tm x):=rfl
@[go_sem ↓] theorem chk_load_read (E dst t x ty pos after g k tm):chkA E ⟨dst,.load t x,ty,pos,after,g⟩ (.read k) tm=notLp (opd E tm x):=rfl
@[go_sem ↓] theorem chk_load_loc (E dst t x ty pos after g k tm):chkA E ⟨dst,.load t x,ty,pos,after,g⟩ (.loc k) tm=isLp k (opd E tm x):=rfl
@[go_sem ↓] theorem chk_store_loc (E dst t x y ty pos after g k tm):chkA E ⟨dst,.store t x y,ty,pos,after,g⟩ (.loc k) tm=isLp k (opd E tm x):=rfl
@[go_sem ↓] theorem chk_store_heap (E dst t x y ty pos after g tm):chkA E ⟨dst,.store t x y,ty,pos,after,g⟩ .heap tm=notLp (opd E tm x):=rfl
@[go_sem ↓] theorem chk_load_heap (E dst t x ty pos after g tm):chkA E ⟨dst,.load t x,ty,pos,after,g⟩ .heap tm=notLp (opd E tm x):=rfl
@[go_sem ↓] theorem chk_call_heap (E dst c ty pos after g tm):chkA E ⟨dst,.call c,ty,pos,after,g⟩ .heap tm=true:=rfl
@[go_sem ↓] theorem chk_bs_frz (E dst t n) (ps:List (Nat×Operand)) (ty pos after g tm):chkA E ⟨dst,.buildSlice t n ps.toArray,ty,pos,after,g⟩ .frz tm=(ps.map fun p=>opd E tm p.2).all (frzV depthP):=rfl
@[go_sem] theorem notLp_ptr (a b c d):notLp (.ptr a b c d)=true:=rfl
@[go_sem] theorem notLp_fptr (a b):notLp (.fptr a b)=true:=rfl
@[go_sem] theorem isLp_lp (s a b):isLp s (.lp s a b)=true:=by simp [isLp]
@[go_sem] theorem frzV_int (k n):frzV depthP (.int k n)=true:=rfl
section
variable (E:Env) (cf:CallF) (fid:Nat)
def ropsC (ops:Array Oper) (n0 m len:Nat) (os:List Oper) (as:List Ann) (rs:List (Option Nat)) (tm X:List Val) (H:Hp) (ds:DS):CRes:=
 match runR E cf fid ops n0 m len os as rs (tm++X,H) with
 |some s=> .normal (s.1.take len) (fillX n0 (s.1.drop len) s.2) ds
 |none=> .fail
theorem goDrawn_rs (ops:List Oper) (d:DI) (tm H ds) (n:Nat) (hl:tm.length=n) (h1:(lowB n d.R&&lowB n d.W)=true) (h2:d.rs.isEmpty=false):
  goDrawn E cf fid ops.toArray (some d) tm H ds=ropsC E cf fid ops.toArray H.n d.m n ops d.anns d.rs tm (List.replicate d.m (.tup [])) (pushR d.m H) ds:=by
 subst hl
 cases h:d.rs with
 |nil=>rw [h] at h2;cases h2
 | cons r rs=>
   simp only [goDrawn,h,evalDrawnR,h1,ropsC];cases runR E cf fid ops.toArray H.n d.m tm.length ops d.anns (r::rs) (tm++List.replicate d.m (.tup []),pushR d.m H)<;>rfl
@[reducible] def easyA:Ann→Bool
 | .plain=>true
 | .loc _=>true
 | .frz=>true
 | .rd1 _=>true
 |_=>false
theorem rops_none (ops:Array Oper) (n0 m len:Nat) (o:Oper) (os:List Oper) (a:Ann) (as rs) (tm X:List Val) (H ds) (hl:tm.length=len) (ha:easyA a=true):
  ropsC E cf fid ops n0 m len (o::os) (a::as) (none::rs) tm X H ds=wantC (wantedP ops tm o)
   (fun _=>ifC (chkA E o a tm) (fun _=>nxtD E fid o.dst (evalOp E cf fid o tm H) (fun tm H=>ropsC E cf fid ops n0 m len os as rs tm X H ds) ⟨⟩) (fun _=> .fail) ⟨⟩ ⟨⟩)
   (fun _=>setC E fid o.dst (.tup []) tm (fun tm=>ropsC E cf fid ops n0 m len os as rs tm X H ds) ⟨⟩) ⟨⟩ ⟨⟩:=by
 have h1:(tm++X).take len=tm:=by rw [←hl];simp
 have h2:(tm++X).drop len=X:=by rw [←hl];simp
 have h3:stepR E cf fid ops n0 m len o a none (tm++X,H)=stepP E cf fid ops len o a (tm++X,H):=by cases a<;>first|rfl|cases ha
 unfold ropsC;simp only [runR,h3,stepP,h1,h2,stepA,wantC]
 cases wantedP ops tm o with
 |none=>rfl
 | some b=>cases b with
   | false=>
     simp only [put2,setC];cases putR E fid o.dst (.tup []) tm<;>rfl
   | true=>
     simp only []
     cases chkA E o a tm with
     |false=>rfl
     | true=>
       simp only [ifC,nxtD]
       cases evalOp E cf fid o tm H with
       | ok v tm' H'=>
         simp only [stepOk,put2];cases putR E fid o.dst v tm'<;>rfl
       |pan=>rfl
       |fail=>rfl
theorem rops_nil (ops:Array Oper) (n0 m len:Nat) (as rs) (tm X:List Val) (H ds) (hl:tm.length=len):
  ropsC E cf fid ops n0 m len [] as rs tm X H ds= .normal tm (fillX n0 X H) ds:=by
 have h1:(tm++X).take len=tm:=by rw [←hl];simp
 have h2:(tm++X).drop len=X:=by rw [←hl];simp
 simp [ropsC,runR,h1,h2]
theorem getT_append (tm X:List Val) (j:Nat):getT (tm++X) (tm.length+j)=getT X j:=by
 induction tm with
 |nil=>simp
 |cons x l ih=>simp only [List.cons_append,List.length_cons];rw [show l.length+1+j=(l.length+j)+1 by omega];exact ih
theorem setT_append (tm X:List Val) (j:Nat) (v:Val):setT (tm++X) (tm.length+j) v=tm++setT X j v:=by
 induction tm with
 |nil=>simp
 |cons x l ih=>simp only [List.cons_append,List.length_cons];rw [show l.length+1+j=(l.length+j)+1 by omega];simp only [setT];rw [ih]
def makeC (dst:Option Nat) (r:Option (Val×Val)) (tm:List Val) (k:List Val→Val→CRes) (_:Tok k):CRes:=match r with
 | some (v,c)=>match putR E fid dst v tm with
   |some tm=>k tm c
   |none=> .fail
 |none=> .fail
theorem rops_some (ops:Array Oper) (n0 m len j:Nat) (dst op ty pos after) (os:List Oper) (a:Ann) (as rs) (tm X:List Val) (H ds) (hl:tm.length=len) (hx:getT X j= .tup []):
  ropsC E cf fid ops n0 m len (⟨dst,op,ty,pos,after,none⟩::os) (a::as) (some j::rs) tm X H ds=
   makeC E fid dst (makeAt E fid ⟨dst,op,ty,pos,after,none⟩ tm (n0+j)) tm (fun tm c=>ropsC E cf fid ops n0 m len os as rs tm (setT X j c) H ds) ⟨⟩:=by
 have h1:(tm++X).take len=tm:=by rw [←hl];simp
 have h3:getT (tm++X) (len+j)= .tup []:=by rw [←hl,getT_append,hx]
 unfold ropsC;simp only [runR,stepR,h1,h3,unX,wantedP,makeC]
 cases makeAt E fid ⟨dst,op,ty,pos,after,none⟩ tm (n0+j) with
 |none=>rfl
 | some p=>
   obtain ⟨v,c⟩:=p;simp only []
   cases hp:putR E fid dst v tm with
   |none=>rfl
   | some tm'=>
     have hl2:tm'.length=len:=by
      rw [←hl]
      cases dst with
      |none=>simp [putR] at hp;rw [hp]
      | some d=>
        simp only [putR] at hp
        cases h:locSafe (E.loc fid d) v with
        |false=>rw [h] at hp;cases hp
        |true=>rw [h] at hp;simp at hp;rw [←hp,len_setT]
     have h2:(tm++X).drop len=X:=by rw [←hl];simp
     simp only [h2];rw [←hl2,setT_append]
end
@[go_sem ↓] theorem rops_none0 (E cf fid) (ops:Array Oper) (n0 m len:Nat) (dst op ty pos after) (os:List Oper) (a:Ann) (as rs) (tm X:List Val) (H ds) (hl:tm.length=len) (ha:easyA a=true):
  ropsC E cf fid ops n0 m len (⟨dst,op,ty,pos,after,none⟩::os) (a::as) (none::rs) tm X H ds=
   ifC (chkA E ⟨dst,op,ty,pos,after,none⟩ a tm) (fun _=>nxtD E fid dst (evalOp E cf fid ⟨dst,op,ty,pos,after,none⟩ tm H) (fun tm H=>ropsC E cf fid ops n0 m len os as rs tm X H ds) ⟨⟩) (fun _=> .fail) ⟨⟩ ⟨⟩:=by
 rw [rops_none E cf fid ops n0 m len _ os a as rs tm X H ds hl ha];rfl
attribute [go_sem ↓] rops_nil rops_some
@[go_sem] theorem makeC_some (E fid dst v c tm k u):makeC E fid dst (some (v,c)) tm k u=setC E fid dst v tm (fun tm=>k tm c) ⟨⟩:=rfl
def mkOf (r:ORes):Option (Val×Val):=match r with
 | .ok v _ ⟨_,[.cells _ _ _ cs]⟩=>some (v,.agg cs)
 |_=>none
@[go_sem ↓] theorem makeAt_slice (E fid dst t l c ty pos after g tm id):makeAt E fid ⟨dst,.makeSlice t l c,ty,pos,after,g⟩ tm id=mkOf (opMakeSlice E t (opd E tm l) (opd E tm c) tm ⟨id,[]⟩):=rfl
@[go_sem] theorem mkOf_ok (v tm id g d r cs):mkOf (.ok v tm (Hp.push ⟨id,[]⟩ (.cells g d r cs)))=some (v,.agg cs):=rfl
attribute [go_sem] Nat.add_zero
@[go_sem] theorem setT_zero (v x l):setT (x::l) 0 v=v::l:=by rw [setT]
theorem flat_rep (N:Nat) (z:Val):(List.replicate N [z]).flatten=List.replicate N z:=by
 induction N with
 |zero=>rfl
 |succ n ih=>simp [List.replicate_succ,ih]
theorem makeSlice_sl (E:Env) (t el N:Nat) (i:TypeInfo) (z:Val) (tm:List Val) (H:Hp) (hu:und E t=some (.slice el)) (hT:E.T el=some i) (hz:zeroT E el=some z) (hb:i.size=1) (hc:z.cells= [z]) (ho:okCell z=true)
  (hN:N*(i.bytes+1)≤roomN):opMakeSlice E t (.int .i64 (N:Nat)) (.int .i64 (N:Nat)) tm H= .ok (.ref H.n 0 0 1 N false) tm (H.push (.cells 0 0 0 (List.replicate N z))):=by
 show (match und E t,Val.int .i64 (Int.ofNat N),Val.int .i64 (Int.ofNat N) with
  |some (.slice el),.int _ (.ofNat len),.int _ (.ofNat cap)=>_
  |_,_,_=>_)=_
 rw [hu];simp only [hT,hz,hb,hc];rw [if_pos ⟨Nat.le_refl _,hN,by omega,rfl,by simp [ho]⟩];simp [flat_rep]
theorem setLget {β:Type} (l:List β) (i j:Nat) (x:β):(setL l i x)[j]? =if j=i∧i<l.length then some x else l[j]? :=by
 induction l generalizing i j with
 |nil=>simp [setL]
 | cons y l ih=>cases i with
   |zero=>cases j<;>simp [setL]
   | succ i=>cases j with
     |zero=>simp [setL]
     |succ j=>simp [setL,ih]
theorem get_set_ne (H:Hp) (i j:Nat) (o:Obj) (h:j≠i):(H.set i o).get j=H.get j:=by
 unfold Hp.set;split
 · next hi=>
   unfold Hp.get;show (if j<H.n then _ else none)=_;split
   · next hj=>
     show (setL H.l (H.n-1-i) o)[H.n-1-j]? =_;rw [setLget,if_neg (by omega)]
   · rfl
 · rfl
theorem get_set_same (H:Hp) (i:Nat) (o:Obj) (h:(H.get i).isSome=true):(H.set i o).get i=some o:=by obtain ⟨o',ho⟩:=Option.isSome_iff_exists.1 h;have hi:=get_lt ho;unfold Hp.get at ho;rw [if_pos hi] at ho;unfold Hp.set;rw [if_pos hi];unfold Hp.get;show (if i<H.n then _ else none)=_;rw [if_pos hi];show (setL H.l (H.n-1-i) o)[H.n-1-i]? =_;rw [setLget,if_pos ⟨rfl,(List.getElem?_eq_some_iff.1 ho).1⟩]
theorem n_set (H:Hp) (i:Nat) (o:Obj):(H.set i o).n=H.n:=by unfold Hp.set;split<;>rfl
theorem n_push (H:Hp) (o:Obj):(H.push o).n=H.n+1:=rfl
theorem Ext.set {A B:Hp} (h:Ext A B) {i:Nat} (hi:A.n≤i) (o:Obj):Ext A (B.set i o):=
 ⟨by rw [n_set];exact h.1,fun j hj=>by rw [get_set_ne _ _ _ _ (by omega),h.2 j hj]⟩
def app1 (el b:Nat) (v a:Val) (H:Hp):Option (Val×Hp):=match v with
 | .nilsl=>some (.ref H.n (genOf el) 0 1 1 false,H.push (.cells (genOf el) (genOf el) 0 [a]))
 | .sl rows true=>if (rows.length+1)*(b+1)≤roomN∧rows.all (fun r=>r.length==1)=true then some (.ref H.n 0 0 1 (rows.length+1) false,H.push (.cells 0 0 0 (rows.flatten++ [a]))) else none
 | .ref id gen off k len clip=>match H.get id with
   | some (.cells g dirty ro cs)=>
     if k=1∧(len+1)*(b+1)≤roomN∧dirty≤gen then
      if clip then
       match sub cs off (len*k) with
       |some old=>some (.ref H.n 0 0 k (len+1) false,H.push (.cells 0 0 0 (old++ [a])))
       |none=>none
      else if gen=g∧off+len*k=cs.length∧ro≤cs.length∧tyOK g el=true then some (.ref id (gen+1) off k (len+1) false,H.set id (.cells (gen+1) dirty ro (cs++ [a])))
      else if gen=g∧ro≤off+len*k∧off+(len+1)*k≤cs.length then
       match upd cs (off+len*k) [a] with
       |some c=>some (.ref id gen off k (len+1) false,H.set id (.cells g gen ro c))
       |none=>none
      else none
     else none
   |_=>none
 |_=>none
theorem append_one (E:Env) (t el:Nat) (i:TypeInfo) (v a:Val) (H:Hp) (hu:und E t=some (.slice el)) (hT:E.T el=some i) (hs:i.size=1) (hb:i.bytes≤64) (ha:okCell a=true):
  appendP E t t v (.sl [[a]] true) H=app1 el i.bytes v a H:=by
 have h1:newElems E el 1 (.slice el) (.sl [[a]] true) H=some ([a],1):=by simp [newElems,elemsOf]
 have hr:1*(i.bytes+1)≤roomN:=by unfold roomN;omega
 unfold appendP app1;simp only [hu,hT,hs,h1];rw [if_pos ⟨by omega,by omega⟩];simp only [List.all_cons,List.all_nil,ha,Bool.and_true,if_true,fL_eq,fN_eq,fV_eq,fH_eq]
 cases v with
 |nilsl=>simp only [if_pos hr]
 |sl rows c=>cases c<;>rfl
 | ref id gen off k len c=>
   simp only []
   cases H.get id with
   |none=>rfl
   |some o=>cases o<;>rfl
 |_=>rfl
theorem ixA_ref (k id gen off len:Nat) (c:Bool) (j:Nat):ixA k (.ref id gen off k len c) (.int .i64 (j:Nat))=if j<len then some (.ptr id gen (off+j*k) (off+j*k+k)) else none:=by show (if k=k∧j<len then some (Val.ptr id gen (off+j*k) (off+j*k+k)) else none)=_;simp
attribute [go_sem] Nat.add_eq_left Nat.left_eq_add Nat.add_left_cancel_iff ixA_ref Nat.zero_add Nat.mul_one get_set_same get_set_ne n_set n_push ne_eq not_false_eq_true Option.isSome_some List.length_map List.length_set
@[go_sem] theorem builtin_app (E t1 t2 x y tm H):opBuiltin E .append [t1,t2] [x,y] tm H=okVH (appendP E t1 t2 x y H) tm:=rfl
@[go_sem] theorem okVH_some (v H tm):okVH (some (v,H)) tm= .ok v tm H:=rfl
theorem rep_set (n j:Nat) (a b:Int) (h:j<n):(List.replicate j a++List.replicate (n-j) b).set j a=List.replicate (j+1) a++List.replicate (n-(j+1)) b:=by rw [List.set_append_right _ _ (by simp)];simp only [List.length_replicate,Nat.sub_self];rw [show n-j=(n-(j+1))+1 by omega,List.replicate_succ,List.set_cons_zero,List.replicate_succ',List.append_assoc];rfl
theorem fill3 (H:Hp) (a b c:List Val) (H':Hp) (h:fillX H.n [.agg a,.agg b,.agg c] (pushR 3 H)=H'):
  H'.n=H.n+3∧H'.get H.n=some (.cells 0 0 0 a)∧H'.get (H.n+1)=some (.cells 0 0 0 b)∧H'.get (H.n+2)=some (.cells 0 0 0 c)∧ ∀i,i<H.n→H'.get i=H.get i:=by
 have h1:(pushR 3 H).get H.n=some .rsv:=by show (((H.push .rsv).push .rsv).push .rsv).get H.n=_;rw [get_push_old _ _ _ (by simp [n_push];omega),get_push_old _ _ _ (by simp [n_push]),get_push_new]
 have h2:(pushR 3 H).get (H.n+1)=some .rsv:=by show (((H.push .rsv).push .rsv).push .rsv).get (H.push .rsv).n=_;rw [get_push_old _ _ _ (by simp [n_push]),get_push_new]
 have h3:(pushR 3 H).get (H.n+2)=some .rsv:=by show (((H.push .rsv).push .rsv).push .rsv).get ((H.push .rsv).push .rsv).n=_;rw [get_push_new]
 have h4: ∀i,i<H.n→(pushR 3 H).get i=H.get i:=by intro i hi;show (((H.push .rsv).push .rsv).push .rsv).get i=_;rw [get_push_old _ _ _ (by simp [n_push];omega),get_push_old _ _ _ (by simp [n_push];omega),get_push_old _ _ _ hi]
 have h5:(pushR 3 H).n=H.n+3:=rfl;generalize pushR 3 H=P at*;have:H'=((P.set H.n (.cells 0 0 0 a)).set (H.n+1) (.cells 0 0 0 b)).set (H.n+2) (.cells 0 0 0 c):=by rw [←h];rfl
 subst this;have n1:H.n≠H.n+1:=by omega
 have n2:H.n≠H.n+2:=by omega
 have n3:H.n+1≠H.n+2:=by omega
 refine ⟨by simp only [n_set,h5],?_,?_,?_,fun i hi=> ?_⟩
 · rw [get_set_ne _ _ _ _ n2,get_set_ne _ _ _ _ n1,get_set_same _ _ _ (by rw [h1];rfl)]
 · rw [get_set_ne _ _ _ _ n3,get_set_same _ _ _ (by rw [get_set_ne _ _ _ _ n1.symm,h2];rfl)]
 · rw [get_set_same _ _ _ (by rw [get_set_ne _ _ _ _ n3.symm,get_set_ne _ _ _ _ n2.symm,h3];rfl)]
 · rw [get_set_ne _ _ _ _ (by omega),get_set_ne _ _ _ _ (by omega),get_set_ne _ _ _ _ (by omega),h4 i hi]
@[go_sem] theorem upd2 (a b x y):upd [a,b] 0 [x,y]=some [x,y]:=rfl
@[go_sem] theorem upd3 (a b c x y z):upd [a,b,c] 0 [x,y,z]=some [x,y,z]:=rfl
@[go_sem] theorem upd4 (a b c d x y z w):upd [a,b,c,d] 0 [x,y,z,w]=some [x,y,z,w]:=rfl
section
variable (E:Env) (t:Nat) (k k':IntKind) (a b:Int)
theorem binP_and:binP E .and t (.int k a) (.int k b)=some (.int k (k.wrap ((BitVec.ofInt k.bits a&&&BitVec.ofInt k.bits b).toNat))):=by simp [binP,binInt,binII]
theorem binP_shr (h:0≤b):binP E .shr t (.int k a) (.int k' b)=some (.int k (a.fdiv (2^(min b.toNat k.bits)))):=by simp [binP,binInt,h]
end
theorem wrapU (x:Int) (h1:0≤x) (h2:x<18446744073709551616):IntKind.u64.wrap x=x:=by
 have e1:(2:Int)^64=18446744073709551616:=by decide
 simp only [IntKind.wrap,IntKind.bits,IntKind.signed,Bool.false_and,e1];simp;omega
theorem and_small (n:Nat) (h:n≤400):((BitVec.ofInt 64 (n:Int)&&&BitVec.ofInt 64 4294967295).toNat:Int)=n:=by
 have: ∀n:Nat,n<401→((BitVec.ofInt 64 (n:Int)&&&BitVec.ofInt 64 4294967295).toNat:Int)=n:=by decide+kernel
 exact this n (by omega)
section
variable (E:Env) (t:Nat) (n:Nat) (h:n≤400)
include h
theorem and_n:binP E .and t (.int .u64 (n:Int)) (.int .u64 4294967295)=some (.int .u64 (n:Int)):=by rw [binP_and];show some (Val.int .u64 (IntKind.u64.wrap ((BitVec.ofInt 64 (n:Int)&&&BitVec.ofInt 64 4294967295).toNat:Int)))=_;rw [and_small n h,wrapU _ (by omega) (by omega)]
theorem shr_n (k):binP E .shr t (.int .u64 (n:Int)) (.int k 32)=some (.int .u64 0):=by
 rw [binP_shr _ _ _ _ _ _ (by decide)];have:(n:Int).fdiv (2^(min (32:Int).toNat IntKind.u64.bits))=0:=by
  have: ∀n:Nat,n<401→(n:Int).fdiv (2^(min (32:Int).toNat IntKind.u64.bits))=0:=by decide+kernel
  exact this n (by omega)
 rw [this]
omit h in
theorem mul0_n:binP E .mul t (.int .u64 0) (.int .u64 (n:Int))=some (.int .u64 0):=by rw [binP_mul,Int.zero_mul];rfl
end
theorem and_1 (E:Env) (t):binP E .and t (.int .u64 1) (.int .u64 4294967295)=some (.int .u64 1):=and_n E t 1 (by decide)
theorem and_0 (E:Env) (t):binP E .and t (.int .u64 0) (.int .u64 4294967295)=some (.int .u64 0):=and_n E t 0 (by decide)
theorem shr_1 (E:Env) (t k):binP E .shr t (.int .u64 1) (.int k 32)=some (.int .u64 0):=shr_n E t 1 (by decide) k
theorem shr_0 (E:Env) (t k):binP E .shr t (.int .u64 0) (.int k 32)=some (.int .u64 0):=shr_n E t 0 (by decide) k
@[go_sem] theorem builtin_copy (E t1 t2 x y tm H):opBuiltin E .copy [t1,t2] [x,y] tm H=okVH (copyP E t1 x y H) tm:=rfl
@[go_sem] theorem chk_callB (E dst b) (as:List Operand) (ts:List Nat) (ty pos after g tm):chkA E ⟨dst,.call ⟨.builtin b,as.toArray,ts.toArray⟩,ty,pos,after,g⟩ .heap tm=true:=rfl
section
variable (E:Env) (cf:CallF) (fid:Nat)
def winH (o:Oper) (tm:List Val) (H:Hp) (hs:List Hp):List Nat→Bool
 | []=>true
 | k::ks=>match hs[k]? with
   |some h=>sameO (rdV E o tm h) (rdV E o tm H)&&winH o tm H hs ks
   |none=>false
theorem winLoad_H (o tm H) (tr:List RS): ∀ks,winLoad E o tm H tr ks=winH E o tm H (tr.map (·.2)) ks
 | []=>rfl
 | k::ks=>by
   simp only [winLoad,winH,List.getElem?_map]
   cases tr[k]? with
   |none=>rfl
   |some s=>simp only [Option.map_some,winLoad_H o tm H tr ks]
structure Chk where
  o:Oper
  ks:List Nat
  tm:List Val
  H:Hp
def chkAll (hs:List Hp) (l:List Chk):Bool:=match l with
 | []=>true
 |c::l=>winH E c.o c.tm c.H hs c.ks&&chkAll hs l
def addC (o:Oper) (a:Ann) (tm:List Val) (H:Hp) (l:List Chk):List Chk:=match a with
 | .read ks=>l++ [⟨o,ks,tm,H⟩]
 |_=>l
def wopsC (ops:Array Oper):List Oper→List Ann→List Hp→List Chk→List Val→Hp→DS→CRes
 |o::os,a::as,hs,l,tm,H,ds=>optC (stepA E cf fid ops o a (tm,H)) (fun tm' H'=>wopsC ops os as (hs++ [H]) (addC o a tm H l) tm' H' ds)
 | [],_,hs,l,tm,H,ds=>ifC (chkAll E (hs++ [H]) l) (fun _=> .normal tm H ds) (fun _=> .fail) ⟨⟩ ⟨⟩
 |_,_,_,_,_,_,_=> .fail
theorem chkAll_append (hs l m):chkAll E hs (l++m)=(chkAll E hs l&&chkAll E hs m):=by
 induction l with
 |nil=>simp [chkAll]
 |cons c l ih=>simp [chkAll,ih,Bool.and_assoc]
theorem winOp_of (ops:Array Oper) (o:Oper) (a:Ann) (tm H) (tr:List RS) (h:chkAll E (tr.map (·.2)) (addC o a tm H [])=true):winOp E ops o a (tm,H) tr=true:=by
 cases a with
 | read ks=>
   simp only [addC,List.nil_append,chkAll,Bool.and_true] at h;simp only [winOp];split
   · split
     · split
       · rw [winLoad_H];exact h
       · rfl
     · rw [winLoad_H];exact h
   · rfl
 |_=>rfl
theorem addC_eq (o a tm H l):addC o a tm H l=l++addC o a tm H []:=by cases a<;>simp [addC]
theorem runA_wops (ops:Array Oper) (ds:DS): ∀(os:List Oper) (as:List Ann) (s:RS) (pre:List RS) (l:List Chk) (tm':List Val) (H':Hp),
  wopsC E cf fid ops os as (pre.map (·.2)) l s.1 s.2 ds= .normal tm' H' ds→
   ∃tr,runA E cf fid ops os as s=some tr∧lastS tr=some (tm',H')∧winAll E ops (pre++tr) os as tr=true∧chkAll E ((pre++tr).map (·.2)) l=true
 | [],as,s,pre,l,tm',H',h=>by
   simp only [wopsC] at h
   cases hc:chkAll E (pre.map (·.2)++ [s.2]) l with
   |false=>rw [hc] at h;cases h
   | true=>
     rw [hc] at h;cases h;refine ⟨[s],?_,?_,?_,?_⟩
     · simp [runA]
     · simp [lastS]
     · simp [winAll]
     · rw [List.map_append];exact hc
 |_::_,[],s,pre,l,tm',H',h=>by simp [wopsC] at h
 | o ::os,a::as,s,pre,l,tm',H',h=>by
   simp only [wopsC] at h
   cases h1:stepA E cf fid ops o a (s.1,s.2) with
   |none=>rw [h1] at h;cases h
   | some s'=>
     rw [h1] at h;simp only [optC] at h;have e:pre.map (·.2)++ [s.2]=(pre++ [s]).map (·.2):=by simp
     rw [e] at h;obtain ⟨tr,e1,e2,e3,e4⟩:=runA_wops ops ds os as s' (pre++ [s]) _ tm' H' h;rw [addC_eq,chkAll_append,Bool.and_eq_true] at e4;have e5:pre++ [s]++tr=pre++s::tr:=by simp
     rw [e5] at e3 e4;refine ⟨s::tr,?_,?_,?_,e4.1⟩
     · simp only [runA];have h1':stepA E cf fid ops o a s=some s':=h1;simp only [h1',e1]
     · obtain ⟨x,l',rfl⟩:=runA_ne E cf fid ops os as s' tr e1;simp only [lastS];exact e2
     · simp only [winAll,e3,Bool.and_true];exact winOp_of E ops o a s.1 s.2 _ e4.2
theorem goDrawn_read (ops:List Oper) (d:DI) (tm H ds tm' H') (h2:d.rs= []) (h:wopsC E cf fid ops.toArray ops d.anns [] [] tm H ds= .normal tm' H' ds):
  goDrawn E cf fid ops.toArray (some d) tm H ds= .normal tm' H' ds:=by
 obtain ⟨tr,e1,e2,e3,-⟩:=runA_wops E cf fid ops.toArray ds ops d.anns (tm,H) [] [] tm' H' h;simp only [List.nil_append] at e3;simp only [goDrawn,h2,evalDrawn,e1,e3,e2]
end
def goDrawnX:= @goDrawn
def grC (r:CRes) (x:CRes):CRes:=match r with
 | .normal tm H ds=> .normal tm H ds
 |_=>x
@[go_sem] theorem grC_normal (tm H ds x):grC (.normal tm H ds) x= .normal tm H ds:=rfl
theorem wops_ds (E cf fid ops): ∀os as hs l tm H ds tm' H' ds',wopsC E cf fid ops os as hs l tm H ds= .normal tm' H' ds'→ds'=ds
 | [],as,hs,l,tm,H,ds,tm',H',ds',h=>by
   simp only [wopsC] at h
   cases hc:chkAll E (hs++ [H]) l with
   |false=>rw [hc] at h;cases h
   |true=>rw [hc] at h;cases h;rfl
 |_::_,[],_,_,_,_,_,_,_,_,h=>by simp [wopsC] at h
 | o::os,a::as,hs,l,tm,H,ds,tm',H',ds',h=>by
   simp only [wopsC] at h
   cases h1:stepA E cf fid ops o a (tm,H) with
   |none=>rw [h1] at h;cases h
   |some s'=>rw [h1] at h;exact wops_ds E cf fid ops os as _ _ _ _ _ _ _ _ h
theorem goDrawn_gr (E cf fid) (ops:List Oper) (d:DI) (tm H ds) (h2:d.rs= []):
  goDrawn E cf fid ops.toArray (some d) tm H ds=grC (wopsC E cf fid ops.toArray ops d.anns [] [] tm H ds) (goDrawnX E cf fid ops.toArray (some d) tm H ds):=by
 generalize hr:wopsC E cf fid ops.toArray ops d.anns [] [] tm H ds=r
 cases r with
 | normal tm' H' ds'=>
   have:=wops_ds _ _ _ _ _ _ _ _ _ _ _ _ _ _ hr;subst this;exact goDrawn_read E cf fid ops d tm H ds' tm' H' h2 hr
 |_=>rfl
@[go_sem ↓] theorem wops_nil (E cf fid ops as hs l tm H ds):wopsC E cf fid ops [] as hs l tm H ds=ifC (chkAll E (hs++ [H]) l) (fun _=> .normal tm H ds) (fun _=> .fail) ⟨⟩ ⟨⟩:=by cases as<;>rfl
theorem wops_cons (E:Env) (cf fid) (ops:Array Oper) (o:Oper) (os) (a:Ann) (as hs l tm H ds):
  wopsC E cf fid ops (o::os) (a::as) hs l tm H ds=wantC (wantedP ops tm o)
   (fun _=>ifC (chkA E o a tm) (fun _=>nxtD E fid o.dst (evalOp E cf fid o tm H) (fun tm' H'=>wopsC E cf fid ops os as (hs++ [H]) (addC o a tm H l) tm' H' ds) ⟨⟩) (fun _=> .fail) ⟨⟩ ⟨⟩)
   (fun _=>setC E fid o.dst (.tup []) tm (fun tm'=>wopsC E cf fid ops os as (hs++ [H]) (addC o a tm H l) tm' H ds) ⟨⟩) ⟨⟩ ⟨⟩:=by
 rw [wopsC];unfold stepA wantC;simp only []
 cases wantedP ops tm o with
 |none=>rfl
 | some b=>cases b with
   | false=>
     simp only [put2,setC];cases putR E fid o.dst (.tup []) tm<;>rfl
   | true=>
     simp only []
     cases chkA E o a tm with
     |false=>rfl
     | true=>
       simp only [ifC,nxtD]
       cases evalOp E cf fid o tm H with
       | ok v tm' H'=>
         simp only [stepOk,put2];cases putR E fid o.dst v tm'<;>rfl
       |pan=>rfl
       |fail=>rfl
@[go_sem ↓] theorem wops_none (E:Env) (cf fid) (ops:Array Oper) (dst op ty pos after os) (a:Ann) (as hs l tm H ds):
  wopsC E cf fid ops (⟨dst,op,ty,pos,after,none⟩::os) (a::as) hs l tm H ds=
   ifC (chkA E ⟨dst,op,ty,pos,after,none⟩ a tm) (fun _=>nxtD E fid dst (evalOp E cf fid ⟨dst,op,ty,pos,after,none⟩ tm H) (fun tm' H'=>wopsC E cf fid ops os as (hs++ [H]) (addC ⟨dst,op,ty,pos,after,none⟩ a tm H l) tm' H' ds) ⟨⟩) (fun _=> .fail) ⟨⟩ ⟨⟩:=by
 rw [wops_cons];rfl
@[go_sem] theorem addC_read (o ks tm H l):addC o (.read ks) tm H l=l++ [⟨o,ks,tm,H⟩]:=rfl
@[go_sem] theorem addC_plain (o tm H l):addC o .plain tm H l=l:=rfl
@[go_sem] theorem addC_frz (o tm H l):addC o .frz tm H l=l:=rfl
@[go_sem] theorem addC_loc (o s tm H l):addC o (.loc s) tm H l=l:=rfl
@[go_sem] theorem addC_heap (o tm H l):addC o .heap tm H l=l:=rfl
@[go_sem] theorem addC_rd1 (o k tm H l):addC o (.rd1 k) tm H l=l:=rfl
@[go_sem] theorem chkAll_nil (E hs):chkAll E hs []=true:=rfl
@[go_sem] theorem chkAll_cons (E hs c l):chkAll E hs (c::l)=(winH E c.o c.tm c.H hs c.ks&&chkAll E hs l):=rfl
@[go_sem] theorem winH_nil (E o tm H hs):winH E o tm H hs []=true:=rfl
def winK (E:Env) (o:Oper) (tm:List Val) (H:Hp) (hs:List Hp) (ks:List Nat):Option Hp→Bool
 |some h=>sameO (rdV E o tm h) (rdV E o tm H)&&winH E o tm H hs ks
 |none=>false
@[go_sem] theorem winH_cons (E o tm H hs k ks):winH E o tm H hs (k::ks)=winK E o tm H hs ks hs[k]? :=by unfold winK;rw [winH]
@[go_sem] theorem winK_some (E o tm H hs ks h):winK E o tm H hs ks (some h)=(sameO (rdV E o tm h) (rdV E o tm H)&&winH E o tm H hs ks):=rfl
@[go_sem] theorem rdV_load (E dst t x ty pos after g tm H):rdV E ⟨dst,.load t x,ty,pos,after,g⟩ tm H=loadP E t (opd E tm x) tm H:=rfl
theorem sameW_ref (a b c d e f):sameW (.ref a b c d e f) (.ref a b c d e f)=true:=by simp [sameW]
@[go_sem] theorem sameO_ref (a b c d e f):sameO (some (.ref a b c d e f)) (some (.ref a b c d e f))=true:=sameW_ref a b c d e f
@[go_sem] theorem sameO_nilsl:sameO (some .nilsl) (some .nilsl)=true:=rfl
theorem retC_pub (E:Env) (f n0 tm v H v' H') (hk:E.keep f=false) (h:pub depthP v H=some (v',H')):retC E f n0 tm (.ret v H)= .ok v' tm (gc n0 v' H'):=by simp only [retC,hk,h];rfl
theorem gc_self (v H):gc H.n v H=H:=by unfold gc;rw [if_pos (Nat.ble_eq_true_of_le (Nat.le_refl _))]
theorem pub_int2 (k k2:IntKind) (a b:Int) (H:Hp):pub depthP (Val.tup [.int k a,.int k2 b]) H=some (Val.tup [.int k a,.int k2 b],H):=by show (match mapH (pub 49) [Val.int k a,.int k2 b] H with|some (cs,H)=>fL cs fun cs=>some (Val.tup cs,H)|none=>none)=_;rfl
structure BS where
  fr:List Int
  ed:List Int
  fa:List Int
  q:List Int
def gi (l:List Int) (i:Nat):Int:=(l[i]?).getD 0
theorem gi_some {l:List Int} {i:Nat} (h:i<l.length):l[i]? =some (gi l i):=by simp [gi,h]
def relax (at' k:Nat) (s:BS) (t:Nat):BS:=
 if gi s.fa t<0 then ⟨s.fr.set t at',s.ed.set t k,s.fa.set t (gi s.fa at'+1),s.q++ [(t:Int)]⟩ else s
def relaxN (at':Nat) (ts:List Nat):Nat→BS→BS
 |0,s=>s
 | j+1,s=>match ts[j]? with
   |some t=>relax at' j (relaxN at' ts j s) t
   |none=>relaxN at' ts j s
def stepS (adj:Nat→List Nat) (s:BS):BS:=match s.q with
 | []=>s
 | a::_=>let s':=relaxN a.toNat (adj a.toNat) (adj a.toNat).length s
   {s' with q:=s'.q.tail}
def iterS (adj:Nat→List Nat):Nat→BS→BS
 |0,s=>s
 |m+1,s=>stepS adj (iterS adj m s)
structure WfS (n:Nat) (b:Int) (s:BS):Prop where
  lfr:s.fr.length=n
  led:s.ed.length=n
  lfa:s.fa.length=n
  qok: ∀a∈s.q,0≤a∧a<n∧0≤gi s.fa a.toNat
  bnd: ∀x∈s.fa,-1≤x∧x≤b
def neg (l:List Int):Nat:=l.countP (fun x=>decide (x<0))
theorem gi_set (l:List Int) (i j:Nat) (v:Int):gi (l.set i v) j=if i=j∧i<l.length then v else gi l j:=by
 simp only [gi,List.getElem?_set];by_cases h:i=j
 · subst h;by_cases h2:i<l.length
   · simp [h2]
   · simp [h2]
 · simp [h]
theorem neg_set (l:List Int) (t:Nat) (v:Int) (h:t<l.length) (h1:gi l t<0) (h2:0≤v):neg (l.set t v)+1=neg l:=by
 induction l generalizing t with
 |nil=>simp at h
 | cons x l ih=>cases t with
   | zero=>
     simp only [gi,List.getElem?_cons_zero,Option.getD_some] at h1;simp only [neg,List.set_cons_zero,List.countP_cons];have: ¬v<0:=by omega
     simp [h1,this]
   | succ t=>
     have:=ih t (by simpa using h) (by simpa [gi] using h1);simp only [neg,List.set_cons_succ,List.countP_cons] at this⊢;omega
theorem relax_wf {n:Nat} {b:Int} {s:BS} (h:WfS n b s) (at' k t:Nat) (ht:t<n) (ha:0≤gi s.fa at') (hb: -1≤b) (hat:at'<n):
  WfS n (b+1) (relax at' k s t)∧neg (relax at' k s t).fa+(relax at' k s t).q.length=neg s.fa+s.q.length∧0≤gi (relax at' k s t).fa at'∧ ∃l,(relax at' k s t).q=s.q++l:=by
 unfold relax;split
 · next hlt=>
   have hm:gi s.fa at'≤b:=(h.bnd (gi s.fa at') (List.mem_of_getElem? (gi_some (by rw [h.lfa];exact hat)))).2;refine ⟨⟨by simp [h.lfr],by simp [h.led],by simp [h.lfa],?_,?_⟩,?_,?_,⟨_,rfl⟩⟩
   · intro a hm2;simp only [List.mem_append,List.mem_singleton] at hm2;simp only [gi_set,h.lfa];rcases hm2 with hm2|rfl
     · obtain ⟨h1,h2,h3⟩:=h.qok a hm2;refine ⟨h1,h2,?_⟩;split<;>omega
     · refine ⟨by omega,by omega,?_⟩;simp [ht];omega
   · intro x hx;rcases List.mem_or_eq_of_mem_set hx with hx|rfl
     · have:=h.bnd x hx;omega
     · omega
   · have:=neg_set s.fa t (gi s.fa at'+1) (by rw [h.lfa];exact ht) hlt (by omega);simp only [List.length_append,List.length_singleton];omega
   · simp only [gi_set,h.lfa];split<;>omega
 · exact ⟨⟨h.lfr,h.led,h.lfa,h.qok,fun x hx=>by have:=h.bnd x hx;omega⟩,rfl,ha,[],by simp⟩
theorem relaxN_wf {n:Nat} {b:Int} {s:BS} (h:WfS n b s) (at':Nat) (ts:List Nat) (ht: ∀t∈ts,t<n) (ha:0≤gi s.fa at') (hb: -1≤b) (hat:at'<n) (j:Nat):
  WfS n (b+j) (relaxN at' ts j s)∧neg (relaxN at' ts j s).fa+(relaxN at' ts j s).q.length=neg s.fa+s.q.length∧0≤gi (relaxN at' ts j s).fa at'∧ ∃l,(relaxN at' ts j s).q=s.q++l:=by
 induction j with
 |zero=>exact ⟨by simpa [relaxN] using h,rfl,ha,[],by simp [relaxN]⟩
 | succ j ih=>
   obtain ⟨h1,h2,h3,l,h4⟩:=ih;simp only [relaxN]
   cases ht2:ts[j]? with
   |none=>exact ⟨⟨h1.lfr,h1.led,h1.lfa,h1.qok,fun x hx=>by have:=h1.bnd x hx;omega⟩,h2,h3,l,h4⟩
   | some t=>
     simp only [];obtain ⟨g1,g2,g3,l2,g4⟩:=relax_wf h1 at' j t (ht t (List.mem_of_getElem? ht2)) h3 (by omega) hat;refine ⟨?_,by omega,g3,l++l2,by rw [g4,h4,List.append_assoc]⟩;have e:b+(j:Int)+1=b+((j+1:Nat):Int):=by omega
     rw [←e];exact g1
theorem stepS_wf {n:Nat} {b:Int} {s:BS} (h:WfS n b s) (adj:Nat→List Nat) (a:Int) (q:List Int) (hq:s.q=a::q) (ht: ∀t∈adj a.toNat,t<n) (hb: -1≤b):
  WfS n (b+(adj a.toNat).length) (stepS adj s)∧neg (stepS adj s).fa+(stepS adj s).q.length+1=neg s.fa+s.q.length:=by
 obtain ⟨ha0,han,hag⟩:=h.qok a (by rw [hq];simp);obtain ⟨h1,h2,-,l,h4⟩:=relaxN_wf h a.toNat (adj a.toNat) ht hag hb (by omega) (adj a.toNat).length;simp only [stepS,hq];rw [hq] at h2 h4;refine ⟨⟨h1.lfr,h1.led,h1.lfa,fun x hx=>h1.qok x (List.mem_of_mem_tail hx),h1.bnd⟩,?_⟩;rw [h4] at h2⊢;simp at h2⊢;omega
structure Par (n i:Nat) (A:Nat→List Nat) (s:BS):Prop where
  root:gi s.fa i=0
  par: ∀k,k<n→0≤gi s.fa k→k≠i→ ∃p e:Nat,p<n∧gi s.fr k=p∧gi s.ed k=e∧(A p)[e]? =some k∧0≤gi s.fa p∧gi s.fa k=gi s.fa p+1
theorem relax_par {n i:Nat} {A:Nat→List Nat} {b:Int} {s:BS} (h:Par n i A s) (hw:WfS n b s) (at' k t:Nat) (ht:t<n) (hat:at'<n) (ha:0≤gi s.fa at') (hk:(A at')[k]? =some t):
  Par n i A (relax at' k s t):=by
 unfold relax;split
 · next hlt=>
   have hti:t≠i:=by intro e;rw [e,h.root] at hlt;omega
   have hta:t≠at':=by intro e;rw [e] at hlt;omega
   refine ⟨?_,fun x hx hxa hxi=> ?_⟩
   · show gi (s.fa.set t _) i=0;rw [gi_set,if_neg (by omega),h.root]
   · change 0≤gi (s.fa.set t (gi s.fa at'+1)) x at hxa;show∃p e:Nat,p<n∧gi (s.fr.set t at') x=p∧gi (s.ed.set t k) x=e∧(A p)[e]? =some x∧0≤gi (s.fa.set t (gi s.fa at'+1)) p∧gi (s.fa.set t (gi s.fa at'+1)) x=gi (s.fa.set t (gi s.fa at'+1)) p+1;by_cases e:t=x
     · subst e;refine ⟨at',k,hat,?_,?_,hk,?_,?_⟩
       · rw [gi_set,if_pos ⟨rfl,by rw [hw.lfr];exact ht⟩]
       · rw [gi_set,if_pos ⟨rfl,by rw [hw.led];exact ht⟩]
       · rw [gi_set,if_neg (by omega)];exact ha
       · rw [gi_set,if_pos ⟨rfl,by rw [hw.lfa];exact ht⟩,gi_set,if_neg (by omega)]
     · rw [gi_set,if_neg (by omega)] at hxa;obtain ⟨p,e2,h1,h2,h3,h4,h5,h6⟩:=h.par x hx hxa hxi;have htp:t≠p:=by intro e;rw [←e] at h5;omega
       refine ⟨p,e2,h1,?_,?_,h4,?_,?_⟩
       · rw [gi_set,if_neg (by omega),h2]
       · rw [gi_set,if_neg (by omega),h3]
       · rw [gi_set,if_neg (by omega)];exact h5
       · rw [gi_set,if_neg (by omega),gi_set,if_neg (by omega),h6]
 · exact h
theorem relaxN_par {n i:Nat} {A:Nat→List Nat} {b:Int} {s:BS} (h:Par n i A s) (hw:WfS n b s) (at':Nat) (hA: ∀t∈A at',t<n) (hat:at'<n) (ha:0≤gi s.fa at') (hb: -1≤b) (j:Nat):
  Par n i A (relaxN at' (A at') j s):=by
 induction j with
 |zero=>exact h
 | succ j ih=>
   simp only [relaxN]
   cases ht:(A at')[j]? with
   |none=>exact ih
   | some t=>
     obtain ⟨h1,-,h3,-⟩:=relaxN_wf hw at' (A at') hA ha hb hat j;exact relax_par ih h1 at' j t (hA t (List.mem_of_getElem? ht)) hat h3 ht
theorem stepS_par {n i:Nat} {A:Nat→List Nat} {b:Int} {s:BS} (h:Par n i A s) (hw:WfS n b s) (hA: ∀a,a<n→ ∀t∈A a,t<n) (hb: -1≤b):Par n i A (stepS A s)∧ ∃b',-1≤b'∧WfS n b' (stepS A s):=by
 cases hq:s.q with
 |nil=>simp only [stepS,hq];exact ⟨h,b,hb,hw⟩
 | cons a q=>
   obtain ⟨h0,h1,h2⟩:=hw.qok a (by rw [hq];simp);have hp:=relaxN_par h hw a.toNat (hA a.toNat (by omega)) (by omega) h2 hb (A a.toNat).length;have hs:=stepS_wf hw A a q hq (hA a.toNat (by omega)) hb;refine ⟨?_,_,?_,hs.1⟩
   · simp only [stepS,hq];exact ⟨hp.root,hp.par⟩
   · omega
theorem iterS_par {n i:Nat} {A:Nat→List Nat} {b:Int} {s:BS} (h:Par n i A s) (hw:WfS n b s) (hA: ∀a,a<n→ ∀t∈A a,t<n) (hb: -1≤b) (m:Nat):Par n i A (iterS A m s)∧ ∃b',-1≤b'∧WfS n b' (iterS A m s):=by
 induction m with
 |zero=>exact ⟨h,b,hb,hw⟩
 | succ m ih=>
   obtain ⟨h1,b',hb',h2⟩:=ih;exact stepS_par h1 h2 hA hb'
def Leads (A:Nat→List Nat):Nat→List Int→Nat→Prop
 |i,[],j=>i=j
 |i,a::w,j=> ∃e t:Nat,a=e∧(A i)[e]? =some t∧Leads A t w j
def Deep (n:Nat) (fa:List Int):Prop:= ∀x∈fa,x+neg fa<n
theorem relax_deep {n:Nat} {b:Int} {s:BS} (h:Deep n s.fa) (hw:WfS n b s) (at' k t:Nat) (ht:t<n) (ha:0≤gi s.fa at') (hat:at'<n):Deep n (relax at' k s t).fa:=by
 unfold relax;split
 · next hlt=>
   have h1:=neg_set s.fa t (gi s.fa at'+1) (by rw [hw.lfa];exact ht) hlt (by omega);intro x hx;change x∈s.fa.set t (gi s.fa at'+1) at hx;show x+neg (s.fa.set t (gi s.fa at'+1))<n;rcases List.mem_or_eq_of_mem_set hx with hx|rfl
   · have:=h x hx;omega
   · have:=h _ (List.mem_of_getElem? (gi_some (l:=s.fa) (i:=at') (by rw [hw.lfa];exact hat)));omega
 · exact h
theorem relaxN_deep {n:Nat} {b:Int} {s:BS} (h:Deep n s.fa) (hw:WfS n b s) (at':Nat) (ts:List Nat) (ht: ∀t∈ts,t<n) (ha:0≤gi s.fa at') (hb: -1≤b) (hat:at'<n): ∀j,Deep n (relaxN at' ts j s).fa
 |0=>h
 | j+1=>by
   have ih:=relaxN_deep h hw at' ts ht ha hb hat j;obtain ⟨h1,-,h3,-⟩:=relaxN_wf hw at' ts ht ha hb hat j;simp only [relaxN]
   cases ht2:ts[j]? with
   |none=>exact ih
   |some t=>exact relax_deep ih h1 at' j t (ht t (List.mem_of_getElem? ht2)) h3 hat
theorem iterS_deep {n i:Nat} {A:Nat→List Nat} {b:Int} {s:BS} (hp:Par n i A s) (hw:WfS n b s) (hd:Deep n s.fa) (hA: ∀a,a<n→ ∀t∈A a,t<n) (hb: -1≤b): ∀m,Deep n (iterS A m s).fa
 |0=>hd
 | m +1=>by
   have ih:=iterS_deep hp hw hd hA hb m;obtain ⟨-,b',hb',hw'⟩:=iterS_par hp hw hA hb m;simp only [iterS];generalize iterS A m s=s' at*
   cases hq:s'.q with
   | nil=>
     have:stepS A s'=s':=by simp [stepS,hq]
     rw [this];exact ih
   | cons a q=>
     obtain ⟨ha0,han,hag⟩:=hw'.qok a (by rw [hq];simp);simp only [stepS,hq];exact relaxN_deep ih hw' a.toNat (A a.toNat) (hA a.toNat (by omega)) hag hb' (by omega) _
def idxGo (b:Nat):Nat→Nat→Nat→Option Nat
 |0,_,_=>none
 | n+1,num,i=>match Nat.beq (num%256) b with
   |true=>some i
   |false=>idxGo b n (num/256) (i+1)
def pIdx:List Val→Hp→FRes:=fun args H=>match args with
 | [.str l n,.int .u8 (.ofNat b)]=>match Nat.blt b 256 with
   | true=>match idxGo b l n 0 with
     |some i=>fN i fun i=> .ret (.int .i64 (.ofNat i)) H
     |none=> .ret (.int .i64 (.negSucc 0)) H
   |false=> .fail
 |_=> .fail
def pNoEsc:List Val→Hp→FRes:=fun args H=>match args with
 | [x]=>match noLoc x with
   |true=> .ret x H
   |false=> .fail
 |_=> .fail
def intsOf:List Val→Option (List Int)
 | []=>some []
 | .int .i64 a::l=>match intsOf l with
   |some m=>some (a::m)
   |none=>none
 |_=>none
def pSeq (it el:Nat):List Val→Hp→FRes:=fun args H=>match args with
 | [.nilsl,.fn (.func f) [] [p]]=>match Nat.beq f it with
   | true=>match loadC 1 false (rowAtP [] H p) with
     | some x=>match elemsOf 1 H x with
       | some (a,n)=>match n with
         |0=> .fail
         | m+1=>match (intsOf a).isSome&&Nat.ble m 17592186043903 with
           |true=>fN (genOf el) fun g=>fV (.ref H.n g 0 1 (m+1) false) fun v=>fL a fun a=>fH (H.push (.cells g g 0 a)) fun H=> .ret v H
           |false=> .fail
       |none=> .fail
     |none=> .fail
   |false=> .fail
 |_=> .fail
def sortI (l:List Int):List Int:=l.mergeSort fun x y=>decide (x≤y)
def pSort:List Val→Hp→FRes:=fun args H=>match args with
 | [.nilsl]=> .ret (.tup []) H
 | [.ref id gen off 1 len false]=>match H.get id with
   | some (.cells g d ro cs)=>match decide (gen=g∧ro≤off∧d≤gen∧len<4611686018427387904) with
     | true=>match sub cs off len with
       | some a=>match intsOf a with
         | some l=>match upd cs off ((sortI l).map (Val.int .i64)) with
           |some c=>fL c fun c=>fH (H.set id (.cells g gen ro c)) fun H=> .ret (.tup []) H
           |none=> .fail
         |none=> .fail
       |none=> .fail
     |false=> .fail
   |_=> .fail
 |_=> .fail
def keyOf:Val→Option Int
 | .sl ([.int .i64 a]::_) _=>some a
 |_=>none
def pairsK:List Val→Option (List (Int×Val))
 | []=>some []
 | v::l=>match keyOf v,pairsK l with
   |some k,some m=>some ((k,v)::m)
   |_,_=>none
def leK (x y:Int×Val):Bool:=decide (x.1≤y.1)
def smallK (l:List (Int×Val)):Bool:=l.all fun p=>decide (-1000000≤p.1)&&decide (p.1≤1000000)
def pSortF (cmp:Nat):List Val→Hp→FRes:=fun args H=>match args with
 | [.ref id gen off 1 (m+1) false,.fn (.func f) [] []]=>match H.get id with
   | some (.cells g d ro cs)=>match decide (f=cmp∧gen=g∧ro≤off∧d≤gen∧m+1<4611686018427387904) with
     | true=>match sub cs off (m+1) with
       | some a=>match pairsK a with
         | some l=>match decide (l.map (·.1)).Nodup&&smallK l with
           | true=>match upd cs off ((l.mergeSort leK).map (·.2)) with
             |some c=>fL c fun c=>fH (H.set id (.cells g gen ro c)) fun H=> .ret (.tup []) H
             |none=> .fail
           |false=> .fail
         |none=> .fail
       |none=> .fail
     |false=> .fail
   |_=> .fail
 |_=> .fail
theorem sortI_perm (l:List Int):(sortI l).Perm l:=List.mergeSort_perm l _
theorem intsOf_map (l:List Int):intsOf (l.map (Val.int .i64))=some l:=by
 induction l with
 |nil=>rfl
 |cons a l ih=>simp [intsOf,ih]
theorem intsOf_some {l:List Val} {m:List Int} (h:intsOf l=some m):l=m.map (Val.int .i64):=by
 induction l generalizing m with
 |nil=>cases h;rfl
 | cons v l ih=>
   unfold intsOf at h;split at h
   · next h1=>cases h1
   · next a l' h1=>
     cases h1;split at h
     · next m' h2=>cases h;rw [ih h2];rfl
     · cases h
   · cases h
theorem pairsK_map {l:List (Int×Val)} (h: ∀p∈l,keyOf p.2=some p.1):pairsK (l.map (·.2))=some l:=by
 induction l with
 |nil=>rfl
 | cons p l ih=>
   have:=ih fun q hq=>h q (List.mem_cons_of_mem _ hq);simp [pairsK,h p (List.mem_cons_self ..),this]
theorem pairsK_some {l:List Val} {m:List (Int×Val)} (h:pairsK l=some m):l=m.map (·.2)∧ ∀p∈m,keyOf p.2=some p.1:=by
 induction l generalizing m with
 |nil=>cases h;exact ⟨rfl,fun p hp=>by cases hp⟩
 | cons v l ih=>
   simp only [pairsK] at h
   cases hk:keyOf v with
   |none=>rw [hk] at h;simp at h
   | some k=>
     rw [hk] at h
     cases hl:pairsK l with
     |none=>rw [hl] at h;simp at h
     | some m'=>
       rw [hl] at h;cases h;obtain ⟨h1,h2⟩:=ih hl;refine ⟨by rw [h1];rfl,fun p hp=> ?_⟩;rcases List.mem_cons.1 hp with rfl|hp
       · exact hk
       · exact h2 p hp
structure TS where
  at_:List Int
  low:List Int
  st:List Nat
  nx:Nat
  rs:List (List Nat)
def pushT (i:Nat) (t:TS):TS:=⟨t.at_.set i t.nx,t.low.set i t.nx,t.st++ [i],t.nx+1,t.rs⟩
def edgeT (v:Nat→TS→TS) (i:Nat) (t:TS) (k:Nat):TS:=
 if gi t.at_ k<0 then {v k t with low:=(v k t).low.set i (min (gi (v k t).low i) (gi (v k t).low k))}
 else if k∈t.st then {t with low:=t.low.set i (min (gi t.low i) (gi t.at_ k))} else t
def endT (srt:List Nat→List Nat) (i:Nat) (t:TS):TS:=
 if gi t.low i<gi t.at_ i then t
 else {t with st:=t.st.take (t.st.idxOf i),rs:=t.rs++ [srt (t.st.drop (t.st.idxOf i))]}
def visitT (srt:List Nat→List Nat) (adj:Nat→List Nat):Nat→Nat→TS→TS
 |0,_,t=>t
 |e+1,i,t=>endT srt i ((adj i).foldl (edgeT (visitT srt adj e) i) (pushT i t))
def TS.met (t:TS):List Nat:=t.st++t.rs.flatten
structure WfT (n:Nat) (t:TS):Prop where
  la:t.at_.length=n
  ll:t.low.length=n
  lt: ∀v,v<n→gi t.at_ v<t.nx
  nd:t.met.Nodup
  me: ∀v,v<n→(0≤gi t.at_ v↔v∈t.met)
  bd: ∀v∈t.met,v<n
  pw:t.st.Pairwise (fun a b=>gi t.at_ a<gi t.at_ b)
  nn:t.nx+neg t.at_=n
  ne: ∀S∈t.rs,S≠ []
def Closed (adj:Nat→List Nat) (rs:List (List Nat)):Prop:=
 ∀A S B,rs=A++S::B→ ∀u∈S,∀v∈adj u,v∈A.flatten∨v∈S
theorem Closed.snoc {adj rs S} (h:Closed adj rs) (hS: ∀u∈S,∀v∈adj u,v∈rs.flatten∨v∈S):Closed adj (rs++ [S]):=by
 intro A S' B e u hu v hv;rcases List.eq_nil_or_concat B with rfl|⟨B',x,rfl⟩
 · have:=List.append_inj' e rfl;obtain ⟨e1,e2⟩:=this;cases e2;subst e1;exact hS u hu v hv
 · rw [List.concat_eq_append,←List.cons_append,←List.append_assoc] at e;have:=List.append_inj' e rfl;exact h A S' B' this.1 u hu v hv
structure Keeps (n:Nat) (t t':TS):Prop where
  wf:WfT n t'
  rs: ∃R,t'.rs=t.rs++R
  ka: ∀v,v<n→0≤gi t.at_ v→gi t'.at_ v=gi t.at_ v
  kn:t.nx≤t'.nx
def Edges (adj:Nat→List Nat) (b:Int) (t:TS) (l:List Nat):Prop:= ∀v∈l,v∈t.rs.flatten∨(v∈t.st∧b≤gi t.at_ v)
structure Visited (n:Nat) (adj:Nat→List Nat) (i:Nat) (t t':TS):Prop extends Keeps n t t' where
  cl:Closed adj t'.rs
  kl: ∀v,v<n→0≤gi t.at_ v→gi t'.low v=gi t.low v
  ng:neg t'.at_<neg t.at_
  mi:0≤gi t'.at_ i
  lb: ∀b:Int,b≤t.nx→(∀v∈t.st,b≤gi t.at_ v)→b≤gi t'.low i
  li:gi t'.low i≤gi t'.at_ i
  ex: ∃ext,t'.st=t.st++ext∧(∀u∈ext,Edges adj (gi t'.low i) t' (adj u))∧(ext= []∨gi t'.low i<t.nx)
structure Within (n:Nat) (adj:Nat→List Nat) (i:Nat) (t0 t:TS) (dn:List Nat) (bx:Int):Prop extends Keeps n t0 t where
  cl:Closed adj t.rs
  kl: ∀v,v<n→0≤gi t0.at_ v→gi t.low v=gi t0.low v
  ng:neg t.at_<neg t0.at_
  ai:gi t.at_ i=t0.nx
  lb: ∀b:Int,b≤t0.nx→(∀v∈t0.st,b≤gi t0.at_ v)→b≤gi t.low i
  li:gi t.low i≤gi t.at_ i
  ex: ∃ext,t.st=t0.st++i::ext∧ ∀u∈ext,Edges adj bx t (adj u)
  ei:Edges adj (gi t.low i) t dn
theorem gi_set_self {l:List Int} {i:Nat} (v:Int) (h:i<l.length):gi (l.set i v) i=v:=by rw [gi_set,if_pos ⟨rfl,h⟩]
theorem gi_set_ne {l:List Int} {i j:Nat} (v:Int) (h:j≠i):gi (l.set i v) j=gi l j:=by rw [gi_set,if_neg (fun e=>h e.1.symm)]
theorem push_wf {n i:Nat} {t:TS} (h:WfT n t) (hi:i<n) (hw:gi t.at_ i<0):WfT n (pushT i t)∧i∉t.met:=by
 have hm:i∉t.met:=fun hm=>by have:=(h.me i hi).2 hm;omega
 have hst:i∉t.st:=fun hs=>hm (List.mem_append_left _ hs);have hmet:(pushT i t).met=t.st++i::t.rs.flatten:=by simp [TS.met,pushT]
 have hmem: ∀v,v∈(pushT i t).met↔v=i∨v∈t.met:=by
  intro v;rw [hmet];simp [TS.met];constructor
  · rintro (h|h|h)
    · exact .inr (.inl h)
    · exact .inl h
    · exact .inr (.inr h)
  · rintro (h|h|h)
    · exact .inr (.inl h)
    · exact .inl h
    · exact .inr (.inr h)
 refine ⟨⟨by simp [pushT,h.la],by simp [pushT,h.ll],fun v hv=> ?_,?_,fun v hv=> ?_,fun v hv=> ?_,?_,?_,h.ne⟩,hm⟩
 · show gi (t.at_.set i t.nx) v<((t.nx+1:Nat):Int);rw [gi_set];split
   · omega
   · have:=h.lt v hv;omega
 · rw [hmet];exact (List.perm_middle.nodup_iff).2 (List.nodup_cons.2 ⟨hm,h.nd⟩)
 · show 0≤gi (t.at_.set i t.nx) v↔_;rw [hmem];by_cases e:v=i
   · subst e;rw [gi_set_self _ (by rw [h.la];exact hi)];constructor
     · intro _;exact .inl rfl
     · intro _;omega
   · rw [gi_set_ne _ e,h.me v hv];simp [e]
 · rw [hmem] at hv;rcases hv with rfl|hv
   · exact hi
   · exact h.bd v hv
 · show (t.st++ [i]).Pairwise (fun a b=>gi (t.at_.set i t.nx) a<gi (t.at_.set i t.nx) b);rw [List.pairwise_append];have hne: ∀a∈t.st,gi (t.at_.set i t.nx) a=gi t.at_ a:=fun a ha=>gi_set_ne _ (fun e=>hst (e▸ha));refine ⟨h.pw.imp_of_mem fun ha hb hab=>by rw [hne _ ha,hne _ hb];exact hab,by simp,fun a ha b hb=> ?_⟩;simp at hb;subst hb;rw [hne _ ha,gi_set_self _ (by rw [h.la];exact hi)];exact h.lt a (h.bd a (List.mem_append_left _ ha))
 · have:=neg_set t.at_ i t.nx (by rw [h.la];exact hi) hw (by omega);have h2:=h.nn;show t.nx+1+neg (t.at_.set i t.nx)=n;omega
theorem push_within {n i:Nat} {adj} {t:TS} (h:WfT n t) (hc:Closed adj t.rs) (hi:i<n) (hw:gi t.at_ i<0):Within n adj i t (pushT i t) [] (gi (pushT i t).low i):=by
 obtain ⟨hp,hm⟩:=push_wf h hi hw;have hla:i<t.at_.length:=by rw [h.la];exact hi
 have hll:i<t.low.length:=by rw [h.ll];exact hi
 have e1:gi (pushT i t).at_ i=t.nx:=gi_set_self _ hla;have e2:gi (pushT i t).low i=t.nx:=gi_set_self _ hll;refine {wf:=hp,rs:=⟨[],by simp [pushT]⟩,ka:=fun v hv h0=>gi_set_ne _ (fun e=>by subst e;omega),kn:=Nat.le_succ _,cl:=hc,kl:=fun v hv h0=>gi_set_ne _ (fun e=>by subst e;omega),ng:= ?_,ai:=e1,lb:=fun b hb _=>by rw [e2];exact hb,li:=by rw [e1,e2];exact Int.le_refl _,ex:=⟨[],rfl,by simp⟩,ei:=by intro v hv;cases hv}
 have:=neg_set t.at_ i t.nx hla hw (by omega);show neg (t.at_.set i t.nx)<_;omega
theorem Within.lower {n i:Nat} {adj} {t0 t:TS} {dn bx} (h:Within n adj i t0 t dn bx) (hi:i<n) (hw:gi t0.at_ i<0) (x:Int) (k:Nat)
  (hx: ∀b:Int,b≤t0.nx→(∀v∈t0.st,b≤gi t0.at_ v)→b≤x) (hbx:min (gi t.low i) x≤bx) (hk:k∈t.rs.flatten∨(k∈t.st∧x≤gi t.at_ k)):
  Within n adj i t0 {t with low:=t.low.set i (min (gi t.low i) x)} (dn++ [k]) (gi (t.low.set i (min (gi t.low i) x)) i):=by
 have hll:i<t.low.length:=by rw [h.wf.ll];exact hi
 have e1:gi (t.low.set i (min (gi t.low i) x)) i=min (gi t.low i) x:=gi_set_self _ hll;refine {wf:= {la:=h.wf.la,ll:=by simp [h.wf.ll],lt:=h.wf.lt,nd:=h.wf.nd,me:=h.wf.me,bd:=h.wf.bd,pw:=h.wf.pw,nn:=h.wf.nn,ne:=h.wf.ne},rs:=h.rs,ka:=h.ka,kn:=h.kn,cl:=h.cl,kl:=fun v hv h0=> ?_,ng:=h.ng,ai:=h.ai,lb:=fun b hb hs=> ?_,li:= ?_,ex:= ?_,ei:= ?_}
 · have:v≠i:=fun e=>by subst e;omega
   show gi (t.low.set i _) v=_;rw [gi_set_ne _ this];exact h.kl v hv h0
 · show b≤gi (t.low.set i _) i;rw [e1];have:=h.lb b hb hs;have:=hx b hb hs;omega
 · show gi (t.low.set i _) i≤_;rw [e1];have:=h.li;show min (gi t.low i) x≤gi t.at_ i;omega
 · obtain ⟨ext,a,b⟩:=h.ex;refine ⟨ext,a,fun u hu v hv=> ?_⟩;rcases b u hu v hv with c|⟨c,d⟩
   · exact .inl c
   · refine .inr ⟨c,?_⟩;show gi (t.low.set i _) i≤_;rw [e1];show min (gi t.low i) x≤gi t.at_ v;omega
 · intro v hv;rcases List.mem_append.1 hv with hv|hv
   · rcases h.ei v hv with c|⟨c,d⟩
     · exact .inl c
     · refine .inr ⟨c,?_⟩;show gi (t.low.set i _) i≤_;rw [e1];show min (gi t.low i) x≤gi t.at_ v;omega
   · simp at hv;subst hv;rcases hk with c|⟨c,d⟩
     · exact .inl c
     · refine .inr ⟨c,?_⟩;show gi (t.low.set i _) i≤_;rw [e1];show min (gi t.low i) x≤gi t.at_ v;omega
theorem Within.bound {n i:Nat} {adj} {t0 t:TS} {dn bx} (h:Within n adj i t0 t dn bx) (h0:WfT n t0) (b:Int) (hb:b≤t0.nx) (hs: ∀v∈t0.st,b≤gi t0.at_ v) (v:Nat) (hv:v∈t.st):b≤gi t.at_ v:=by
 obtain ⟨ext,a,-⟩:=h.ex;rw [a] at hv;rcases List.mem_append.1 hv with hv|hv
 · have h1:=h0.bd v (List.mem_append_left _ hv);rw [h.ka v h1 ((h0.me v h1).2 (List.mem_append_left _ hv))];exact hs v hv
 · rcases List.mem_cons.1 hv with rfl|hv
   · rw [h.ai];exact hb
   · have:=h.wf.pw;rw [a,List.pairwise_append] at this;have:=(List.pairwise_cons.1 this.2.1).1 v hv;rw [h.ai] at this;omega
theorem Within.edge {n i:Nat} {adj} {t0 t:TS} {dn} (h:Within n adj i t0 t dn (gi t.low i)) (h0:WfT n t0) (hi:i<n) (hw:gi t0.at_ i<0) (v:Nat→TS→TS) (k:Nat) (hk:k<n)
  (hv: ∀t,WfT n t→Closed adj t.rs→gi t.at_ k<0→neg t.at_<neg t0.at_→Visited n adj k t (v k t)):Within n adj i t0 (edgeT v i t k) (dn++ [k]) (gi (edgeT v i t k).low i):=by
 unfold edgeT;split
 · next hk0=>
   have hV:=hv t h.wf h.cl hk0 h.ng;generalize v k t=t' at hV⊢;have hia:0≤gi t.at_ i:=by rw [h.ai];omega
   have hki:k≠i:=fun e=>by subst e;omega
   have hmid:Within n adj i t0 t' dn (min (gi t'.low i) (gi t'.low k)):=by
    obtain ⟨R,hR⟩:=hV.rs;obtain ⟨R0,hR0⟩:=h.rs;have hli:=hV.kl i hi hia;have hai:=hV.ka i hi hia;have hst: ∀v,v∈t.st→v∈t'.st:=by obtain ⟨ext,a,-⟩:=hV.ex;intro v hv;rw [a];exact List.mem_append_left _ hv
    have hedge: ∀l,Edges adj (gi t.low i) t l→Edges adj (gi t'.low i) t' l:=by
     intro l hl v hv;rcases hl v hv with c|⟨c,d⟩
     · left;rw [hR,List.flatten_append];exact List.mem_append_left _ c
     · refine .inr ⟨hst v c,?_⟩;have h1:=h.wf.bd v (List.mem_append_left _ c);rw [hli,hV.ka v h1 ((h.wf.me v h1).2 (List.mem_append_left _ c))];exact d
    refine {wf:=hV.wf,rs:=⟨R0++R,by rw [hR,hR0,List.append_assoc]⟩,ka:=fun v hv h0=> ?_,kn:=Nat.le_trans h.kn hV.kn,cl:=hV.cl,kl:=fun v hv h0=> ?_,ng:=Nat.lt_trans hV.ng h.ng,ai:=by rw [hai,h.ai],lb:=fun b hb hs=>by rw [hli];exact h.lb b hb hs,li:=by rw [hli,hai];exact h.li,ex:= ?_,ei:=hedge _ h.ei}
    · have:=h.ka v hv h0;rw [hV.ka v hv (by omega),this]
    · have:=h.ka v hv h0;rw [hV.kl v hv (by omega),h.kl v hv h0]
    · obtain ⟨ext,a,b⟩:=h.ex;obtain ⟨ext',a',b',c'⟩:=hV.ex;refine ⟨ext++ext',by rw [a',a];simp,fun u hu=> ?_⟩;rcases List.mem_append.1 hu with hu|hu
      · intro v hv;rcases hedge _ (b u hu) v hv with c|⟨c,d⟩
        · exact .inl c
        · exact .inr ⟨c,by omega⟩
      · intro v hv;rcases b' u hu v hv with c|⟨c,d⟩
        · exact .inl c
        · exact .inr ⟨c,by omega⟩
   refine hmid.lower hi hw _ k (fun b hb hs=> ?_) (Int.le_refl _) ?_
   · exact hV.lb b (Int.le_trans hb (by have:=h.kn;omega)) (fun v hv=>h.bound h0 b hb hs v hv)
   · have hmk:=(hV.wf.me k hk).1 hV.mi;rcases List.mem_append.1 hmk with hm|hm
     · exact .inr ⟨hm,hV.li⟩
     · exact .inl hm
 · next hk0=>
   split
   · next hm=>
     exact h.lower hi hw _ k (fun b hb hs=>h.bound h0 b hb hs k hm) (Int.min_le_left _ _) (.inr ⟨hm,Int.le_refl _⟩)
   · next hm=>
     have hmk:=(h.wf.me k hk).1 (by omega);rcases List.mem_append.1 hmk with hm'|hm'
     · exact absurd hm' hm
     · refine {h with ei:=fun v hv=> ?_}
       rcases List.mem_append.1 hv with hv|hv
       · exact h.ei v hv
       · simp at hv;subst hv;exact .inl hm'
theorem Within.fold {n i:Nat} {adj:Nat→List Nat} {t0:TS} (h0:WfT n t0) (hi:i<n) (hw:gi t0.at_ i<0) (v:Nat→TS→TS)
  (hv: ∀k,k<n→ ∀t,WfT n t→Closed adj t.rs→gi t.at_ k<0→neg t.at_<neg t0.at_→Visited n adj k t (v k t)):
  ∀(l dn:List Nat) (t:TS),(∀k∈l,k<n)→Within n adj i t0 t dn (gi t.low i)→Within n adj i t0 (l.foldl (edgeT v i) t) (dn++l) (gi (l.foldl (edgeT v i) t).low i)
 | [],dn,t,_,h=>by rw [List.append_nil];exact h
 |k::l,dn,t,hl,h=>by have h1:=h.edge h0 hi hw v k (hl k (List.mem_cons_self ..)) (hv k (hl k (List.mem_cons_self ..)));have:=Within.fold h0 hi hw v hv l (dn++ [k]) _ (fun x hx=>hl x (List.mem_cons_of_mem _ hx)) h1;rw [List.append_assoc] at this;exact this
theorem idx_append {l r:List Nat} {i:Nat} (h:i∉l):(l++i::r).idxOf i=l.length:=by
 induction l with
 |nil=>simp
 | cons x l ih=>
   simp only [List.mem_cons,not_or] at h;have hx:(x==i)=false:=by simp;exact fun e=>h.1 e.symm
   simp [List.idxOf_cons,hx,ih h.2]
theorem Within.done {n i:Nat} {adj:Nat→List Nat} {t0 t:TS} (srt:List Nat→List Nat) (hs: ∀l,(srt l).Perm l) (h0:WfT n t0) (hi:i<n) (hw:gi t0.at_ i<0)
  (h:Within n adj i t0 t (adj i) (gi t.low i)):Visited n adj i t0 (endT srt i t):=by
 obtain ⟨ext,ex,ee⟩:=h.ex;have hni:i∉t0.st:=fun hm=>by have:=(h0.me i hi).2 (List.mem_append_left _ hm);omega
 unfold endT;split
 · next hlt=>
   refine {toKeeps:=h.toKeeps,cl:=h.cl,kl:=h.kl,ng:=h.ng,mi:=by rw [h.ai];omega,lb:=h.lb,li:=h.li,ex:=⟨i::ext,ex,?_,.inr (by rw [←h.ai];exact hlt)⟩}
   intro u hu;rcases List.mem_cons.1 hu with rfl|hu
   · exact h.ei
   · exact ee u hu
 · next hge=>
   have hid:t.st.idxOf i=t0.st.length:=by rw [ex];exact idx_append hni
   have htk:t.st.take t0.st.length=t0.st:=by rw [ex];simp
   have hdr:t.st.drop t0.st.length=i::ext:=by rw [ex];simp
   rw [hid,htk,hdr];have hp:=hs (i::ext);have hge':gi t.low i=gi t.at_ i:=by have:=h.li;omega
   have hmem: ∀v,v∈t0.st++(t.rs++ [srt (i::ext)]).flatten↔v∈t.met:=by
    intro v;simp only [List.flatten_append,List.flatten_cons,List.flatten_nil,List.append_nil,List.mem_append,TS.met,ex,hp.mem_iff];constructor
    · rintro (h|h|h)
      · exact .inl (.inl h)
      · exact .inr h
      · exact .inl (.inr h)
    · rintro ((h|h)|h)
      · exact .inl h
      · exact .inr (.inr h)
      · exact .inr (.inl h)
   have hpw:=h.wf.pw;rw [ex,List.pairwise_append] at hpw;have hpm:(t0.st++(t.rs++ [srt (i::ext)]).flatten).Perm t.met:=by simp only [List.flatten_append,List.flatten_cons,List.flatten_nil,List.append_nil,TS.met,ex,List.append_assoc];exact List.Perm.append_left _ (List.Perm.trans List.perm_append_comm (List.Perm.append_right _ hp))
   obtain ⟨R,hR⟩:=h.rs;refine {wf:= {la:=h.wf.la,ll:=h.wf.ll,lt:=h.wf.lt,nd:= ?_,me:= ?_,bd:= ?_,pw:= ?_,nn:=h.wf.nn,ne:= ?_},rs:=⟨R++ [srt (i::ext)],by rw [←List.append_assoc,←hR]⟩,ka:=h.ka,kn:=h.kn,cl:= ?_,kl:=h.kl,ng:=h.ng,mi:=by rw [h.ai];omega,lb:=h.lb,li:=h.li,ex:=⟨[],by simp,by simp,.inl rfl⟩}
   · exact hpm.nodup_iff.2 h.wf.nd
   · intro v hv;rw [h.wf.me v hv];exact (hmem v).symm
   · intro v hv;exact h.wf.bd v ((hmem v).1 hv)
   · exact hpw.1
   · intro S hS;rcases List.mem_append.1 hS with hS|hS
     · exact h.wf.ne S hS
     · simp at hS;subst hS;intro e;rw [e] at hp;exact absurd hp.symm.eq_nil (by simp)
   · refine h.cl.snoc fun u hu v hv=> ?_;have hu':=hp.mem_iff.1 hu;have hE:v∈t.rs.flatten∨(v∈t.st∧gi t.low i≤gi t.at_ v):=by
      rcases List.mem_cons.1 hu' with rfl|hu'
      · exact h.ei v hv
      · exact ee u hu' v hv
     rcases hE with c|⟨c,d⟩
     · exact .inl c
     · rw [ex] at c;rcases List.mem_append.1 c with c|c
       · have:=hpw.2.2 v c i (List.mem_cons_self ..);omega
       · exact .inr (hp.mem_iff.2 c)
theorem visit_ok {n:Nat} {adj:Nat→List Nat} (srt:List Nat→List Nat) (hs: ∀l,(srt l).Perm l) (ha: ∀i,i<n→ ∀k∈adj i,k<n):
  ∀(e i:Nat) (t:TS),i<n→WfT n t→Closed adj t.rs→gi t.at_ i<0→neg t.at_≤e→Visited n adj i t (visitT srt adj e i t)
 |0,i,t,hi,hw,_,hi0,he=>by have:=neg_set t.at_ i 0 (by rw [hw.la];exact hi) hi0 (by omega);omega
 |e+1,i,t,hi,hw,hc,hi0,he=>by have h1:=push_within hw hc hi hi0;have h2:=Within.fold hw hi hi0 (visitT srt adj e) (fun k hk t' hw' hc' hk0 hn=>visit_ok srt hs ha e k t' hk hw' hc' hk0 (by omega)) (adj i) [] _ (ha i hi) h1;exact h2.done srt hs hw hi hi0
def t0T (n:Nat):TS:=⟨List.replicate n (-1),List.replicate n 0,[],0,[]⟩
def stepR' (srt:List Nat→List Nat) (adj:Nat→List Nat) (n:Nat) (t:TS) (i:Nat):TS:=if gi t.at_ i<0 then visitT srt adj n i t else t
theorem gi_rep (n i:Nat) (a:Int) (h:i<n):gi (List.replicate n a) i=a:=by simp [gi,h]
theorem t0_wf (n:Nat):WfT n (t0T n):=by
 refine ⟨by simp [t0T],by simp [t0T],fun v hv=> ?_,by simp [TS.met,t0T],fun v hv=> ?_,by simp [TS.met,t0T],by simp [t0T],?_,by simp [t0T]⟩
 · show gi (List.replicate n (-1)) v<((0:Nat):Int);rw [gi_rep n v (-1) hv];omega
 · show 0≤gi (List.replicate n (-1)) v↔v∈([]:List Nat);rw [gi_rep n v (-1) hv];simp
 · show 0+neg (List.replicate n (-1))=n;simp [neg,List.countP_replicate]
structure Rnd (n:Nat) (adj:Nat→List Nat) (j:Nat) (t:TS):Prop where
  wf:WfT n t
  cl:Closed adj t.rs
  st:t.st= []
  all: ∀v,v<j→v<n→0≤gi t.at_ v
theorem Rnd.step {n adj j t} (srt:List Nat→List Nat) (hs: ∀l,(srt l).Perm l) (ha: ∀i,i<n→ ∀k∈adj i,k<n) (h:Rnd n adj j t) (hj:j<n):Rnd n adj (j+1) (stepR' srt adj n t j):=by
 unfold stepR';split
 · next hw=>
   have hng:neg t.at_≤n:=by have:=h.wf.nn;omega
   have hV:=visit_ok srt hs ha n j t hj h.wf h.cl hw hng;refine ⟨hV.wf,hV.cl,?_,fun v hv hn=> ?_⟩
   · obtain ⟨ext,e1,-,e2⟩:=hV.ex;have:=hV.lb t.nx (Int.le_refl _) (by rw [h.st];simp);rw [h.st] at e1;rcases e2 with e2|e2
     · rw [e1,e2];rfl
     · omega
   · by_cases e:v=j
     · subst e;exact hV.mi
     · have:=h.all v (by omega) hn;rw [hV.ka v hn this];exact this
 · next hw=>
   exact ⟨h.wf,h.cl,h.st,fun v hv hn=>by
    by_cases e:v=j
    · subst e;omega
    · exact h.all v (by omega) hn⟩
def roundsT (srt:List Nat→List Nat) (adj:Nat→List Nat) (n j:Nat):TS:=(List.range j).foldl (stepR' srt adj n) (t0T n)
theorem roundsT_succ (srt adj n j):roundsT srt adj n (j+1)=stepR' srt adj n (roundsT srt adj n j) j:=by simp [roundsT,List.range_succ]
theorem roundsT_ok {n adj} (srt:List Nat→List Nat) (hs: ∀l,(srt l).Perm l) (ha: ∀i,i<n→ ∀k∈adj i,k<n): ∀j,j≤n→Rnd n adj j (roundsT srt adj n j)
 |0,_=>⟨t0_wf n,(fun A S B h=>by have h2:([]:List (List Nat)).length=(A++S::B).length:=congrArg List.length h;simp at h2),rfl,fun v hv=>by omega⟩
 |j+1,hj=>by rw [roundsT_succ];exact (roundsT_ok srt hs ha j (by omega)).step srt hs ha (by omega)
structure Parts (n:Nat) (adj:Nat→List Nat) (rs:List (List Nat)):Prop where
  nd:rs.flatten.Nodup
  mem: ∀v,v∈rs.flatten↔v<n
  ne: ∀S∈rs,S≠ []
  cl:Closed adj rs
theorem roundsT_parts {n adj} (srt:List Nat→List Nat) (hs: ∀l,(srt l).Perm l) (ha: ∀i,i<n→ ∀k∈adj i,k<n):Parts n adj (roundsT srt adj n n).rs:=by
 have h:=roundsT_ok srt hs ha n (Nat.le_refl _);have hm:(roundsT srt adj n n).met=(roundsT srt adj n n).rs.flatten:=by unfold TS.met;rw [h.st];rfl
 refine ⟨by rw [←hm];exact h.wf.nd,fun v=>⟨fun hv=>h.wf.bd v (by rw [hm];exact hv),fun hv=> ?_⟩,h.wf.ne,h.cl⟩;rw [←hm];exact (h.wf.me v hv).1 (h.all v hv hv)
def lpN (adj:Nat→List Nat):Nat→Nat→Nat
 |0,_=>0
 |r+1,v=>(adj v).foldl (fun n k=>max n (1+lpN adj r k)) 0
theorem foldl_max_le {f:Nat→Nat}: ∀(l:List Nat) (a:Nat),a≤l.foldl (fun n k=>max n (1+f k)) a∧ ∀k∈l,1+f k≤l.foldl (fun n k=>max n (1+f k)) a
 | [],a=>⟨Nat.le_refl _,by simp⟩
 | x::l,a=>by
   have:=foldl_max_le (f:=f) l (max a (1+f x));simp only [List.foldl_cons];refine ⟨by omega,fun k hk=> ?_⟩;rcases List.mem_cons.1 hk with rfl|hk
   · omega
   · exact this.2 k hk
theorem foldl_congr {f g:Nat→Nat}: ∀(l:List Nat) (a:Nat),(∀k∈l,f k=g k)→l.foldl (fun n k=>max n (1+f k)) a=l.foldl (fun n k=>max n (1+g k)) a
 | [],_,_=>rfl
 |x::l,a,h=>by simp only [List.foldl_cons];rw [h x (List.mem_cons_self ..)];exact foldl_congr l _ fun k hk=>h k (List.mem_cons_of_mem _ hk)
structure Calm (adj:Nat→List Nat) (rs:List (List Nat)) (near:Nat→Prop):Prop where
  cl:Closed adj rs
  one: ∀S∈rs,∀i∈S,near i→S.length≤1∧i∉adj i
  nx: ∀i,near i→ ∀k∈adj i,near k
theorem Calm.down {adj rs near} (h:Calm adj rs near) (r v k:Nat) (hn:near v) (hv:v∈(rs.take (r+1)).flatten) (hk:k∈adj v):k∈(rs.take r).flatten:=by
 obtain ⟨S,hS,hvS⟩:=List.mem_flatten.1 hv;obtain ⟨j,hj,rfl⟩:=List.getElem_of_mem hS;have hj1:j<rs.length:=by simp at hj;omega
 have hj2:j<r+1:=by simp at hj;omega
 rw [List.getElem_take] at hvS;have hsplit:rs=rs.take j++rs[j]::rs.drop (j+1):=by simp
 obtain ⟨h1,h2⟩:=h.one _ (List.getElem_mem hj1) v hvS hn;rcases h.cl _ _ _ hsplit v hvS k hk with hc|hc
 · obtain ⟨S',hS',hk'⟩:=List.mem_flatten.1 hc;refine List.mem_flatten.2 ⟨S',?_,hk'⟩;have:rs.take j=(rs.take r).take j:=by rw [List.take_take];congr 1;omega
   rw [this] at hS';exact List.mem_of_mem_take hS'
 · have:k=v:=by
    cases hl:rs[j] with
    |nil=>rw [hl] at hvS;cases hvS
    | cons a l=>
      rw [hl] at hvS hc h1
      have:l= []:=by cases l with
       |nil=>rfl
       |cons b l=>simp at h1
      subst this;simp at hvS hc;omega
   subst this;exact absurd hk h2
theorem Calm.stable {adj rs near} (h:Calm adj rs near): ∀(r r' v:Nat),near v→v∈(rs.take r).flatten→v∈(rs.take r').flatten→lpN adj r v=lpN adj r' v
 |0,_,v,_,hv,_=>by simp at hv
 |_+1,0,v,_,_,hv=>by simp at hv
 |r+1,r'+1,v,hn,h1,h2=>by simp only [lpN];exact foldl_congr _ _ fun k hk=>h.stable r r' k (h.nx v hn k hk) (h.down r v k hn h1 hk) (h.down r' v k hn h2 hk)
def Walk (adj:Nat→List Nat):Nat→Nat→Nat→Prop
 |0,a,b=>a=b
 |m+1,a,b=> ∃c,c∈adj a∧Walk adj m c b
theorem Calm.walk {adj rs near} (h:Calm adj rs near): ∀(r m a b:Nat),near a→a∈(rs.take r).flatten→Walk adj m a b→m≤lpN adj r a
 |0,_,a,_,_,ha,_=>by simp at ha
 |_+1,0,_,_,_,_,_=>Nat.zero_le _
 |r+1,m+1,a,b,hn,ha,hw=>by obtain ⟨c,hc,hw⟩:=hw;have h1:=h.walk r m c b (h.nx a hn c hc) (h.down r a c hn ha hc) hw;have h2:=(foldl_max_le (f:=lpN adj r) (adj a) 0).2 c hc;simp only [lpN];omega
theorem lpN_le {adj:Nat→List Nat}: ∀(r v:Nat),lpN adj r v≤r
 |0,_=>Nat.le_refl _
 | r+1,v=>by
   have: ∀(l:List Nat) (a:Nat),a≤r+1→l.foldl (fun n k=>max n (1+lpN adj r k)) a≤r+1:=by
    intro l
    induction l with
    |nil=>intro a h;exact h
    |cons x l ih=>intro a h;exact ih _ (by have:=lpN_le (adj:=adj) r x;show max a (1+lpN adj r x)≤r+1;omega)
   exact this _ 0 (by omega)
def clRes (r:FRes):Option Val:=match r with
 | .ret v H=>match pub depthP v H with
   |some (v,_)=>some v
   |none=>none
 |_=>none
def clOK (args:List Val) (v:Val) (r:FRes):Bool:=args.all (frzV depthP)&&(match clRes r with
 |some u=>sameW u v
 |none=>false)
def pCl (args:List Val) (v:Val):List Val→Hp→FRes:=fun as H=>match sameL as args with
 |true=> .ret v H
 |false=> .fail
theorem pCl_ok {E:Env} {P:Program} {cf:CallF} (hcf: ∀f args H,CallOK E P f args H (cf f args H)) {f:Nat} {args:List Val} {v:Val} (h:clOK args v (cf f args Hp.empty)=true):
  ∀as H,CallOK E P f as H (pCl args v as H):=by
 intro as H hne κ w xs hw hg hl ha;unfold pCl at hne⊢;split at hne
 case h_2=>exact absurd rfl hne
 rename_i hs;rw [sameL_eq _ _ hs] at hl ha;unfold clOK at h;simp only [Bool.and_eq_true] at h;obtain ⟨hf,h2⟩:=h;split at h2
 case h_2=>cases h2
 rename_i u hu;have:=sameW_eq _ _ h2;subst this;have e:=mapH_same (f:=pub depthP) (vs:=args) fun v hv=>frzV_pub _ v (List.all_eq_true.1 hf v hv);unfold clRes at hu;split at hu
 case h_2=>cases hu
 rename_i v0 H0 hr;split at hu
 case h_2=>cases hu
 rename_i u' H1 hp;simp only [Option.some.injEq] at hu;subst hu;have hd:doPure cf f args H []= .ok u' [] H:=by unfold doPure;simp only [e,fL_eq,hr,hp,fV_eq]
 have hok:=doPure_ok (tm:= []) hcf hw hg hl ha (by rw [hd];simp);rw [hd] at hok;refine hok.mono fun e w' he=> ?_
 cases e with
 |outgrown=>exact he.elim
 | returned x=>
   obtain ⟨v1,H',κ',h1,h3,h4,h5⟩:=he;simp only [ORes.ok.injEq] at h1;obtain ⟨rfl,_,rfl⟩:=h1;exact ⟨_,_,κ',rfl,h3,h4,h5⟩
 | panicked chain=>
   obtain ⟨v1,H',κ',h1,_⟩:=he;cases h1
open Go
def tilesF (P:Program):List Field→Nat→Option Nat
 | [],o=>some o
 |f::fs,o=>if f.offset=o then tilesF P fs (o+P.cellsOf f.type) else none
def tilesB (P:Program) (t:TypeId):Bool:=match P.underlying t with
 |some (.struct fs)=>tilesF P fs.toList 0==some (P.cellsOf t)
 |some (.array m e)=>m*P.cellsOf e==P.cellsOf t
 |_=>false
def RdF (P:Program) (R:TypeId→List Val→Prop):List TypeId→List Val→Prop
 | [],vs=>vs= []
 |t::ts,vs=> ∃a b,vs=a++b∧a.length=P.cellsOf t∧R t a∧RdF P R ts b
def RdV (P:Program):Nat→TypeId→List Val→Prop
 |0,_,_=>True
 | n+1,t,vs=>match P.underlying t with
   |some .bool=> ∃b,vs= [.bool b]
   |some (.int k)=> ∃a,vs= [.int k a]∧(Lit.int k a).wf=true
   |some .string=> ∃l m,vs= [.str l m]∧l≤reachBytes
   |some (.slice e)=>0<P.cellsOf e→ ∃x rows,vs= [x]∧IsSl x rows∧rows.length*P.bytesOf e≤reachBytes∧ ∀r∈rows,r.length=P.cellsOf e∧RdV P n e r
   |some (.struct fs)=>tilesB P t=true→RdF P (RdV P n) (fs.toList.map (·.type)) vs
   |some (.array m e)=>tilesB P t=true→RdF P (RdV P n) (List.replicate m e) vs
   |_=>True
section
variable {H:Type} (enc:TypeId×Value→H) (P:Program) (w:World) (M:Mz)
def RelL (vs:List Val) (cs:List Value):Prop:=vs.length=cs.length∧ ∀(i:Nat) (v:Val) (c:Value),vs[i]? =some v→cs[i]? =some c→VR (cellAt w) M mu0 v c
theorem relL_bad (cs:List Value):RelL w M (cs.map fun _=> .bad) cs:=by
 refine ⟨by simp,fun i v c hv _=> ?_⟩;rw [List.getElem?_map] at hv
 cases h:cs[i]? with
 |none=>rw [h] at hv;cases hv
 |some x=>rw [h] at hv;cases hv;exact .bad _
theorem relL_one {v:Val} {c:Value} (h:VR (cellAt w) M mu0 v c):RelL w M [v] [c]:=by
 refine ⟨rfl,fun i v' c' hv hc=> ?_⟩
 cases i with
 |zero=>cases hv;cases hc;exact h
 |succ i=>cases hv
theorem relL_append {a b:List Val} {c d:List Value} (h1:RelL w M a c) (h2:RelL w M b d):RelL w M (a++b) (c++d):=by
 refine ⟨by simp [h1.1,h2.1],fun i v x hv hx=> ?_⟩;rw [List.getElem?_append] at hv hx;rw [←h1.1] at hx;split at hv
 · next hlt=>rw [if_pos hlt] at hx;exact h1.2 i v x hv hx
 · next hlt=>rw [if_neg hlt] at hx;exact h2.2 _ v x hv hx
theorem mapM_cons {α β:Type} (f:α→Option β) (a:α) (l:List α) (ys:List β) (h:(a::l).mapM f=some ys): ∃y zs,f a=some y∧l.mapM f=some zs∧ys=y::zs:=by
 rw [List.mapM_cons] at h
 cases hf:f a with
 |none=>rw [hf] at h;cases h
 | some y=>
   rw [hf] at h
   cases hl:l.mapM f with
   |none=>rw [hl] at h;cases h
   |some zs=>rw [hl] at h;cases h;exact ⟨y,zs,rfl,rfl,rfl⟩
theorem mapM_len {α β:Type} (f:α→Option β): ∀(l:List α) (ys:List β),l.mapM f=some ys→ys.length=l.length
 | [],ys,h=>by rw [List.mapM_nil] at h;cases h;rfl
 |a::l,ys,h=>by obtain ⟨y,zs,-,h2,rfl⟩:=mapM_cons f a l ys h;simp [mapM_len f l zs h2]
theorem mapM_get {α β:Type} (f:α→Option β): ∀(l:List α) (ys:List β) (j:Nat) (a:α),l.mapM f=some ys→l[j]? =some a→ ∃y,f a=some y∧ys[j]? =some y
 | [],_,_,_,_,h=>by cases h
 | a::l,ys,j,b,h,hj=>by
   obtain ⟨y,zs,h1,h2,rfl⟩:=mapM_cons f a l ys h
   cases j with
   |zero=>cases hj;exact ⟨y,h1,rfl⟩
   |succ j=>exact mapM_get f l zs j b h2 hj
theorem wAll_mem {P:Program} {e:TypeId} {R:Nat}: ∀(l:List (DataW H)),(DataW.weightsAll P e l).all (· ≤R)=true→ ∀d∈l,(d.weights P e).all (· ≤R)=true
 | [],_,_,h=>by cases h
 | a::l,h,d,hd=>by
   rw [DataW.weightsAll,List.all_append,Bool.and_eq_true] at h;rcases List.mem_cons.1 hd with rfl|hd
   · exact h.1
   · exact wAll_mem l h.2 d hd
theorem wEach_get {P:Program} {R:Nat}: ∀(ts:List TypeId) (l:List (DataW H)),(DataW.weightsEach P ts l).all (· ≤R)=true→ ∀(j:Nat) (t:TypeId) (d:DataW H),ts[j]? =some t→l[j]? =some d→(d.weights P t).all (· ≤R)=true
 | [],_,_,_,_,_,h,_=>by cases h
 |_::_,[],_,_,_,_,_,h=>by cases h
 | t::ts,a::l,h,j,u,d,hj,hd=>by
   rw [DataW.weightsEach,List.all_append,Bool.and_eq_true] at h
   cases j with
   |zero=>cases hj;cases hd;exact h.1
   |succ j=>exact wEach_get ts l h.2 j u d hj hd
def Tok2 (t:TypeId) (c:List Value):Prop:= ∃vs,RelL w M vs c∧ ∀n,RdV P n t vs
theorem rows_choose {Q:Nat→List Val→Prop}: ∀(n:Nat),(∀i,i<n→ ∃r,Q i r)→ ∃rows:List (List Val),rows.length=n∧ ∀i r,rows[i]? =some r→Q i r
 |0,_=>⟨[],rfl,fun i r h=>by cases h⟩
 | n +1,h=>by
   obtain ⟨rows,h1,h2⟩:=rows_choose n fun i hi=>h i (by omega);obtain ⟨r,hr⟩:=h n (by omega);refine ⟨rows++ [r],by simp [h1],fun i x hx=> ?_⟩;rw [List.getElem?_append] at hx;split at hx
   · exact h2 i x hx
   · next hi=>
     have:i-rows.length=0:=by
      cases hq:i-rows.length with
      |zero=>rfl
      |succ q=>rw [hq] at hx;cases hx
     rw [this] at hx;cases hx;have:i=n:=by omega
     subst this;exact hr
theorem add_none' (b o j:Nat):(⟨b,o,none⟩:Addr).add j=⟨b,o+j,none⟩:=by
 unfold Addr.add;split
 · next h=>subst h;rfl
 · rfl
theorem cells_get {w:World} {b o:Nat} {sp:Option Nat} {k:Nat} {row:List Value} (h:w.cells? 0 ⟨b,o,sp⟩ k=some row):row.length=k∧(0<k→sp=none)∧ ∀j x,row[j]? =some x→j<k∧cellAt w b (o+j)=some x:=by
 unfold World.cells? at h;rw [if_pos (Nat.zero_le _)] at h;have hl:=mapM_len _ _ _ h;rw [List.length_range] at hl;have hget: ∀j,j<k→ ∃y,w.cell? ((⟨b,o,sp⟩:Addr).add j)=some y∧row[j]? =some y:=fun j hj=>mapM_get _ _ _ j j h (by simp [hj]);have hsp:0<k→sp=none:=fun hk=>by
  obtain ⟨y,h1,-⟩:=hget 0 hk;have e:(⟨b,o,sp⟩:Addr).add 0=⟨b,o,sp⟩:=by unfold Addr.add;rfl
  rw [e] at h1
  cases sp with
  |none=>rfl
  | some s=>
    unfold World.cell? at h1;split at h1
    · cases h1
    · cases h1
 refine ⟨hl,hsp,fun j x hx=> ?_⟩;have hj:j<k:=by rw [←hl];exact (List.getElem?_eq_some_iff.1 hx).1
 refine ⟨hj,?_⟩;have:=hsp (by omega);subst this;obtain ⟨y,h1,h2⟩:=hget j hj;rw [hx] at h2;cases h2;rw [add_none'] at h1;exact h1
end
open Go
open Go
mutual
def szV:Val→Nat
 | .sl rows _=>szR rows
 |_=>0
def szR:List (List Val)→Nat
 | []=>0
 |r::rows=>1+szL r+szR rows
def szL:List Val→Nat
 | []=>0
 |v::l=>szV v+szL l
end
theorem szL_append (a b:List Val):szL (a++b)=szL a+szL b:=by
 induction a with
 |nil=>simp [szL]
 |cons v a ih=>simp only [List.cons_append,szL,ih];omega
theorem szL_bad {α:Type} (c:List α):szL (c.map fun _=>Val.bad)=0:=by
 induction c with
 |nil=>rfl
 |cons x c ih=>simp only [List.map_cons,szL,ih,szV]
structure Bk (H:Type) (bk:DataW H→Nat):Prop where
  one: ∀d,1≤bk d
  sl: ∀elems sp,(elems.map bk).sum+1≤bk (.slice elems sp)
  agg: ∀parts,(parts.map bk).sum+1≤bk (.agg parts)
section
variable {H:Type} (enc:TypeId×Value→H) (P:Program) (w:World) (M:Mz)
def Tok3 (t:TypeId) (c:List Value) (b:Nat):Prop:= ∃vs,RelL w M vs c∧(∀n,RdV P n t vs)∧szL vs+1≤b
variable (bk:DataW H→Nat) (hb:Bk H bk)
def Sok3 (spare:Nat→Bool) (held:Bool) (fuel:Nat) (t:TypeId) (c:List Value) (b:Nat):Prop:= ∃d p,DataW.trod enc P w 0 spare held fuel t c=some (d,p)∧(d.weights P t).all (· ≤reachBytes)=true∧bk d=b
include hb in
theorem tok_bad3 (d:DataW H) (t:TypeId) (c:List Value) (h: ∀n vs,RdV P (n+1) t vs):Tok3 P w M t c (bk d):=
 ⟨_,relL_bad w M c,fun n=>(by cases n with
  |zero=>trivial
  |succ n=>exact h n _),by rw [szL_bad];have:=hb.one d;omega⟩
include hb in
theorem tok_one3 (d:DataW H) {t:TypeId} {x:Value} (v:Val) (hv:VR (cellAt w) M mu0 v x) (h: ∀n,RdV P (n+1) t [v]) (hs:szV v=0):Tok3 P w M t [x] (bk d):=
 ⟨[v],relL_one w M hv,fun n=>(by cases n with
  |zero=>trivial
  |succ n=>exact h n),by simp only [szL,hs];have:=hb.one d;omega⟩
theorem bytes_len3 (s:ByteArray):s.data.toList.length=s.size:=by rw [Array.length_toList];rfl
theorem fields3 (S:TypeId→List Value→Nat→Prop) (Q:TypeId→List Val→Prop) (hS: ∀t c b,S t c b→ ∃a,RelL w M a c∧Q t a∧szL a+1≤b):
  ∀ (fs:List Field) (bs:List Nat) (o:Nat) (e:Nat) (cs:List Value),tilesF P fs o=some e→e≤cs.length→bs.length=fs.length→(∀(j:Nat) (f:Field) (b:Nat),fs[j]? =some f→bs[j]? =some b→S f.type ((cs.drop f.offset).take (P.cellsOf f.type)) b)→
    ∃vs,RelL w M vs ((cs.drop o).take (e-o))∧RdF P Q (fs.map (·.type)) vs∧o≤e∧szL vs≤bs.sum
 | [],bs,o,e,cs,h,he,_,_=>by simp only [tilesF,Option.some.injEq] at h;subst h;refine ⟨[],?_,rfl,Nat.le_refl _,Nat.zero_le _⟩;simp only [Nat.sub_self,List.take_zero];exact ⟨rfl,fun i v c hv=>by cases hv⟩
 |f::fs,[],o,e,cs,h,he,hl,hf=>by cases hl
 | f::fs,b::bs,o,e,cs,h,he,hl,hf=>by
   simp only [tilesF] at h;split at h
   case isFalse=>cases h
   next ho=>
   obtain ⟨vs,h1,h2,h3,h4⟩:=fields3 S Q hS fs bs _ e cs h he (by simpa using hl) (fun j g b' hg hb'=>hf (j+1) g b' hg hb');obtain ⟨a,ha1,ha2,ha3⟩:=hS _ _ _ (hf 0 f b rfl rfl);rw [ho] at ha1;have hsplit:(cs.drop o).take (e-o)=(cs.drop o).take (P.cellsOf f.type)++(cs.drop (o+P.cellsOf f.type)).take (e-(o+P.cellsOf f.type)):=by rw [show e-o=P.cellsOf f.type+(e-(o+P.cellsOf f.type)) by omega,List.take_add,List.drop_drop]
   refine ⟨a++vs,by rw [hsplit];exact relL_append w M ha1 h1,⟨a,vs,rfl,?_,ha2,h2⟩,by omega,by rw [szL_append,List.sum_cons];omega⟩;show a.length=P.cellsOf f.type;rw [ha1.1,List.length_take,List.length_drop];omega
include hb in
theorem struct_ok3 {spare:Nat→Bool} {held:Bool} {fuel:Nat} {t:TypeId} {c:List Value} {fs:Array Field} (hu:P.underlying t=some (.struct fs)) (IH: ∀t c b,Sok3 enc P w bk spare held fuel t c b→Tok3 P w M t c b)
  (hl:c.length=P.cellsOf t) (xs:List (DataW H×List MemPlace)) (hm:(fs.toList.mapM fun f=>DataW.trod enc P w 0 spare held fuel f.type ((c.drop f.offset).take (P.cellsOf f.type)))=some xs)
  (hw:(DataW.weightsEach P (fs.toList.map (·.type)) (xs.map (·.1))).all (· ≤reachBytes)=true):Tok3 P w M t c (bk (.agg (xs.map (·.1)))):=by
 cases ht:tilesB P t with
 |false=>exact tok_bad3 P w M bk hb _ t c fun n vs=>by unfold RdV;rw [hu];exact fun h=>by rw [ht] at h;cases h
 | true =>
   have ht2:=ht;unfold tilesB at ht2;rw [hu] at ht2;simp only [beq_iff_eq] at ht2;have hlen:=mapM_len _ _ _ hm;obtain ⟨vs,h1,h2,-,h4⟩:=fields3 P w M (S:=Sok3 enc P w bk spare held fuel) (Q:=fun t a=> ∀n,RdV P n t a) (fun t c b h=>IH t c b h) fs.toList ((xs.map (·.1)).map bk) 0 (P.cellsOf t) c ht2 (by omega) (by simp [hlen]) (fun j f b hf hbj=>by
    obtain ⟨y,h1,h2⟩:=mapM_get _ _ _ j _ hm hf;have hy:(xs.map (·.1))[j]? =some y.1:=by rw [List.getElem?_map,h2];rfl
    rw [List.getElem?_map,hy] at hbj;cases hbj;exact ⟨y.1,y.2,h1,wEach_get _ _ hw j _ _ (by rw [List.getElem?_map,hf];rfl) hy,rfl⟩)
   have hc:(c.drop 0).take (P.cellsOf t-0)=c:=by simp [←hl]
   rw [hc] at h1;refine ⟨vs,h1,fun n=> ?_,by have:=hb.agg (xs.map (·.1));omega⟩
   cases n with
   |zero=>trivial
   | succ n=>
     unfold RdV;rw [hu];intro _;have: ∀(ts:List TypeId) (vs:List Val),RdF P (fun t a=> ∀n,RdV P n t a) ts vs→RdF P (RdV P n) ts vs:=by
      intro ts
      induction ts with
      |nil=>intro vs h;exact h
      | cons t ts ih=>
        rintro vs ⟨a,b,e,l,r,s⟩;exact ⟨a,b,e,l,r n,ih b s⟩
     exact this _ _ h2
theorem sum_drop {l:List Nat} {i:Nat} {x:Nat} (h:l[i]? =some x):(l.drop i).sum=x+(l.drop (i+1)).sum:=by have hi:=(List.getElem?_eq_some_iff.1 h).1;rw [List.drop_eq_getElem_cons hi,List.sum_cons];congr 1;rw [List.getElem?_eq_getElem hi] at h;exact Option.some.inj h
include hb in
theorem array_ok3 {spare:Nat→Bool} {held:Bool} {fuel:Nat} {t e:TypeId} {m:Nat} {c:List Value} (hu:P.underlying t=some (.array m e)) (IH: ∀t c b,Sok3 enc P w bk spare held fuel t c b→Tok3 P w M t c b)
  (hl:c.length=P.cellsOf t) (xs:List (DataW H×List MemPlace)) (hm:((List.range m).mapM fun i=>DataW.trod enc P w 0 spare held fuel e ((c.drop (i*P.cellsOf e)).take (P.cellsOf e)))=some xs)
  (hw:(DataW.weightsAll P e (xs.map (·.1))).all (· ≤reachBytes)=true):Tok3 P w M t c (bk (.agg (xs.map (·.1)))):=by
 cases ht:tilesB P t with
 |false=>exact tok_bad3 P w M bk hb _ t c fun n vs=>by unfold RdV;rw [hu];exact fun h=>by rw [ht] at h;cases h
 | true=>
   have ht2:=ht;unfold tilesB at ht2;rw [hu] at ht2;simp only [beq_iff_eq] at ht2;have hlen:=mapM_len _ _ _ hm;rw [List.length_range] at hlen;have hS: ∀i,i<m→ ∃d,(xs.map (·.1))[i]? =some d∧Tok3 P w M e ((c.drop (i*P.cellsOf e)).take (P.cellsOf e)) (bk d):=fun i hi=>by obtain ⟨y,h1,h2⟩:=mapM_get _ _ _ i i hm (by simp [hi]);exact ⟨y.1,by rw [List.getElem?_map,h2];rfl,IH _ _ _ ⟨y.1,y.2,h1,wAll_mem _ hw _ (List.mem_map.2 ⟨y,List.mem_of_getElem? h2,rfl⟩),rfl⟩⟩
   have key: ∀(k i:Nat),i+k=m→ ∃vs,RelL w M vs (c.drop (i*P.cellsOf e))∧(∀n,RdF P (RdV P n) (List.replicate k e) vs)∧szL vs≤(((xs.map (·.1)).map bk).drop i).sum:=by
    intro k
    induction k with
    | zero=>
      intro i hi;refine ⟨[],?_,fun n=>rfl,Nat.zero_le _⟩;have:c.drop (i*P.cellsOf e)= []:=List.drop_eq_nil_of_le (by rw [show i=m by omega];omega);rw [this];exact ⟨rfl,fun i v c hv=>by cases hv⟩
    | succ k ih=>
      intro i hi;obtain ⟨vs,h1,h2,h3⟩:=ih (i+1) (by omega);obtain ⟨d,hd,a,ha1,ha2,ha3⟩:=hS i (by omega);have hsplit:c.drop (i*P.cellsOf e)=(c.drop (i*P.cellsOf e)).take (P.cellsOf e)++c.drop ((i+1)*P.cellsOf e):=by rw [Nat.succ_mul,←List.drop_drop,List.take_append_drop]
      refine ⟨a++vs,by rw [hsplit];exact relL_append w M ha1 h1,fun n=>⟨a,vs,rfl,?_,ha2 n,h2 n⟩,?_⟩
      · rw [ha1.1,List.length_take,List.length_drop];have:(i+1)*P.cellsOf e≤m*P.cellsOf e:=Nat.mul_le_mul_right _ (by omega);rw [Nat.succ_mul] at this;omega
      · rw [szL_append,sum_drop (x:=bk d) (by rw [List.getElem?_map,hd];rfl)];omega
   obtain ⟨vs,h1,h2,h3⟩:=key m 0 (by omega);rw [Nat.zero_mul,List.drop_zero] at h1;rw [List.drop_zero] at h3;refine ⟨vs,h1,fun n=> ?_,by have:=hb.agg (xs.map (·.1));omega⟩
   cases n with
   |zero=>trivial
   |succ n=>unfold RdV;rw [hu];exact fun _=>h2 n
theorem szR_le: ∀(rows:List (List Val)) (bs:List Nat),rows.length=bs.length→(∀(i:Nat) (r:List Val) (b:Nat),rows[i]? =some r→bs[i]? =some b→szL r+1≤b)→szR rows≤bs.sum
 | [],_,_,_=>Nat.zero_le _
 |r::rows,[],h,_=>by cases h
 |r::rows,b::bs,h,hs=>by have h1:=hs 0 r b rfl rfl;have h2:=szR_le rows bs (by simpa using h) fun i r b hr hb=>hs (i+1) r b hr hb;simp only [szR,List.sum_cons];omega
include hb in
theorem slice_ok3 {spare:Nat→Bool} {held:Bool} {fuel:Nat} {t e:TypeId} {a:Addr} {len cap:Nat} (hu:P.underlying t=some (.slice e)) (IH: ∀t c b,Sok3 enc P w bk spare held fuel t c b→Tok3 P w M t c b) (hcap:len≤cap)
  (elems:List (DataW H×List MemPlace)) (sp:List (DataW H)) (hm:((List.range len).mapM fun i=>(w.cells? 0 (a.add (i*P.cellsOf e)) (P.cellsOf e)).bind (DataW.trod enc P w 0 spare held fuel e))=some elems)
  (hw:((elems.length+sp.length)*P.bytesOf e::(DataW.weightsAll P e (elems.map (·.1))++DataW.weightsAll P e sp)).all (· ≤reachBytes)=true):Tok3 P w M t [.slice (some a) len cap] (bk (.slice (elems.map (·.1)) sp)):=by
 rcases Nat.eq_zero_or_pos (P.cellsOf e) with hk|hk
 · exact tok_bad3 P w M bk hb _ t _ fun n vs=>by unfold RdV;rw [hu];exact fun h=>by omega
 obtain ⟨b,o,spot⟩:=a;rw [List.all_cons,List.all_append,Bool.and_eq_true,Bool.and_eq_true] at hw;obtain ⟨hw1,hw2,-⟩:=hw;have hlen:=mapM_len _ _ _ hm;rw [List.length_range] at hlen;have hw1:(elems.length+sp.length)*P.bytesOf e≤reachBytes:=of_decide_eq_true hw1;have hE: ∀i,i<len→ ∃r:List Val,r.length=P.cellsOf e∧spot=none∧(∀j v,r[j]? =some v→j<P.cellsOf e∧ ∃x,cellAt w b (o+(i*P.cellsOf e+j))=some x∧VR (cellAt w) M mu0 v x)∧(∀j,j<P.cellsOf e→ ∃x,cellAt w b (o+(i*P.cellsOf e+j))=some x)∧(∀n,RdV P n e r)∧ ∀bq,((elems.map (·.1)).map bk)[i]? =some bq→szL r+1≤bq:=fun i hi=>by
  obtain ⟨y,h1,h2⟩:=mapM_get _ _ _ i i hm (by simp [hi])
  cases hc:w.cells? 0 ((⟨b,o,spot⟩:Addr).add (i*P.cellsOf e)) (P.cellsOf e) with
  |none=>rw [hc] at h1;cases h1
  | some row=>
    rw [hc] at h1;have h1:DataW.trod enc P w 0 spare held fuel e row=some y:=h1;have hspot:spot=none:=by
     obtain ⟨y0,h10,-⟩:=mapM_get _ _ _ 0 0 hm (List.getElem?_range (by omega));rw [Nat.zero_mul] at h10;have e0:(⟨b,o,spot⟩:Addr).add 0=⟨b,o,spot⟩:=by unfold Addr.add;rfl
     rw [e0] at h10
     cases hc0:w.cells? 0 ⟨b,o,spot⟩ (P.cellsOf e) with
     |none=>rw [hc0] at h10;cases h10
     |some row0=>exact (cells_get hc0).2.1 hk
    subst hspot;rw [add_none'] at hc;obtain ⟨c1,-,c3⟩:=cells_get hc;obtain ⟨r,r1,r2,r3⟩:=IH e row _ ⟨y.1,y.2,h1,wAll_mem _ hw2 _ (List.mem_map.2 ⟨y,List.mem_of_getElem? h2,rfl⟩),rfl⟩;have hrl:r.length=P.cellsOf e:=by rw [r1.1,c1]
    refine ⟨r,hrl,rfl,fun j v hv=> ?_,fun j hj=> ?_,r2,fun bq hq=> ?_⟩
    · have hj:j<P.cellsOf e:=by rw [←hrl];exact (List.getElem?_eq_some_iff.1 hv).1
      have hx:row[j]? =some (row[j]'(by omega)):=List.getElem?_eq_getElem _;obtain ⟨-,h5⟩:=c3 j _ hx;exact ⟨hj,_,by rw [←Nat.add_assoc];exact h5,r1.2 j v _ hv hx⟩
    · have hx:row[j]? =some (row[j]'(by omega)):=List.getElem?_eq_getElem _;obtain ⟨-,h5⟩:=c3 j _ hx;exact ⟨_,by rw [←Nat.add_assoc];exact h5⟩
    · rw [List.getElem?_map,List.getElem?_map,h2] at hq;cases hq;exact r3
 obtain ⟨rows,hrl,hrows⟩:=rows_choose len hE;have hspot:rows≠ []→spot=none:=fun hne=>by obtain ⟨r,rs,rfl⟩:=List.exists_cons_of_ne_nil hne;exact (hrows 0 r rfl).2.1
 refine ⟨[.sl rows false],relL_one w M ?_,fun n=> ?_,?_⟩
 · rw [←hrl];refine .sl rows false (some ⟨b,o,spot⟩) cap (P.cellsOf e) b o (fun i j=>(cellAt w b (o+(i*P.cellsOf e+j))).getD default) (by omega) (fun h=>by cases h) (fun h=>by cases h) (fun h=>by rw [hspot h])
    (fun i row h=>(hrows i row h).1) (fun i j hi hj=> ?_) (fun i j row v h hv=> ?_)
   · obtain ⟨x,hx⟩:=(hrows i _ (List.getElem?_eq_getElem hi)).2.2.2.1 j hj;rw [hx];rfl
   · obtain ⟨-,x,hx,hvr⟩:=(hrows i row h).2.2.1 j v hv;rw [hx];exact hvr
 · cases n with
   |zero=>trivial
   |succ n=>
   unfold RdV;rw [hu];intro _;refine ⟨_,rows,rfl,.inr ⟨false,rfl⟩,?_,fun r hr=> ?_⟩
   · rw [hrl,←hlen];exact Nat.le_trans (Nat.mul_le_mul_right _ (by omega)) hw1
   · obtain ⟨i,hi,rfl⟩:=List.getElem_of_mem hr;have:=hrows i _ (List.getElem?_eq_getElem hi);exact ⟨this.1,this.2.2.2.2.1 n⟩
 · have h1:=szR_le rows ((elems.map (·.1)).map bk) (by rw [hrl];simp [hlen]) fun i r b hr hb'=>(hrows i r hr).2.2.2.2.2 b hb';have h2:=hb.sl (elems.map (·.1)) sp;simp only [szL,szV];omega
include hb in
theorem read_ok3 (spare:Nat→Bool) (held:Bool): ∀(fuel:Nat) (t:TypeId) (c:List Value) (b:Nat),Sok3 enc P w bk spare held fuel t c b→Tok3 P w M t c b
 |0,t,c,_,⟨d,p,h,_⟩=>by simp [DataW.trod] at h
 | fuel+1,t,c,b',⟨d,p,h,hw,hbd⟩=>by
   subst hbd;have IH:=read_ok3 spare held fuel;unfold DataW.trod at h;split at h
   case h_1 b hu=>exact tok_one3 P w M bk hb _ (.bool b) (.bool b) (fun n=>by unfold RdV;rw [hu];exact ⟨b,rfl⟩) rfl
   case h_2 k k' n hu=>
    split at h
    case isFalse=>cases h
    next hc=>
    obtain ⟨rfl,hwf⟩:=hc;exact tok_one3 P w M bk hb _ (.int k' n) (.int k' n) (fun m=>by unfold RdV;rw [hu];exact ⟨n,rfl,hwf⟩) rfl
   case h_4 s hu=>
    split at h
    case isFalse=>cases h
    next hc=>
    cases h;refine tok_one3 P w M bk hb _ (.str s.size (packB s)) (.str s _ _ rfl rfl) (fun m=> ?_) rfl;unfold RdV;rw [hu];refine ⟨_,_,rfl,?_⟩;rw [DataW.weights,List.all_cons,Bool.and_eq_true] at hw;rw [←bytes_len3];exact of_decide_eq_true hw.1
   case h_7 e hu=>exact tok_one3 P w M bk hb _ .nilsl .nilsl (fun n=>by unfold RdV;rw [hu];exact fun _=>⟨_,[],rfl,.inl ⟨rfl,rfl⟩,by simp [reachBytes],fun r hr=>by cases hr⟩) rfl
   case h_8 _ e a len cap hu=>
    simp only [] at h;split at h
    case isFalse=>cases h
    next hc=>
    cases hm:((List.range len).mapM fun i=>(w.cells? 0 (a.add (i*P.cellsOf e)) (P.cellsOf e)).bind (DataW.trod enc P w 0 spare held fuel e)) with
    |none=>rw [hm] at h;cases h
    | some elems=>
      rw [hm] at h;simp only [Option.bind_some,Option.map_eq_some_iff] at h;obtain ⟨rest,-,h⟩:=h;cases h;rw [DataW.weights,hu] at hw;refine slice_ok3 enc P w M bk hb hu IH hc.2.1 elems (rest.map (·.1)) hm ?_;simpa using hw
   case h_9 fs hu=>
    rename_i c _ _;split at h
    case isFalse=>cases h
    next hc=>
    cases hm:(fs.toList.mapM fun f=>DataW.trod enc P w 0 spare held fuel f.type ((c.drop f.offset).take (P.cellsOf f.type))) with
    |none=>rw [hm] at h;cases h
    | some xs=>
      rw [hm] at h;simp only [Option.map_some] at h;cases h;rw [DataW.weights,hu] at hw;exact struct_ok3 enc P w M bk hb hu IH hc xs hm hw
   case h_10 m e hu=>
    rename_i c _ _;split at h
    case isFalse=>cases h
    next hc=>
    cases hm:((List.range m).mapM fun i=>DataW.trod enc P w 0 spare held fuel e ((c.drop (i*P.cellsOf e)).take (P.cellsOf e))) with
    |none=>rw [hm] at h;cases h
    | some xs=>
      rw [hm] at h;simp only [Option.map_some] at h;cases h;rw [DataW.weights,hu] at hw;exact array_ok3 enc P w M bk hb hu IH hc xs hm hw
   all_goals (
    first
    |(cases h;done)
    |(rename_i hu;exact tok_bad3 P w M bk hb _ t _ fun n vs=>by unfold RdV;rw [hu];trivial)
    |(rename_i hu _;exact tok_bad3 P w M bk hb _ t _ fun n vs=>by unfold RdV;rw [hu];trivial))
end
def Rch (A:Nat→List Nat) (u v:Nat):Prop:= ∃m,Walk A m u v
theorem Walk.trans {A:Nat→List Nat}: ∀ {m k:Nat} {a b c:Nat},Walk A m a b→Walk A k b c→Walk A (m+k) a c
 |0,k,a,b,c,h,g=>by cases h;rw [Nat.zero_add];exact g
 |m+1,k,a,b,c,⟨d,hd,h⟩,g=>by rw [show m+1+k=(m+k)+1 by omega];exact ⟨d,hd,Walk.trans h g⟩
theorem Rch.refl (A u):Rch A u u:=⟨0,rfl⟩
theorem Rch.trans {A u v w} (h:Rch A u v) (g:Rch A v w):Rch A u w:=by obtain ⟨m,h⟩:=h;obtain ⟨k,g⟩:=g;exact ⟨m+k,h.trans g⟩
theorem Rch.edge {A:Nat→List Nat} {u v:Nat} (h:v∈A u):Rch A u v:=⟨1,v,h,rfl⟩
theorem Rch.closed {A:Nat→List Nat} {C:Nat→Prop} (hC: ∀u,C u→ ∀v∈A u,C v) {u v:Nat} (h:Rch A u v) (hu:C u):C v:=by
 obtain ⟨m,h⟩:=h
 induction m generalizing u with
 |zero=>cases h;exact hu
 | succ m ih=>
   obtain ⟨c,hc,h⟩:=h;exact ih (hC u hu c hc) h
def SCs (A:Nat→List Nat) (rs:List (List Nat)):Prop:= ∀S∈rs,∀u∈S,∀v∈S,Rch A u v
structure WC (A:Nat→List Nat) (i:Nat) (t0 t:TS):Prop where
  sc:SCs A t.rs
  dn: ∀v∈t.met,v∈t0.met∨Rch A i v
  up: ∀u∈t.st,u∈t0.st∨ ∃w,(w∈t0.st∨w=i)∧Rch A u w
  lo:gi t.low i<gi t.at_ i→ ∃w∈t0.st,gi t0.at_ w=gi t.low i∧Rch A i w
structure VC (A:Nat→List Nat) (i:Nat) (t t':TS):Prop where
  sc:SCs A t'.rs
  dn: ∀v∈t'.met,v∈t.met∨Rch A i v
  up: ∀u∈t'.st,u∈t.st∨ ∃w∈t.st,Rch A u w
  lo:gi t'.low i<gi t'.at_ i→ ∃w∈t.st,gi t.at_ w=gi t'.low i∧Rch A i w
  ai:gi t'.at_ i=t.nx
theorem WC.push {n i:Nat} {A} {t:TS} (h:WfT n t) (hi:i<n) (hs:SCs A t.rs):WC A i t (pushT i t):=by
 refine ⟨hs,fun v hv=> ?_,fun u hu=> ?_,fun hl=> ?_⟩
 · change v∈(t.st++ [i])++t.rs.flatten at hv;simp only [List.mem_append,List.mem_singleton] at hv;rcases hv with (hv|rfl)|hv
   · exact .inl (List.mem_append_left _ hv)
   · exact .inr (Rch.refl ..)
   · exact .inl (List.mem_append_right _ hv)
 · change u∈t.st++ [i] at hu;rcases List.mem_append.1 hu with hu|hu
   · exact .inl hu
   · rw [List.mem_singleton] at hu;exact .inr ⟨i,.inr rfl,by rw [hu];exact Rch.refl ..⟩
 · exfalso;change gi (t.low.set i t.nx) i<gi (t.at_.set i t.nx) i at hl;rw [gi_set_self _ (by rw [h.ll];exact hi),gi_set_self _ (by rw [h.la];exact hi)] at hl;omega
theorem Within.old {n i:Nat} {adj} {t0 t:TS} {dn bx} (h:Within n adj i t0 t dn bx) (h0:WfT n t0) (hi:i<n) {w:Nat} (hw:w∈t.st) (hl:gi t.at_ w<gi t.at_ i):w∈t0.st∧gi t0.at_ w=gi t.at_ w:=by
 obtain ⟨ext,ex,-⟩:=h.ex;have hpw:=h.wf.pw;rw [ex,List.pairwise_append] at hpw;have hw2:=hw;rw [ex] at hw2;rcases List.mem_append.1 hw2 with c|c
 · have hm:w∈t0.met:=List.mem_append_left _ c;have hwn:=h0.bd w hm;exact ⟨c,(h.ka w hwn ((h0.me w hwn).2 hm)).symm⟩
 · rcases List.mem_cons.1 c with rfl|c
   · omega
   · have:=(List.pairwise_cons.1 hpw.2.1).1 w c;omega
theorem WC.edge {n i:Nat} {A:Nat→List Nat} {t0 t:TS} {dn} (hc:WC A i t0 t) (h:Within n A i t0 t dn (gi t.low i)) (h0:WfT n t0) (hi:i<n) (v:Nat→TS→TS) (k:Nat) (hk:k<n) (hki:k∈A i)
  (hv: ∀t,WfT n t→Closed A t.rs→gi t.at_ k<0→neg t.at_<neg t0.at_→Visited n A k t (v k t))
  (hvc: ∀t,WfT n t→Closed A t.rs→gi t.at_ k<0→neg t.at_<neg t0.at_→SCs A t.rs→VC A k t (v k t)):WC A i t0 (edgeT v i t k):=by
 have hia:0≤gi t.at_ i:=by rw [h.ai];omega
 unfold edgeT;split
 · next hk0=>
   have hV:=hv t h.wf h.cl hk0 h.ng;have hC:=hvc t h.wf h.cl hk0 h.ng hc.sc;generalize v k t=t' at hV hC⊢;have hli:=hV.kl i hi hia;have hai:=hV.ka i hi hia;refine ⟨hC.sc,fun v hv=> ?_,fun u hu=> ?_,fun hl=> ?_⟩
   · rcases hC.dn v hv with c|c
     · exact hc.dn v c
     · exact .inr ((Rch.edge hki).trans c)
   · rcases hC.up u hu with c|⟨w,hw,hr⟩
     · exact hc.up u c
     · rcases hc.up w hw with c|⟨w',hw',hr'⟩
       · exact .inr ⟨w,.inl c,hr⟩
       · exact .inr ⟨w',hw',hr.trans hr'⟩
   · change gi (t'.low.set i (min (gi t'.low i) (gi t'.low k))) i<gi t'.at_ i at hl;show∃w∈t0.st,gi t0.at_ w=gi (t'.low.set i (min (gi t'.low i) (gi t'.low k))) i∧Rch A i w;have hlen:i<t'.low.length:=by rw [hV.wf.ll];exact hi
     rw [gi_set_self _ hlen] at hl⊢;rw [hli,hai] at hl;rw [hli];by_cases hm:gi t.low i≤gi t'.low k
     · rw [Int.min_eq_left hm] at hl⊢;exact hc.lo hl
     · rw [Int.min_eq_right (by omega)] at hl⊢;have hlt:=h.wf.lt i hi;have h1:=hC.ai;obtain ⟨w,hw,hw1,hw2⟩:=hC.lo (by omega);obtain ⟨q1,q2⟩:=h.old h0 hi hw (by omega);exact ⟨w,q1,by omega,(Rch.edge hki).trans hw2⟩
 · next hk0=>
   split
   · next hm=>
     refine ⟨hc.sc,hc.dn,hc.up,fun hl=> ?_⟩;change gi (t.low.set i (min (gi t.low i) (gi t.at_ k))) i<gi t.at_ i at hl;show∃w∈t0.st,gi t0.at_ w=gi (t.low.set i (min (gi t.low i) (gi t.at_ k))) i∧Rch A i w;rw [gi_set_self _ (by rw [h.wf.ll];exact hi)] at hl⊢;by_cases hm2:gi t.low i≤gi t.at_ k
     · rw [Int.min_eq_left hm2] at hl⊢;exact hc.lo hl
     · rw [Int.min_eq_right (by omega)] at hl⊢;obtain ⟨q1,q2⟩:=h.old h0 hi hm hl;exact ⟨k,q1,q2,Rch.edge hki⟩
   · exact hc
theorem WC.fold {n i:Nat} {A:Nat→List Nat} {t0:TS} (h0:WfT n t0) (hi:i<n) (hw:gi t0.at_ i<0) (v:Nat→TS→TS)
  (hv: ∀k,k<n→ ∀t,WfT n t→Closed A t.rs→gi t.at_ k<0→neg t.at_<neg t0.at_→Visited n A k t (v k t))
  (hvc: ∀k,k<n→ ∀t,WfT n t→Closed A t.rs→gi t.at_ k<0→neg t.at_<neg t0.at_→SCs A t.rs→VC A k t (v k t)):
  ∀(l dn:List Nat) (t:TS),(∀k∈l,k<n∧k∈A i)→Within n A i t0 t dn (gi t.low i)→WC A i t0 t→WC A i t0 (l.foldl (edgeT v i) t)
 | [],_,_,_,_,h=>h
 |k::l,dn,t,hl,h,hc=>by obtain ⟨hkn,hki⟩:=hl k (List.mem_cons_self ..);have h1:=h.edge h0 hi hw v k hkn (hv k hkn);have h2:=hc.edge h h0 hi v k hkn hki (hv k hkn) (hvc k hkn);exact WC.fold h0 hi hw v hv hvc l (dn++ [k]) _ (fun x hx=>hl x (List.mem_cons_of_mem _ hx)) h1 h2
theorem WC.done {n i:Nat} {A:Nat→List Nat} {t0 t:TS} (srt:List Nat→List Nat) (hs: ∀l,(srt l).Perm l) (h0:WfT n t0) (hi:i<n) (hw:gi t0.at_ i<0)
  (h:Within n A i t0 t (A i) (gi t.low i)) (hc:WC A i t0 t):VC A i t0 (endT srt i t):=by
 obtain ⟨ext,ex,ee⟩:=h.ex;have hni:i∉t0.st:=fun hm=>by have:=(h0.me i hi).2 (List.mem_append_left _ hm);omega
 unfold endT;split
 · next hlt=>
   refine ⟨hc.sc,hc.dn,fun u hu=> ?_,hc.lo,h.ai⟩;rcases hc.up u hu with c|⟨w,c|rfl,hr⟩
   · exact .inl c
   · exact .inr ⟨w,c,hr⟩
   · obtain ⟨w',q1,-,q2⟩:=hc.lo hlt;exact .inr ⟨w',q1,hr.trans q2⟩
 · next hge=>
   have hid:t.st.idxOf i=t0.st.length:=by rw [ex];exact idx_append hni
   have htk:t.st.take t0.st.length=t0.st:=by rw [ex];simp
   have hdr:t.st.drop t0.st.length=i::ext:=by rw [ex];simp
   rw [hid,htk,hdr];have hp:=hs (i::ext);have hge':gi t.low i=gi t.at_ i:=by have:=h.li;omega
   have hpw:=h.wf.pw;rw [ex,List.pairwise_append] at hpw;have hnd:=h.wf.nd;have hnd1: ∀x∈i::ext,x∉t0.st∧x∉t.rs.flatten:=fun x hx=>by unfold TS.met at hnd;rw [ex,List.append_assoc] at hnd;obtain ⟨-,q1,q2⟩:=List.nodup_append.1 hnd;obtain ⟨-,-,q3⟩:=List.nodup_append.1 q1;exact ⟨fun hm=>q2 x hm x (List.mem_append_left _ hx) rfl,fun hm=>q3 x hx x hm rfl⟩
   have hnd0: ∀w∈t0.st,w∉t.rs.flatten:=fun w hw hm=>by unfold TS.met at hnd;rw [ex,List.append_assoc] at hnd;obtain ⟨-,-,q2⟩:=List.nodup_append.1 hnd;exact q2 w hw w (List.mem_append_right _ hm) rfl
   have hrs0: ∀x,x∈t0.rs.flatten→x∈t.rs.flatten:=fun x hx=>by obtain ⟨R,hR⟩:=h.rs;rw [hR,List.flatten_append];exact List.mem_append_left _ hx
   have hC: ∀u,(u∈t.rs.flatten∨u∈i::ext)→ ∀v∈A u,(v∈t.rs.flatten∨v∈i::ext):=by
    intro u hu v hv;rcases hu with hu|hu
    · obtain ⟨S,hS,huS⟩:=List.mem_flatten.1 hu;obtain ⟨X,Y,e⟩:=List.append_of_mem hS;left;rcases h.cl X S Y e u huS v hv with c|c
      · rw [e,List.flatten_append];exact List.mem_append_left _ c
      · exact List.mem_flatten.2 ⟨S,hS,c⟩
    · have hE:v∈t.rs.flatten∨(v∈t.st∧gi t.low i≤gi t.at_ v):=by
       rcases List.mem_cons.1 hu with rfl|hu'
       · exact h.ei v hv
       · exact ee u hu' v hv
      rcases hE with c|⟨c,d⟩
      · exact .inl c
      · rw [ex] at c;rcases List.mem_append.1 c with c|c
        · have:=hpw.2.2 v c i (List.mem_cons_self ..);omega
        · exact .inr c
   have hdown: ∀x∈i::ext,Rch A i x:=fun x hx=>by
    rcases hc.dn x (List.mem_append_left _ (by rw [ex];exact List.mem_append_right _ hx)) with c|c
    · exfalso;rcases List.mem_append.1 c with c|c
      · exact (hnd1 x hx).1 c
      · exact (hnd1 x hx).2 (hrs0 x c)
    · exact c
   have hupp: ∀x∈i::ext,Rch A x i:=fun x hx=>by
    rcases hc.up x (by rw [ex];exact List.mem_append_right _ hx) with c|⟨w,c|rfl,hr⟩
    · exact absurd c (hnd1 x hx).1
    · exfalso;rcases hr.closed hC (.inr hx) with q|q
      · exact hnd0 w c q
      · exact (hnd1 w q).1 c
    · exact hr
   refine ⟨fun S hS=> ?_,fun v hv=> ?_,fun u hu=> .inl hu,fun hl=> ?_,h.ai⟩
   · rcases List.mem_append.1 hS with hS|hS
     · exact hc.sc S hS
     · rw [List.mem_singleton] at hS;subst hS;exact fun u hu v hv=>(hupp u (hp.mem_iff.1 hu)).trans (hdown v (hp.mem_iff.1 hv))
   · refine hc.dn v ?_;change v∈t0.st++(t.rs++ [srt (i::ext)]).flatten at hv;simp only [List.flatten_append,List.flatten_cons,List.flatten_nil,List.append_nil,List.mem_append,hp.mem_iff] at hv;unfold TS.met;rw [ex];simp only [List.mem_append];rcases hv with h|h|h
     · exact .inl (.inl h)
     · exact .inr h
     · exact .inl (.inr h)
   · exact absurd hl hge
theorem visit_sc {n:Nat} {A:Nat→List Nat} (srt:List Nat→List Nat) (hs: ∀l,(srt l).Perm l) (ha: ∀i,i<n→ ∀k∈A i,k<n):
  ∀(e i:Nat) (t:TS),i<n→WfT n t→Closed A t.rs→gi t.at_ i<0→neg t.at_≤e→SCs A t.rs→VC A i t (visitT srt A e i t)
 |0,i,t,hi,hw,_,hi0,he,_=>by have:=neg_set t.at_ i 0 (by rw [hw.la];exact hi) hi0 (by omega);omega
 |e+1,i,t,hi,hw,hc,hi0,he,hsc=>by have h1:=push_within hw hc hi hi0;have h2:=Within.fold hw hi hi0 (visitT srt A e) (fun k hk t' hw' hc' hk0 hn=>visit_ok srt hs ha e k t' hk hw' hc' hk0 (by omega)) (A i) [] _ (ha i hi) h1;have h3:=WC.fold hw hi hi0 (visitT srt A e) (fun k hk t' hw' hc' hk0 hn=>visit_ok srt hs ha e k t' hk hw' hc' hk0 (by omega)) (fun k hk t' hw' hc' hk0 hn hs'=>visit_sc srt hs ha e k t' hk hw' hc' hk0 (by omega) hs') (A i) [] _ (fun k hk=>⟨ha i hi k hk,hk⟩) h1 (WC.push hw hi hsc);exact h3.done srt hs hw hi hi0 h2
end Go.PV
