/- A part of the proof: PvIns, SM, PvI1, PvJ2, SW, CLM0. -/
import Derived.Deep.RegionLaw
import Derived.Shelf.Spec.SlicesInsertGrow
import Derived.WalkKit
import Derived.Test.YtmjfdiohjflnnaaGreatDoorP04
import Derived.Test.YtmjfdiohjflnnaaGreatDoorP06
import Derived.Test.YtmjfdiohjflnnaaGreatDoorP07
import Derived.Test.YtmjfdiohjflnnaaGreatDoorP20
import Derived.Test.YtmjfdiohjflnnaaGreatDoorP21
import Derived.Test.YtmjfdiohjflnnaaGreatDoorP31
import Derived.Test.YtmjfdiohjflnnaaGreatDoorProg
set_option linter.all false
namespace Go.PV
def ins2:List Val→Hp→FRes:=fun args H=>match args with
 | [.ref id 0 0 7 2 false,.int .i64 (.ofNat 0),.sl [r] _]=>match H.get id with
   | some (.cells 0 0 0 cs)=>match Nat.beq cs.length 14&&Nat.beq r.length 7&&cs.all okCell&&r.all okCell&&cs.all (frzV 20)&&r.all (frzV 20) with
     |true=>fLL (chunk 7 3 (r++cs)) fun rs=>fH ((H.push .gone).set id .gone) fun H=> .ret (.sl rs false) H
     |false=> .fail
   |_=> .fail
 |_=> .fail
noncomputable def pIns:List Val→Hp→FRes:=fun args H=>match ins2 args H with
 | .ret v H=> .ret v H
 |_=>evalFn E0 okd 1000 1 341 args H
open Go Go.Proofs.Tryz
set_option maxRecDepth 100000
noncomputable def ffs (f:Nat):Option FX:=match Nat.beq f 235 with
 |true=>some (.prim (pSeq 156 3))
 |false=>match Nat.beq f 324 with
 |true=>some (.prim pNoEsc)
 |false=>match Nat.beq f 341 with
 |true=>some (.prim pIns)
 |false=>match Nat.beq f 459 with
 |true=>some (.prim pIdx)
 |false=>rX f
open Go Go.Proofs Go.RowKit Go.Lib
set_option maxHeartbeats 2000000
set_option maxRecDepth 100000
theorem copy_len (P:Program) (w:World) (t1 t2 ty:TypeId) (d:Option Addr) (dc:Nat) (a:Option Addr) (c c':Nat):
  (Builtin.copy_ #[t1,t2] ty #[.slice d 2 dc,.slice a 3 c]).run P w=(Builtin.copy_ #[t1,t2] ty #[.slice d 2 dc,.slice a 2 c']).run P w:=by
 cases a<;>rfl
theorem ins_room (w W1 W2:World) (r1 r2:Value) (b cap vb vo vcap:Nat) (h3:3≤cap)
  (hov:(callFunc 428 #[.slice (some ⟨vb,vo,none⟩) 1 vcap,.slice (some ⟨b,7,none⟩) 2 (cap-1)]).run Tryz.prog w= .ok (.value (.bool false)) w)
  (hcp1: ∀ty,(Builtin.copy_ #[233,233] ty #[.slice (some ⟨b,7,none⟩) 2 (cap-1),.slice (some ⟨b,0,none⟩) 3 cap]).run Tryz.prog w.drew= .ok r1 W1)
  (hcp2: ∀ty,(Builtin.copy_ #[233,232] ty #[.slice (some ⟨b,0,none⟩) 3 cap,.slice (some ⟨vb,vo,none⟩) 1 vcap]).run Tryz.prog W1= .ok r2 W2):
  Calls Tryz.prog 341 #[.slice (some ⟨b,0,none⟩) 2 cap,.int .i64 0,.slice (some ⟨vb,vo,none⟩) 1 vcap] w fun e w'=>e= .returned (.slice (some ⟨b,0,none⟩) 3 cap)∧w'=W2:=by
 have hb1: ¬((cap:Int)<3):=by omega
 have hb2: ¬(cap=1):=by omega
 have hb4: ¬(cap=0):=by omega
 have hb5:(3:Int)≤cap:=by omega
 have hw1:IntKind.i64.wrap 1=1:=by decide
 go_enter Tryz.func341,Tryz.ntmps341
 go_wp2_with (simp only [hov])
 go_region_law (refine step_copy_runI rfl _ _ 233 233 rfl (.slice (some ⟨b,7,none⟩) 2 (cap-1)) (.slice (some ⟨b,0,none⟩) 3 cap) (by simp [Act.eval,Act.put]) (by simp [Act.eval,Act.put]) (hcp1 _) ?_)
 go_wp2_with (at_builtin;refine wpList_copy_runI _ rfl _ _ 233 232 rfl _ _ rfl rfl (hcp2 _) ?_)
 go_ret
 exact ⟨rfl,rfl⟩
theorem ins_grow (w W1 W2 W3:World) (r1 r2:Value) (b vb vo vcap g G:Nat) (hG:3≤G)
  (hap: ∀ty,(Builtin.append_ #[233,3] ty #[.slice (some ⟨b,0,none⟩) 0 2,.int .i64 3]).run Tryz.prog w= .ok (.slice (some ⟨g,0,none⟩) 3 G) W1)
  (hcp1: ∀ty,(Builtin.copy_ #[233,232] ty #[.slice (some ⟨g,0,none⟩) 3 G,.slice (some ⟨vb,vo,none⟩) 1 vcap]).run Tryz.prog W1= .ok r1 W2)
  (hcp2: ∀ty,(Builtin.copy_ #[233,233] ty #[.slice (some ⟨g,7,none⟩) 2 (G-1),.slice (some ⟨b,0,none⟩) 2 2]).run Tryz.prog W2.drew= .ok r2 W3):
  Calls Tryz.prog 341 #[.slice (some ⟨b,0,none⟩) 2 2,.int .i64 0,.slice (some ⟨vb,vo,none⟩) 1 vcap] w fun e w'=>e= .returned (.slice (some ⟨g,0,none⟩) 3 G)∧w'=W3:=by
 have hb2: ¬(G=1):=by omega
 have hb4: ¬(G=0):=by omega
 have hw1:IntKind.i64.wrap 1=1:=by decide
 go_enter Tryz.func341,Tryz.ntmps341
 go_wp2_with (first
  |(at_builtin;refine Lib.wpList_append_run _ rfl _ _ _ _ rfl _ _ rfl rfl _ _ (hap _) ?_)
  |(at_builtin;refine wpList_copy_runI _ rfl _ _ 233 232 rfl _ _ rfl rfl (hcp1 _) ?_))
 go_region_law (refine step_copy_runI rfl _ _ 233 233 rfl (.slice (some ⟨g,7,none⟩) 2 (G-1)) (.slice (some ⟨b,0,none⟩) 2 2) (by simp [Act.eval,Act.put]) (by simp [Act.eval,Act.put]) (hcp2 _) ?_)
 go_wp2
 go_ret
 exact ⟨rfl,rfl⟩
open Go Go.Proofs Go.Proofs.Tryz
set_option maxRecDepth 100000
theorem und233:und E0 233=some (.slice 403):=by kernel_rfl
theorem siz403:sizeT E0 403=some 7:=by kernel_rfl
theorem i403:(E0.T 403).any (fun i=>Nat.beq i.size 7&&Nat.ble i.bytes 4096)=true:=by kernel_rfl
theorem ne403b:(newElems E0 403 7 (.int .i64) (.int .i64 (.ofNat 3)) Hp.empty).any (fun p=>Nat.beq p.2 3)=true:=by kernel_rfl
theorem ne403: ∃new,newElems E0 403 7 (.int .i64) (.int .i64 (.ofNat 3)) Hp.empty=some (new,3):=by
 have h:=ne403b
 cases hn:newElems E0 403 7 (.int .i64) (.int .i64 (.ofNat 3)) Hp.empty with
 |none=>rw [hn] at h;cases h
 | some p=>
   obtain ⟨a,n⟩:=p;rw [hn] at h;simp only [Option.any_some] at h;rw [Nat.eq_of_beq_eq_true h];exact ⟨a,rfl⟩
theorem set_setJ (H:Hp) (i:Nat) (a b:Obj):(H.set i a).set i b=H.set i b:=by
 unfold Hp.set;by_cases h:i<H.n
 · simp only [h,if_true];have: ∀(l:List Obj) (j:Nat),setL (setL l j a) j b=setL l j b:=by
    intro l
    induction l with
    |nil=>intro j;rfl
    | cons x l ih=>intro j;cases j with
      |zero=>rfl
      |succ j=>simp [setL,ih]
   rw [this]
 · simp only [h,if_false]
theorem arg3 {κ:Kr} {u v z:Val} {xs:Array Value} (hl: [u,v,z].length=xs.size) (ha: ∀(i:Nat) (u':Val) (x:Value),[u,v,z][i]? =some u'→xs[i]? =some x→VK κ u' x): ∃x y t,xs= #[x,y,t]∧VK κ u x∧VK κ v y∧VK κ z t:=by
 obtain ⟨m⟩:=xs
 match m,hl with
 | [x,y,t],_=>exact ⟨x,y,t,rfl,ha 0 _ _ rfl rfl,ha 1 _ _ rfl rfl,ha 2 _ _ rfl rfl⟩
theorem copy_ref (H:Hp) (id gen off len:Nat) (d ro:Nat) (cs:List Val) (s:Val) (c:List Val) (sn n:Nat) (c':List Val) (hget:H.get id=some (.cells gen d ro cs)) (hs:elemsOf 7 H s=some (c,sn)) (hok:c.all okCell=true) (hro:ro≤off)
  (hn:(if Nat.ble sn len then sn else len)=n) (hn0:n≠0) (hu:upd cs off (c.take (n*7))=some c'):
  copyP E0 233 (.ref id gen off 7 len false) s H=some (.int .i64 (.ofNat n),H.set id (.cells gen gen ro c')):=by
 have hl:lenOfV (.ref id gen off 7 len false)=some len:=rfl;simp only [copyP,und233,siz403,hl,hs,hn,if_neg hn0,hget];rw [if_pos ⟨trivial,trivial,hro,hok⟩];simp only [hu,fL_eq,fN_eq,fH_eq]
theorem ref_shift {κ:Kr} {id gen b cap:Nat} (h:VK κ (.ref id gen 0 7 3 false) (.slice (some ⟨b,0,none⟩) 3 cap)):VK κ (.ref id gen 7 7 2 false) (.slice (some ⟨b,7,none⟩) 2 (cap-1)):=by
 unfold VK at h⊢;have key: ∀(o:Nat),VR κ.F κ.M κ.μ (.ref id gen 0 7 3 false) (.slice (some ⟨b,o,none⟩) 3 cap)→ ∃C L,κ.μ id gen=some (b,C,L)∧21≤L∧cap*7=C.c∧3≤cap∧C.s=0:=by
  intro o h
  cases h with
  |ref _ _ _ _ _ _ _ C L _ h1 h2 h3 h4 h5 h6 h7=>exact ⟨C,L,h1,by omega,by have:=h5 rfl;omega,h6,by omega⟩
 obtain ⟨C,L,h1,h2,h3,h4,h5⟩:=key 0 h;have:=VR.ref (F:=κ.F) (M:=κ.M) id gen 7 7 2 false b C L (cap-1) h1 (by omega) (by omega) (fun h=>by cases h) (fun _=>by omega) (by omega) (by omega);rw [h5] at this;exact this
theorem ovl_false (w:World) (vb vo vcap b cb:Nat) (x:Value) (hx:cellAt w vb vo=some x) (hfree: ∃c e lo hi,w.heap[b]? =some (.cells c e (lo,hi))∧0<c.size∧ ∀o,¬(lo≤o∧o<hi)) (hsame:vb=b→21≤vo):
  (callFunc 428 #[.slice (some ⟨vb,vo,none⟩) 1 vcap,.slice (some ⟨b,7,none⟩) 2 cb]).run prog w= .ok (.value (.bool false)) w:=by
 rw [run_callFunc_extern func428 (by kernel_rfl) (by kernel_rfl) (by kernel_rfl) (e:=Extern.SlicesOverlaps.overlaps #[232,232] #[4]) (by kernel_rfl)];have body: ∀(a b:Addr) (la ca lb cb:Nat),(Extern.SlicesOverlaps.overlaps #[232,232] #[4] #[.slice (some a) la ca,.slice (some b) lb cb]).run prog w=Sem.run prog (α:=Value) (do
  let .slice elem←underlying 232|stuck "slices.overlaps: slice type expected"
  let size←sizeOf elem
  if la=0∨lb=0∨size=0 then pure (Value.bool false)
  else if a.block !=b.block&&(←frozen a)&&(←frozen b) then unsupported .addressObserved
  else do
   if a.block !=b.block then do
    noView a;noView b
    if←mayBeOne a b then return Value.bool ((←choose (.extern "sameAddr.stringBytes" 2))==1)
   pure (Value.bool (a.block==b.block&&a.off<b.off+lb*size&&b.off<a.off+la*size))) w:=fun _ _ _ _ _ _=>rfl
 have key:(Extern.SlicesOverlaps.overlaps #[232,232] #[4] #[.slice (some ⟨vb,vo,none⟩) 1 vcap,.slice (some ⟨b,7,none⟩) 2 cb]).run prog w= .ok (.bool false) w:=by
  rw [body];obtain ⟨c,e,lo,hi,hb,hsz,hfr⟩:=hfree;have hfz: ∀o,w.frozen? ⟨b,o,none⟩=false:=fun o=>by unfold World.frozen?;simp only [hb];have:=hfr o;simpa using this
  have hsb:w.shape? b=some (e,c.size):=by unfold World.shape?;rw [hb]
  obtain ⟨c2,e2,fr2,hv,hv2⟩: ∃c2 e2 fr2,w.heap[vb]? =some (.cells c2 e2 fr2)∧0<c2.size:=by
   unfold cellAt at hx;split at hx
   · rename_i c2 e2 fr2 h2;refine ⟨c2,e2,fr2,h2,?_⟩;have:=(Array.getElem?_eq_some_iff.1 hx).1;omega
   · cases hx
  have hsa:w.shape? vb=some (e2,c2.size):=by unfold World.shape?;rw [hv]
  obtain ⟨k2,hk2⟩: ∃k2,c2.size=k2+1:=⟨c2.size-1,by omega⟩;obtain ⟨k1,hk1⟩: ∃k1,c.size=k1+1:=⟨c.size-1,by omega⟩;rw [hk2] at hsa;rw [hk1] at hsb;by_cases e:vb=b
  · subst e;have h21:=hsame rfl;have: ¬(vo<7+2*7):=by omega
    simp [run_underlying underlying232,sizeOf403,this]
  · have hnb:(vb !=b)=true:=by simpa using e
    have hnb':(vb==b)=false:=by simpa using e
    cases h1:w.frozen? ⟨vb,vo,none⟩<;>cases h2:w.frozen? ⟨vb,k2+1,none⟩<;>
     simp [run_underlying underlying232,sizeOf403,hnb,hnb',frozen,noView,viewAt,mayBeOne,stringish,shape,Sem.run,hsa,hsb,hfz,h1,h2]
 rw [key];rfl
theorem enters341 (args:Array Value) (w:World):(callFunc 341 args).run prog w= .ok (.enter 341 args) w:=enters_of func341 (by kernel_rfl) rfl args w
section
variable {κ:Kr} {H:Hp} {w:World}
theorem frzV_list {n:Nat} {l:List Val} (h:l.all (frzV n)=true): ∀v∈l,frzV n v=true:=fun v hv=>List.all_eq_true.1 h v hv
theorem close_ok (hw:WR κ H w) (id gen g d ro:Nat) (l:List Val) (hl:l.length=21) (hf: ∀v∈l,frzV 20 v=true) (h:H.get id=some (.cells g d ro l)) (hd:d≤gen) {x:Value} (hx:VK κ (.ref id gen 0 7 3 false) x):
  ∃κ',WR κ' (H.set id .gone) w∧Fr κ.own κ κ' w w∧VK κ' (.sl (chunk 7 3 l) false) x∧κ'.μ=κ.μ:=by
 have hp:=pub_row 20 H id gen g d ro l hl hf h hd;obtain ⟨κ3,p1,p2,p3,p4⟩:=pub_ok _ _ _ _ _ hp κ w x hw hx;have hid:id<H.n:=Hp.get_lt h;have h2:=gone_ok p1 id (by rw [Hp.set_n];exact hid);rw [set_setJ] at h2;exact ⟨κ3,h2,p2,p4.of_mu0,p3⟩
theorem ins2_call (args:List Val) (H:Hp):CallOK E0 prog 341 args H (ins2 args H):=by
 intro hne κ w xs hw hg hl ha;unfold ins2 at hne⊢;split at hne
 case h_2=>exact absurd rfl hne
 rename_i id r c0;obtain ⟨x0,x1,x2,rfl,h0,h1,h2⟩:=arg3 hl ha;split at hne
 case h_2=>exact absurd rfl hne
 rename_i cs hget;split at hne
 case h_2=>exact absurd rfl hne
 rename_i hcond;simp only [Bool.and_eq_true] at hcond;obtain ⟨⟨⟨⟨⟨q1,q2⟩,q3⟩,q4⟩,q5⟩,q6⟩:=hcond;have l14:cs.length=14:=Nat.eq_of_beq_eq_true q1;have l7:r.length=7:=Nat.eq_of_beq_eq_true q2;have hid:id<H.n:=Hp.get_lt hget;have hfz: ∀v∈r++cs,frzV 20 v=true:=fun v hv=>by
  rcases List.mem_append.1 hv with h|h
  · exact frzV_list q6 v h
  · exact frzV_list q5 v h
 have hl21:(r++cs).length=21:=by simp;omega
 obtain ⟨b0,C0,hcR⟩:=hw.obj _ _ hget;have hx0:=h0;have k0: ∃b C cap,x0= .slice (some ⟨b,0,none⟩) 2 cap∧κ.μ id 0=some (b,C,cs.length)∧cap*7=C.c∧2≤cap∧C.s=0∧CellsR κ id 0 0 0 cs w b C:=by
  unfold VK at hx0
  cases hx0 with
  | ref _ _ _ _ _ _ b C L cap g1 g2 g3 g4 g5 g6 g7=>
    have e:=hcR.at_;rw [g1] at e;simp only [Option.some.injEq,Prod.mk.injEq] at e;obtain ⟨rfl,rfl,rfl⟩:=e;have hs:C.s=0:=by omega
    exact ⟨b,C,cap,by rw [hs],g1,by have:=g5 rfl;omega,g6,hs,hcR⟩
 obtain ⟨b,C,cap,rfl,hμ,hcap,hcap2,hs0,hcR⟩:=k0;have k1:x1= .int .i64 0:=by unfold VK at h1;cases h1;rfl
 subst k1;have hx2:=h2;have k2: ∃vb vo vcap z,x2= .slice (some ⟨vb,vo,none⟩) 1 vcap∧κ.F vb vo=some z:=by
  unfold VK at hx2
  cases hx2 with
  | sl _ _ ad vc k vb vo X g1 g2 g3 g4 g5 g6 g7=>
    have e:=g4 (by simp);subst e;have e1:=g5 0 _ rfl;exact ⟨vb,vo,vc,_,rfl,by simpa using g6 0 0 (by simp) (by omega)⟩
 obtain ⟨vb,vo,vcap,z,rfl,hz⟩:=k2;have hzc:=hw.frz _ _ _ hz;obtain ⟨c,ety,lo,hi,hb1,hb2,hb3⟩:=hcR.free;refine .inl ⟨341,_,enters341 _ _,?_⟩;simp only [fLL_eq,fH_eq];rcases Nat.lt_or_ge cap 3 with hlt|hge
 ·
  obtain rfl:cap=2:=by omega
  obtain ⟨i,hi,hisz,hib⟩: ∃i,E0.T 403=some i∧i.size=7∧i.bytes≤4096:=by
   have h:=i403
   cases hT:E0.T 403 with
   |none=>rw [hT] at h;cases h
   | some i=>
     rw [hT] at h;simp only [Option.any_some,Bool.and_eq_true] at h;exact ⟨i,rfl,Nat.eq_of_beq_eq_true h.1,Nat.le_of_ble_eq_true h.2⟩
  obtain ⟨new,hnew⟩:=ne403;have hnew':newElems E0 403 i.size (.int .i64) (.int .i64 (.ofNat 3)) H=some (new,3):=by rw [hisz];exact hnew
  obtain ⟨n1,-,ys,zv,n2,n3,n4⟩:=newElems_ok (tm:= []) (β:=fun _=>none) (t1:=233) (t2:=3) (ty:=0) tabOK.env hw (OV.of_VK (VR.int .i64 (Int.ofNat 3))) underlying233 underlying3 hi hib hnew';have hold:(Builtin.firstCells i.size 0 (.slice (some ⟨b,0,none⟩) 0 2)).run prog w.drew= .ok #[] w.drew:=by show (loadCells _ (0*i.size)).run _ _=_;rw [Nat.zero_mul];rfl
  have hap:=n4 (some ⟨b,0,none⟩) 0 2 #[] (by omega) (by unfold roomN;omega) hold;have hGle:=capOf_le w (0+3) 2 403;obtain ⟨κ1,hw1,hf1,hv1⟩:=grow_new (el:=403) (oldc:= []) (old:= #[]) (sLen:=0) hw ⟨rfl,fun i v x h=>by cases h⟩ n2 (by simp) n1 (by omega) hGle (zs:=Builtin.zeroCells zv.cells (capOf w (0+3) 2 403-(0+3))) (by rw [zeroCells_size,n3]) 0 (fun t ht=>by simp [tyN] at ht);rw [hisz] at hv1 n1;generalize capOf w (0+3) 2 403=G at hap hGle hw1 hf1 hv1;generalize w.drew.alloc _=W1 at hap hw1 hf1;simp only [Nat.zero_add,List.nil_append] at hv1 hap hw1 hGle;have mono: ∀v x,VK κ v x→VK κ1 v x:=fun v x h=>VR.mono h hf1.fext hf1.mext hf1.uext;generalize hH1:H.push (.cells 0 0 0 new)=H1 at hw1;have g1:H1.get H.n=some (.cells 0 0 0 new):=by rw [←hH1];exact get_push_new _ _
  have n1':H.n<H1.n:=by rw [←hH1];simp [Hp.push]
  have u1:upd new 0 (([r]:List (List Val)).flatten.take (1*7))=some (r++new.drop 7):=by unfold upd;rw [show ([r]:List (List Val)).flatten=r by simp,List.take_of_length_le (by omega),if_pos (by omega)];simp only [Nat.zero_add,List.take_zero,List.nil_append,l7]
  have c1:=copy_ref H1 H.n 0 0 3 0 0 new (.sl [r] c0) ([r]:List (List Val)).flatten 1 1 (r++new.drop 7) g1 (by simp only [elemsOf];rw [if_pos (by simp [l7])];rfl) (by simpa using q4) (by omega) rfl (by omega) u1;obtain ⟨W2,r1,e1,hw2,hf2,-⟩:=copyP_ok (tm:= []) (β:=fun _=>none) (ty:=0) tabOK.env (ats:= #[233,232]) rfl hw1 (OV.of_VK hv1) (OV.of_VK (mono _ _ h2)) c1;generalize hH2:H1.set H.n (.cells 0 0 0 (r++new.drop 7))=H2 at hw2;have g2:H2.get H.n=some (.cells 0 0 0 (r++new.drop 7)):=by rw [←hH2,Hp.get_set _ hw1.len _ _ n1',if_pos rfl]
  have g2':H2.get id=some (.cells 0 0 0 cs):=by rw [←hH2,Hp.get_set _ hw1.len _ _ n1',if_neg (by omega),←hH1,get_push_old _ _ _ hid];exact hget
  have s2:sub cs 0 (2*7)=some cs:=by unfold sub;rw [if_pos (by omega),List.drop_zero,List.take_of_length_le (by omega)]
  have u2:upd (r++new.drop 7) 7 (cs.take (2*7))=some (r++cs):=by unfold upd;rw [List.take_of_length_le (by omega),if_pos (by simp;omega),List.take_append_of_le_length (by omega),List.take_of_length_le (by omega),List.drop_of_length_le (by simp;omega),List.append_nil]
  have c2:=copy_ref H2 H.n 0 7 2 0 0 (r++new.drop 7) (.ref id 0 0 7 2 false) cs 2 2 (r++cs) g2 (by simp only [elemsOf,g2'];rw [if_pos ⟨by omega,trivial⟩,s2]) q3 (by omega) rfl (by omega) u2;obtain ⟨W3,r2,e2,hw3,hf3,-⟩:=copyP_ok (tm:= []) (β:=fun _=>none) (ty:=0) tabOK.env (ats:= #[233,233]) rfl hw2.drew (OV.of_VK (ref_shift hv1)) (OV.of_VK (mono _ _ h0)) c2;refine (ins_grow w W1 W2 W3 r1 r2 b vb vo vcap _ G hGle (fun ty=>hap) (fun ty=>e1) (fun ty=>e2)).mono ?_;rintro e w' ⟨rfl,rfl⟩;have g3:(H2.set H.n (.cells 0 0 0 (r++cs))).get H.n=some (.cells 0 0 0 (r++cs)):=by rw [Hp.get_set _ hw2.len _ _ (by rw [←hH2,Hp.set_n];exact n1'),if_pos rfl]
  obtain ⟨κ4,hw4,hf4,hv4,-⟩:=close_ok hw3 H.n 0 0 0 0 (r++cs) hl21 hfz g3 (Nat.le_refl _) hv1;rw [set_setJ,←hH2,set_setJ,←hH1,push_set] at hw4;have hw5:=gone_ok hw4 id (by simp only [Hp.push];omega);have f12:=hf1.trans hf2 hf1.onew;have f13:=f12.trans (Fr.heap_eq (κ:=κ1) (w:=W2) (w':=W2.drew) rfl rfl rfl rfl) f12.onew;have f14:=f13.trans hf3 f13.onew;have f15:=f14.trans hf4 f14.onew;exact ⟨_,_,κ4,rfl,hw5,f15,hv4⟩
 ·
  have hov:=ovl_false w vb vo vcap b (cap-1) z hzc ⟨c,ety,lo,hi,hb1,by omega,fun o=>hb3 o (by omega)⟩ (fun e=>by
   subst e;rcases Nat.lt_or_ge vo C.c with h|h
   · have:=hcR.wr vo (Nat.zero_le _) h (by omega);rw [hs0,Nat.sub_zero,hz] at this;cases this
   · omega)
  have hw0:=pushGone_ok hw;have hget0:(H.push .gone).get id=some (.cells 0 0 0 cs):=by rw [get_push_old _ _ _ hid];exact hget
  obtain ⟨hw1,hf1⟩:=extend_ok hw0 hget0 hμ 7 (by omega) rfl;generalize hκ:κ.addU id (0+1) (b,C,cs.length+7)=κ1 at hw1 hf1;have hμ1:κ1.μ id 1=some (b,C,21):=by rw [←hκ,l14];simp [Kr.addU]
  have mono: ∀v x,VK κ v x→VK κ1 v x:=fun v x h=>VR.mono h hf1.fext hf1.mext hf1.uext;generalize hH1:(H.push .gone).set id (.cells (0+1) 0 0 (cs++List.replicate 7 .bad))=H1 at hw1;have hid1:id<H1.n:=by rw [←hH1,Hp.set_n];simp only [Hp.push];omega
  have g1:H1.get id=some (.cells 1 0 0 (cs++List.replicate 7 .bad)):=by rw [←hH1,Hp.get_set _ hw0.len _ _ (by simp only [Hp.push];omega),if_pos rfl]
  have v3:VK κ1 (.ref id 1 0 7 3 false) (.slice (some ⟨b,0,none⟩) 3 cap):=by unfold VK;have:=VR.ref (F:=κ1.F) (M:=κ1.M) id 1 0 7 3 false b C 21 cap hμ1 (by omega) (by omega) (fun h=>by cases h) (fun _=>by omega) hge (by omega);rw [hs0] at this;exact this
  have v2:VK κ1 (.ref id 1 0 7 2 false) (.slice (some ⟨b,0,none⟩) 2 cap):=by unfold VK;have:=VR.ref (F:=κ1.F) (M:=κ1.M) id 1 0 7 2 false b C 21 cap hμ1 (by omega) (by omega) (fun h=>by cases h) (fun _=>by omega) (by omega) (by omega);rw [hs0] at this;exact this
  have s1:sub (cs++List.replicate 7 Val.bad) 0 (2*7)=some cs:=by unfold sub;rw [if_pos (by simp;omega),List.drop_zero,List.take_append_of_le_length (by omega),List.take_of_length_le (by omega)]
  have u1:upd (cs++List.replicate 7 Val.bad) 7 (cs.take (2*7))=some (cs.take 7++cs):=by unfold upd;rw [List.take_of_length_le (by omega),if_pos (by simp;omega),List.take_append_of_le_length (by omega),List.drop_of_length_le (by simp;omega),List.append_nil]
  have c1:=copy_ref H1 id 1 7 2 0 0 (cs++List.replicate 7 .bad) (.ref id 1 0 7 2 false) cs 2 2 (cs.take 7++cs) g1 (by simp only [elemsOf,g1];rw [if_pos ⟨by omega,trivial⟩,s1]) q3 (by omega) rfl (by omega) u1;obtain ⟨W1,r1,e1,hw2,hf2,-⟩:=copyP_ok (tm:= []) (β:=fun _=>none) (ty:=0) tabOK.env (ats:= #[233,233]) rfl hw1.drew (OV.of_VK (ref_shift v3)) (OV.of_VK v2) c1;generalize hH2:H1.set id (.cells 1 1 0 (cs.take 7++cs))=H2 at hw2;have g2:H2.get id=some (.cells 1 1 0 (cs.take 7++cs)):=by rw [←hH2,Hp.get_set _ hw1.len _ _ hid1,if_pos rfl]
  have u2:upd (cs.take 7++cs) 0 (([r]:List (List Val)).flatten.take (1*7))=some (r++cs):=by unfold upd;rw [show ([r]:List (List Val)).flatten=r by simp,List.take_of_length_le (by omega),if_pos (by simp;omega)];simp only [Nat.zero_add,List.take_zero,List.nil_append];rw [List.drop_append_of_le_length (by simp;omega),List.drop_of_length_le (by simp;omega),List.nil_append]
  have c2:=copy_ref H2 id 1 0 3 1 0 (cs.take 7++cs) (.sl [r] c0) ([r]:List (List Val)).flatten 1 1 (r++cs) g2 (by simp only [elemsOf];rw [if_pos (by simp [l7])];rfl) (by simpa using q4) (by omega) rfl (by omega) u2;obtain ⟨W2,r2,e2,hw3,hf3,-⟩:=copyP_ok (tm:= []) (β:=fun _=>none) (ty:=0) tabOK.env (ats:= #[233,232]) rfl hw2 (OV.of_VK v3) (OV.of_VK (mono _ _ h2)) c2;refine (ins_room w W1 W2 r1 r2 b cap vb vo vcap hge hov (fun ty=>(copy_len _ _ _ _ _ _ _ _ cap cap).trans e1) (fun ty=>e2)).mono ?_;rintro e w' ⟨rfl,rfl⟩;have g3:(H2.set id (.cells 1 1 0 (r++cs))).get id=some (.cells 1 1 0 (r++cs)):=by rw [Hp.get_set _ hw2.len _ _ (by rw [←hH2,Hp.set_n];exact hid1),if_pos rfl]
  obtain ⟨κ4,hw4,hf4,hv4,-⟩:=close_ok hw3 id 1 1 1 0 (r++cs) hl21 hfz g3 (Nat.le_refl _) v3;rw [set_setJ,←hH2,set_setJ,←hH1,set_setJ] at hw4;have f12:Fr κ.own κ κ1 w w.drew:=hf1.trans (Fr.heap_eq (κ:=κ1) (w:=w) (w':=w.drew) rfl rfl rfl rfl) hf1.onew;have f13:=f12.trans hf2 f12.onew;have f14:=f13.trans hf3 f13.onew;have f15:=f14.trans hf4 f14.onew;exact ⟨_,_,κ4,rfl,hw4,f15,hv4⟩
end
theorem pIns_call (args:List Val) (H:Hp):CallOK E0 prog 341 args H (pIns args H):=by
 unfold pIns;split
 · next v H' h=>
   have:=ins2_call args H;rw [h] at this;exact this
 · exact evalFn_ok tabOK 1 341 args H
open Go Go.Proofs.Tryz
set_option maxRecDepth 100000
theorem pr235:fxOK E0 prog okd 235 (.prim (pSeq 156 3)):=fun args H=>pSeq_call E0 args H
theorem pr341:fxOK E0 prog okd 341 (.prim pIns):=pIns_call
theorem pr324:fxOK E0 prog okd 324 (.prim pNoEsc):=pNoEsc_ok (fn:=f324) func324 (by kernel_rfl) (by kernel_rfl) (by kernel_rfl) (by kernel_rfl)
theorem pr459:fxOK E0 prog okd 459 (.prim pIdx):=pIdx_ok (fn:=f459) func459 (by kernel_rfl) (by kernel_rfl) (by kernel_rfl) (by kernel_rfl)
theorem ffs_ok (f:Nat) (x:FX) (h:ffs f=some x):fxOK E0 prog okd f x:=by
 unfold ffs at h;split at h
 · rename_i hb;cases h;rw [Nat.eq_of_beq_eq_true hb];exact pr235
 split at h
 · rename_i hb;cases h;rw [Nat.eq_of_beq_eq_true hb];exact pr324
 split at h
 · rename_i hb;cases h;rw [Nat.eq_of_beq_eq_true hb];exact pr341
 split at h
 · rename_i hb;cases h;rw [Nat.eq_of_beq_eq_true hb];exact pr459
 exact rX_ok f x h
theorem mtab:MTab E0 prog okd ffs:=⟨tabOK,fun f _ _ hx=>ffs_ok f _ hx,fun f _ hx=>ffs_ok f _ hx⟩
end Go.PV

