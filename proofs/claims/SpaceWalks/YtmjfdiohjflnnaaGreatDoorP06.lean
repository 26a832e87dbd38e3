/- A part of the proof: PvS1, PvJ1, PvP3, PvCl, CLV. -/
import Derived.Laws.Externs
import Derived.Sort.Grow
import Derived.Test.YtmjfdiohjflnnaaGreatDoorP00
import Derived.Test.YtmjfdiohjflnnaaGreatDoorP01
import Derived.Test.YtmjfdiohjflnnaaGreatDoorP03
import Derived.Test.YtmjfdiohjflnnaaGreatDoorP04
set_option linter.all false
namespace Go.PV
open Go.Sort
theorem grow_heap (w:World) (os:Array Go.Obj) (b:Nat) (h:b<w.heap.size):(grow w os).heap[b]? =w.heap[b]? :=by show (w.heap++os)[b]? =_;rw [Array.getElem?_append_left h]
theorem WR.grow {κ:Kr} {H:Hp} {w:World} (hw:WR κ H w) (os:Array Go.Obj):WR κ H (Go.Sort.grow w os):=by
 obtain ⟨l⟩:=os
 induction l generalizing w with
 |nil=>exact hw.heap_eq (by simp [Go.Sort.grow])
 | cons o l ih=>
   have:=ih (hw.alloc o);rw [alloc_eq_grow,grow_grow] at this;have e: #[o]++(⟨l⟩:Array Go.Obj)=⟨o::l⟩:=by simp
   rwa [e] at this
theorem Fr.grow {κ:Kr} {w:World} (os:Array Go.Obj):Fr κ.own κ κ w (Go.Sort.grow w os):=
 ⟨by simp [Go.Sort.grow],fun b hb _=>grow_heap w os b hb,fun _ _ _ h=>h,fun _ _ _ h=> .inl h,fun _ _ h=>h,fun _ _ h=> .inl h,fun _ h=> .inl h,fun _ _ _ h=>h,rfl,rfl,rfl⟩
theorem putRow_heap {α:Type} [Inhabited α] (enc:α→Value) (w:World) (b o:Nat) (d:Array α) (c:Array Value) (e:TypeId) (fr:Nat×Nat) (h:w.heap[b]? =some (.cells c e fr)) (hs:o+d.size≤c.size):
  (putRow enc w b o d).heap=(w.setCells b o (d.map enc).toList).heap:=by
 obtain ⟨c',h1,h2,h3⟩:=setCells_block b (d.map enc).toList o w c e fr h;apply Array.ext_getElem?;intro k;by_cases hk:k=b
 · subst hk;rw [h1];show (w.heap.modify k _)[k]? =_;rw [Array.getElem?_modify,if_pos rfl,h];show some (Go.Obj.cells (putCells enc o d c) e fr)=_;congr 2;apply Array.ext_getElem?;intro i;rw [h3];unfold putCells;rw [Array.getElem?_mapIdx];simp only [Array.length_toList,Array.size_map];by_cases hi:i<c.size
   · rw [Array.getElem?_eq_getElem hi,Option.map_some];by_cases hr:o≤i∧i<o+d.size
     · rw [if_pos hr,if_pos ⟨hr.1,hr.2,hi⟩];have:i-o<d.size:=by omega
       simp [this]
     · rw [if_neg hr,if_neg (fun h=>hr ⟨h.1,h.2.1⟩)]
   · rw [Array.getElem?_eq_none (by omega),if_neg (fun h=>hi h.2.2)];rfl
 · rw [setCells_other _ _ _ _ _ hk];show (w.heap.modify b _)[k]? =_;rw [Array.getElem?_modify,if_neg (fun e=>hk e.symm)]
section
variable {κ:Kr} {H:Hp} {w:World}
theorem sort_row (P:Program) {α:Type} [Inhabited α] (hw:WR κ H w) {id gen off len d ro b o cap:Nat} {cs cs':List Val} (hp:VK κ (.ref id gen off 1 len false) (.slice (some ⟨b,o,none⟩) len cap)) (hc:H.get id=some (.cells gen d ro cs)) (hro:ro≤off)
  {vs:List Val} (enc:α→Value) (dk:Array α) (hds:dk.size=len) (hcr:CR κ vs (dk.map enc)) (hone: ∀(i:Nat) (y:Value),(dk.map enc)[i]? =some y→y.oneCell'=true) (hu:upd cs off vs=some cs') (n:Nat) (os:Array Go.Obj):
  WR κ (H.set id (.cells gen gen ro cs')) (Go.Sort.grow (putRow enc (Go.Sort.ahead w n) b o dk) os)∧Fr κ.own κ κ w (Go.Sort.grow (putRow enc (Go.Sort.ahead w n) b o dk) os):=by
 unfold VK at hp
 cases hp with
 | ref _ _ _ _ _ _ b' C L cap' h1 h2 h3 h4 h5 h6 h7=>
   have hvl:vs.length=len:=by rw [hcr.1,Array.size_map,hds]
   have hq:VK κ (.ptr id gen off (off+len)) (.pointer (some ⟨b,off-C.s,none⟩)):= .ptr id gen off (off+len) b C L h1 (by omega) h7;have hst:storeH id gen off (off+len) len vs [] H= .ok (.tup []) [] (H.set id (.cells gen gen ro cs')):=by unfold storeH;simp only [hc];rw [if_pos ⟨trivial,hro,Nat.le_refl _⟩];simp only [hu,fL_eq,fH_eq]
   obtain ⟨-,-,b2,o2,e1,-,hw2,hf2⟩:=storeH_ok (P:=P) (loc:=fun _=>false) (β:=fun _=>none) (tm:= []) hw hq hcr hone hvl hst;simp only [Value.pointer.injEq,Option.some.injEq,Addr.mk.injEq,and_true] at e1;obtain ⟨rfl,rfl⟩:=e1;obtain ⟨b0,C0,hcR⟩:=hw.obj _ _ hc;have e:=hcR.at_;rw [h1] at e;simp only [Option.some.injEq,Prod.mk.injEq] at e;obtain ⟨rfl,rfl,rfl⟩:=e;obtain ⟨c,ety,lo,hi,hb1,hb2,hb3⟩:=hcR.free;have hr:=hcR.room;have hph:(putRow enc (Go.Sort.ahead w n) b (off-C.s) dk).heap=(w.setCells b (off-C.s) (dk.map enc).toList).heap:=by
    rw [putRow_heap enc (Go.Sort.ahead w n) b (off-C.s) dk c ety (lo,hi) hb1 (by omega)];have: ∀(vs:List Value) (o:Nat) (w1 w2:World),w1.heap=w2.heap→(w1.setCells b o vs).heap=(w2.setCells b o vs).heap:=by
     intro vs
     induction vs with
     |nil=>intro o w1 w2 h;exact h
     |cons v vs ih=>intro o w1 w2 h;exact ih _ _ _ (by simp only [World.setCell,h])
    exact this _ _ _ _ rfl
   obtain ⟨r1,r2,r3,r4⟩:=setCells_rest b (dk.map enc).toList (off-C.s) w;have hw3:=hw2.heap_eq (w':=putRow enc (Go.Sort.ahead w n) b (off-C.s) dk) hph;have hf3:Fr κ.own κ κ w (putRow enc (Go.Sort.ahead w n) b (off-C.s) dk):=
    hf2.trans (Fr.heap_eq (κ:=κ) hph r2.symm r3.symm r4.symm) fun b hb=> .inl hb
   exact ⟨hw3.grow os,hf3.trans (Fr.grow os) fun b hb=> .inl hb⟩
end
section
variable {κ:Kr} {H:Hp} {w:World}
theorem gone_ok (hw:WR κ H w) (id:Nat) (hid:id<H.n):WR κ (H.set id .gone) w:=by
 refine ⟨hw.frz,hw.mps,hw.mmap,Hp.set_len _ _ _ hw.len,fun j ob hj=> ?_,fun i g y h=>by rw [Hp.set_n];exact hw.dom _ _ _ h,hw.blk,hw.sep⟩;rw [Hp.get_set _ hw.len _ _ hid] at hj;split at hj
 · cases hj;exact trivial
 · exact hw.obj _ _ hj
theorem pushGone_ok (hw:WR κ H w):WR κ (H.push .gone) w:=by
 refine ⟨hw.frz,hw.mps,hw.mmap,Hp.push_len _ _ hw.len,fun j ob hj=> ?_,fun i g y h=>by have:=hw.dom _ _ _ h;simp only [Hp.push];omega,hw.blk,hw.sep⟩;rw [Hp.get_push _ hw.len] at hj;split at hj
 · cases hj;exact trivial
 · exact hw.obj _ _ hj
theorem extend_ok (hw:WR κ H w) {id g d ro:Nat} {cs:List Val} {b:Nat} {C:Cap} (hget:H.get id=some (.cells g d ro cs)) (hμ:κ.μ id g=some (b,C,cs.length)) (m:Nat) (hroom:cs.length+m≤C.c) (hty:tyN (g+1)=tyN g):
  WR (κ.addU id (g+1) (b,C,cs.length+m)) (H.set id (.cells (g+1) d ro (cs++List.replicate m .bad))) w∧Fr κ.own κ (κ.addU id (g+1) (b,C,cs.length+m)) w w:=by
 have hid:=Hp.get_lt hget;obtain ⟨b0,C0,hc⟩:=hw.obj _ _ hget;have e:=hc.at_;rw [hμ] at e;simp only [Option.some.injEq,Prod.mk.injEq] at e;obtain ⟨rfl,rfl,-⟩:=e;have hnone:κ.μ id (g+1)=none:=hc.last _ (by omega);have hμ': ∀i h y,κ.μ i h=some y→(κ.addU id (g+1) (b,C,cs.length+m)).μ i h=some y:=by
  intro i h y hh;simp only [Kr.addU];rw [if_neg]
  · exact hh
  · rintro ⟨rfl,rfl⟩;rw [hnone] at hh;cases hh
 have hself:(κ.addU id (g+1) (b,C,cs.length+m)).μ id (g+1)=some (b,C,cs.length+m):=by simp [Kr.addU]
 have hcase: ∀i h y,(κ.addU id (g+1) (b,C,cs.length+m)).μ i h=some y→(i=id∧h=g+1∧y=(b,C,cs.length+m))∨κ.μ i h=some y:=by
  intro i h y hm;simp only [Kr.addU] at hm;split at hm
  · rename_i hcc;simp at hm;exact .inl ⟨hcc.1,hcc.2,hm.symm⟩
  · exact .inr hm
 have mono: ∀v x,VK κ v x→VK (κ.addU id (g+1) (b,C,cs.length+m)) v x:=fun v x h=>VR.mono h (fun _ _ _ h=>h) (fun _ _ h=>h) hμ';obtain ⟨c,ety,lo,hi,hb1,hb2,hb3⟩:=hc.free;refine ⟨⟨hw.frz,hw.mps,hw.mmap,Hp.set_len _ _ _ hw.len,fun j ob hj=> ?_,fun i h y hh=> ?_,fun i h b' C' L' hh=> ?_,?_⟩,?_⟩
 · rw [Hp.get_set _ hw.len _ _ hid] at hj;split at hj
   · rename_i ej;subst ej;cases hj;refine ⟨b,C,by rw [hself];simp,by simpa using hroom,hc.sle,hc.free,fun i v h1 h2=> ?_,?_,hc.wr,fun g' hg'=> ?_,by have:=hc.dle;omega,hc.ety.of_gen hty⟩
     · by_cases hi:i<cs.length
       · rw [List.getElem?_append_left hi] at h2;obtain ⟨x,hx⟩:=hc.gh i v h1 h2;exact ⟨x,mono _ _ hx⟩
       · rw [List.getElem?_append_right (by omega),List.getElem?_replicate] at h2;split at h2
         · cases h2;exact ⟨default,.bad _⟩
         · cases h2
     · intro g' b' C' L' hd hm;rcases hcase _ _ _ hm with ⟨-,rfl,y⟩|hm'
       · simp only [Prod.mk.injEq] at y;obtain ⟨rfl,rfl,rfl⟩:=y;refine ⟨by simp,fun i v h1 h2 h3=> ?_⟩;by_cases hi:i<cs.length
         · rw [List.getElem?_append_left hi] at h3;obtain ⟨x,hx1,hx2⟩:=(hc.cont g b' C' _ hc.dle hμ).2 i v h1 hi h3;exact ⟨x,hx1,mono _ _ hx2⟩
         · rw [List.getElem?_append_right (by omega),List.getElem?_replicate] at h3;split at h3
           · cases h3;have hlt:i-C'.s<c.size:=by omega
             exact ⟨c[i-C'.s],by unfold cellAt;rw [hb1];simp [hlt],.bad _⟩
           · cases h3
       · obtain ⟨h4,h5⟩:=hc.cont g' b' C' L' hd hm';refine ⟨by simp;omega,fun i v h1 h2 h3=> ?_⟩;rw [List.getElem?_append_left (by omega)] at h3;obtain ⟨x,hx1,hx2⟩:=h5 i v h1 h2 h3;exact ⟨x,hx1,mono _ _ hx2⟩
     · simp only [Kr.addU];rw [if_neg (by rintro ⟨_,e⟩;omega)];exact hc.last _ (by omega)
   · rename_i hne;refine (hw.obj _ _ hj).carry (fun _ _ _ h=>h) (fun _ _ h=>h) hμ' (fun g'=> ?_) (fun _ _ _ _ _=>rfl) (fun _ _ _ _ _ _ h=>h) (fun _ _ _ _ _ h=>h);simp only [Kr.addU];rw [if_neg (by rintro ⟨e,_⟩;exact hne e)]
 · rw [Hp.set_n];rcases hcase _ _ _ hh with ⟨rfl,_,_⟩|h'
   · exact hid
   · exact hw.dom _ _ _ h'
 · rcases hcase _ _ _ hh with ⟨_,_,y⟩|h'
   · simp only [Prod.mk.injEq] at y;obtain ⟨rfl,-,-⟩:=y;exact hw.blk _ _ _ _ _ hμ
   · exact hw.blk _ _ _ _ _ h'
 · intro i h b1 C1 L1 i' h' C2 L2 hm1 hm2;have conv: ∀i h bb CC LL,(κ.addU id (g+1) (b,C,cs.length+m)).μ i h=some (bb,CC,LL)→ ∃h' LL',κ.μ i h'=some (bb,CC,LL'):=fun i h bb CC LL hm=>by
    rcases hcase _ _ _ hm with ⟨rfl,_,y⟩|h'
    · simp only [Prod.mk.injEq] at y;obtain ⟨rfl,rfl,-⟩:=y;exact ⟨_,_,hμ⟩
    · exact ⟨_,_,h'⟩
   obtain ⟨p1,q1,m1⟩:=conv _ _ _ _ _ hm1
   obtain ⟨p2,q2,m2⟩:=conv _ _ _ _ _ hm2
   exact hw.sep _ _ _ _ _ _ _ _ _ m1 m2
 · refine ⟨Nat.le_refl _,fun _ _ _=>rfl,fun _ _ _ h=>h,fun _ _ _ h=> .inl h,fun _ _ h=>h,fun _ _ h=> .inl h,?_,hμ',rfl,rfl,rfl⟩;rintro k ⟨i,h,C',L',hm⟩;rcases hcase _ _ _ hm with ⟨_,_,y⟩|h'
   · simp only [Prod.mk.injEq] at y;obtain ⟨rfl,-,-⟩:=y;exact .inl ⟨_,_,_,_,hμ⟩
   · exact .inl ⟨_,_,_,_,h'⟩
end
theorem pub_row (n:Nat) (H:Hp) (id gen g d ro:Nat) (l:List Val) (hl:l.length=21) (hf: ∀v∈l,frzV n v=true) (h:H.get id=some (.cells g d ro l)) (hd:d≤gen):
  pub (n+1) (.ref id gen 0 7 3 false) H=some (.sl (chunk 7 3 l) false,H.set id (.cells g d (maxN ro 21) l)):=by
 have h1:sub l 0 21=some l:=by simp [sub,hl,List.take_of_length_le]
 rw [pub];simp only [h];rw [if_pos ⟨hd,by omega⟩];simp only [Nat.zero_add,show 3*7=21 from rfl,h1,fN_eq,fH_eq,mapH_same (f:=pub n) (vs:=l) (fun v hv=>frzV_pub _ v (hf v hv)),fLL_eq]
theorem list_find_map {α β:Type} (f:α→β) (p:β→Bool): ∀l:List α,(l.map f).find? p=(l.find? (fun x=>p (f x))).map f
 | []=>rfl
 | x::l=>by
   simp only [List.map_cons,List.find?_cons]
   cases p (f x) with
   |true=>rfl
   |false=>exact list_find_map f p l
theorem find_congr {α:Type} (p q:α→Bool): ∀l:List α,(∀x,x∈l→p x=q x)→l.find? p=l.find? q
 | [],_=>rfl
 | x::l,h=>by
   simp only [List.find?_cons,h x (by simp)]
   cases q x with
   |true=>rfl
   |false=>exact find_congr p q l fun y hy=>h y (by simp [hy])
theorem idxGo_eq (b:Nat): ∀(l:List UInt8) (i:Nat),b<256→idxGo b l.length (packL l) i=((List.range l.length).find? fun j=>decide ((l[j]?.map UInt8.toNat)=some b)).map (· +i)
 | [],i,_=>rfl
 | x::l,i,hb=>by
   simp only [List.length_cons,idxGo,packL];have hx:x.toNat<256:=x.toNat_lt;have e1:(x.toNat+256*packL l)%256=x.toNat:=by omega
   have e2:(x.toNat+256*packL l)/256=packL l:=by omega
   rw [e1,e2,List.range_succ_eq_map,List.find?_cons];simp only [List.getElem?_cons_zero,Option.map_some,Option.some.injEq];by_cases h:x.toNat=b
   · subst h;rw [show Nat.beq x.toNat x.toNat=true from Nat.beq_refl _];simp
   · rw [show Nat.beq x.toNat b=false from Bool.eq_false_iff.2 (fun h'=>h (Nat.eq_of_beq_eq_true h')),show decide (x.toNat=b)=false by simp [h]];dsimp only;rw [idxGo_eq b l (i+1) hb,list_find_map];simp only [List.getElem?_cons_succ,Option.map_map];congr 1;funext j;show j+(i+1)=j.succ+i;omega
section
variable {E:Env} {P:Program} {f:Nat} {fn:Func}
theorem pIdx_ok (hf:P.funcs[f]? =some fn) (hname:(fn.name== "runtime.NumGoroutine")=false) (hb:fn.body.isNone=true) (hn:Extern.findNext fn=none) (he:Extern.find fn=some Extern.BytealgIndexByte.indexByte):
  ∀args H,CallOK E P f args H (pIdx args H):=by
 intro args H hne κ w xs hw hg hl ha;unfold pIdx at hne⊢;split at hne
 case h_2=>exact absurd rfl hne
 rename_i l n b;split at hne
 case h_2=>exact absurd rfl hne
 rename_i hb256;have hb256:b<256:=Nat.le_of_ble_eq_true hb256;have hx: ∃x y,xs= #[x,y]:=by
  obtain ⟨m⟩:=xs
  match m,hl with
  | [x,y],_=>exact ⟨x,y,rfl⟩
 obtain ⟨x,y,rfl⟩:=hx;have h0:=ha 0 _ _ rfl rfl;have h1:=ha 1 _ _ rfl rfl;unfold VK at h0 h1;cases h1
 cases h0 with
 | str s _ _ e1 e2=>
   have hrun:(callFunc f #[.string s,.int .u8 (Int.ofNat b)]).run P w= .ok (.value (.int .i64 (firstIdx s (Int.ofNat b).toNat.toUInt8))) w:=by rw [run_callFunc_extern hf hname hb hn he,run_indexByte_string];rfl
   refine .inr ⟨_,w,hrun,?_⟩;have hsz:s.data.toList.length=s.size:=size_data s;have hfind:(List.range s.size).find? (fun i=>s[i]! ==(Int.ofNat b).toNat.toUInt8)=(List.range s.data.toList.length).find? fun j=>decide ((s.data.toList[j]?.map UInt8.toNat)=some b):=by
    rw [hsz];refine find_congr _ _ _ fun i hi=> ?_;have hi:i<s.size:=by simpa using hi
    have hi':i<s.data.toList.length:=by rw [hsz];exact hi
    rw [List.getElem?_eq_getElem hi',Option.map_some];have e3:s[i]! =s.data.toList[i]:=by rw [getElem!_pos s i hi];rfl
    rw [e3];have e4:(Int.ofNat b).toNat.toUInt8=UInt8.ofNat b:=rfl;rw [e4,Bool.eq_iff_iff];simp only [beq_iff_eq,decide_eq_true_eq,Option.some.injEq];constructor
    · intro h;rw [h];simp;omega
    · intro h;rw [←h];simp
   have hgo:idxGo b l n 0=(List.range s.size).find? (fun i=>s[i]! ==(Int.ofNat b).toNat.toUInt8):=by rw [hfind,←e1,←e2,←hsz];have:=idxGo_eq b s.data.toList 0 hb256;unfold packB;rw [this];cases (List.range s.data.toList.length).find? _<;>simp
   rw [hgo] at hne⊢;unfold firstIdx
   cases (List.range s.size).find? (fun i=>s[i]! ==(Int.ofNat b).toNat.toUInt8) with
   |none=>exact ⟨_,_,κ,rfl,hw,Fr.refl fun _ h=>h,.int _ _⟩
   |some i=>exact ⟨_,_,κ,by simp only [fN_eq];rfl,hw,Fr.refl fun _ h=>h,.int _ _⟩
theorem pNoEsc_ok (hf:P.funcs[f]? =some fn) (hname:(fn.name== "runtime.NumGoroutine")=false) (hb:fn.body.isNone=true) (hn:Extern.findNext fn=none) (he:Extern.find fn=some Extern.AbiNoEscape.same):
  ∀args H,CallOK E P f args H (pNoEsc args H):=by
 intro args H hne κ w xs hw hg hl ha;unfold pNoEsc at hne⊢;split at hne
 case h_2=>exact absurd rfl hne
 rename_i v;split at hne
 case h_2=>exact absurd rfl hne
 have hx: ∃x,xs= #[x]:=by
  obtain ⟨m⟩:=xs
  match m,hl with
  | [x],_=>exact ⟨x,rfl⟩
 obtain ⟨x,rfl⟩:=hx;have h0:=ha 0 _ _ rfl rfl;have hrun:(callFunc f #[x]).run P w= .ok (.value x) w:=by rw [run_callFunc_extern hf hname hb hn he];rfl
 exact .inr ⟨x,w,hrun,v,H,κ,rfl,hw,Fr.refl fun _ h=>h,h0⟩
end
noncomputable def over (l:BT FX) (ffs:Nat→Option FX) (f:Nat):Option FX:=match l.get f with
 |some x=>some x
 |none=>ffs f
def pCls:List (List Val×Val)→List Val→Hp→FRes
 | [],_,_=> .fail
 | (a,v)::l,us,H=>match sameL us a with
   |true=> .ret v H
   |false=>pCls l us H
section
variable {E:Env} {P:Program} {okd:DrawT}
theorem pCls_ok {f:Nat}: ∀(l:List (List Val×Val)),(∀p∈l,∀us H,CallOK E P f us H (pCl p.1 p.2 us H))→ ∀us H,CallOK E P f us H (pCls l us H)
 | [],_,us,H=>fun h=>absurd rfl h
 | (a,v)::l,h,us,H=>by
   have h1:=h (a,v) (List.mem_cons_self ..) us H;have h2:=pCls_ok l (fun p hp=>h p (List.mem_cons_of_mem _ hp)) us H;unfold pCls;unfold pCl at h1
   cases hs:sameL us a with
   |true=>simp only [hs] at h1⊢;exact h1
   |false=>exact h2
theorem mOver {l:BT FX} {ffs:Nat→Option FX} (hM:MTab E P okd ffs) (hl: ∀hi,BT.allIn (fxOK E P okd) 0 hi l):MTab E P okd (over l ffs) where
 tab:=hM.tab
 ff :=fun f x fn h=>by
  unfold over at h;split at h
  · next y hy=>
    cases h;exact BT.allIn_get l 0 (f+1) (hl _) (Nat.zero_le _) (Nat.lt_succ_self _) hy
  · exact hM.ff f x fn h
 prim:=fun f p h=>by
  unfold over at h;split at h
  · next y hy=>
    cases h;exact BT.allIn_get l 0 (f+1) (hl _) (Nat.zero_le _) (Nat.lt_succ_self _) hy
  · exact hM.prim f p h
end
abbrev I (n:Nat):Val:= .int .i64 (.ofNat n)
abbrev S (n m:Nat):Val:= .str n m
def va:Val:=S 4 1936553331
def vb:Val:=S 4 1937075312
def vc:Val:=S 4 1953720652
def vd:Val:=S 6 54045510560880
def ve:Val:=S 6 55145022188656
def vf:Val:=S 7 28558080999846761
def vg:Val:=S 7 32776920301204851
def vh:Val:= .agg [I 0,S 0 0,I 0,I 0]
def vi:Val:= .sl [[S 3 7630409]] false
def vj:Val:= .sl [[S 3 7370821]] false
def vk:Val:= .sl [[S 3 7370821],[S 3 7169872]] false
def vl:Val:= .sl [[S 3 7370821],[S 3 7370821]] false
def vm:List Val:= [I 6,I 0,S 1 86,S 3 7370821,.nilsl,.nilsl]
def vn:List Val:= [I 6,I 0,S 2 12632,S 3 7370821,.nilsl,.nilsl]
def vo:List Val:= [I 6,I 0,S 2 12888,S 3 7370821,.nilsl,.nilsl]
def vp:List (List Val):= [[I 6,I 0,S 1 75,vc,.nilsl,.nilsl]]
def vq:Val:= .sl vp true
def vr:Val:= .sl [[S 3 7630409,S 3 7370821],[S 3 7370821,S 3 7169872]] false
def vs:Val:= .sl [[S 0 0,S 3 7370821],[S 1 43,S 0 0],[S 0 0,S 3 7370821]] false
def vt:List (List Val):= [[I 1,I 1,S 0 0,S 0 0,.nilsl,.nilsl],[I 1,I 2,S 0 0,S 0 0,.nilsl,.nilsl]]
def vu:Val:= .sl [[I 6,I 0,S 1 88,S 3 7630409,.nilsl,.nilsl],[I 6,I 0,S 1 89,S 3 7630409,.nilsl,.nilsl]] false
def vv:List Val:= [I 5,I 0,vd,S 0 0,.sl [vo] false,.nilsl]
def vw:List Val:= [I 5,I 0,ve,S 0 0,.sl [vn] false,.nilsl]
def vx:List Val:= [I 5,I 0,vf,S 0 0,.sl [vn] true,.nilsl]
def vy:Val:= .sl [[I 5,I 0,vf,S 0 0,.sl [vm] true,.nilsl]] true
def vz:Val:= .sl [[S 1 107,vc,I 7,I 0,S 0 0,S 0 0,.sl [[I 6,I 0,S 1 36,S 3 7958081,.nilsl,.nilsl]] false,.nilsl,I 1,I 140]] false
def vaa:Val:= .sl [[I 5,I 0,S 3 6579297,S 0 0,vu,.nilsl]] false
def vab:Val:= .sl [[I 5,I 0,vb,S 0 0,vu,.nilsl]] false
def vac:Val:= .sl [[I 5,I 0,vb,S 0 0,.sl [vn,vo] false,.nilsl]] true
def vad:List Val:= [.sl [[I 7,I 0,S 0 0,S 0 0,.sl [[I 5,I 0,vb,S 0 0,.sl vt false,.nilsl]] false,.nilsl]] false,.nilsl]
def vae:Val:= .tup [.agg [.sl [vad,[.sl [[I 7,I 0,S 0 0,S 0 0,.sl [[I 1,I 3,S 0 0,S 0 0,.nilsl,.nilsl]] false,.nilsl]] false,.nilsl]] false,.sl [[.sl [[I 0,.nilsl,I 0,I 1]] false],[.nilsl]] false],I 0]
def vaf:List Val:= [S 242 1127240392803746107508510013010670707745768731159951344054146684706911140389963118250577718883990078145754107048271509873595420844061662419240857027934109468981621429589867445830373222961670832922504093644710406202750159002373276325792846263117912204933118535022647080057074043883919694993542765746507607943088275128446190121856256056995953893810341626552942422758263897828832775969614578793476288167154734976063544341763006048146791409110543590307745238175710985776749403743263109357135579630911477123924014890835619994730889817548092373573813066683010160898103535559937642692764012]
def vag:Val:= .agg [va,vk,vr,.sl [[vb,vl,S 3 7370821,vs,I 5,I 1,.sl [[I 1],[I 2]] false]] false,.nilsl,vi,.nilsl,vz,S 0 0,.nilsl,.sl [[S 3 6579297,.sl [[S 1 107,S 0 0,I 7,I 0,S 0 0,S 0 0,vab,vq,.sl [[I 7,I 0,S 0 0,S 0 0,vaa,vq]] true,I 1,I 187]] false,.nilsl,.nilsl,.nilsl,I 1,I 176]] false,S 3 7169872,S 1 107]
def ca337_0:List Val:= [S 115 3512734084378088553325630052870886529947517021185620958981523755477882644105126609146903663803857763560802802188787210184475362562191644466193523421000569059751419629829605841330256231361608756107532437428240172945737778236111716152556591854596622006402719568366399295079081057]
def cv337_0:Val:= .sl [[S 3 6579297],[S 3 6452595],[S 3 7107949],[S 3 7760228],[S 3 6582125],[S 3 6776174],[S 2 29804],[S 2 25964],[S 2 29799],[S 2 25959],[S 2 29029],[S 2 25966],[S 3 6581857],[S 2 29295],[S 3 7630702],[S 4 1801677168],[S 3 7627107],[S 6 114849160783212],[S 4 1954047348],[S 4 1852403562],[S 3 7628135],[S 3 7632240],[S 3 7561576],[S 3 7103844],[S 4 1937335659],[S 4 1702521203],[S 2 29545],[vf]] false
def ca105_0:List Val:=vaf
def cv105_0:Val:= .tup [.sl [[I 1,S 8 7306916077306274156,I 0,I 1,I 1],[I 1,va,I 0,I 1,I 10],[I 4,S 1 46,I 0,I 1,I 14],[I 1,S 4 1953656691,I 0,I 1,I 16],[I 1,S 3 7370821,I 0,I 1,I 21],[I 4,S 1 44,I 0,I 1,I 24],[I 1,S 3 7169872,I 0,I 1,I 26],[I 4,S 1 46,I 0,I 1,I 29],[I 1,vg,I 0,I 1,I 31],[I 1,S 3 7630409,I 0,I 1,I 39],[I 4,S 1 60,I 0,I 1,I 43],[I 1,S 3 7370821,I 0,I 1,I 45],[I 4,S 1 46,I 0,I 1,I 48],[I 1,vg,I 0,I 1,I 50],[I 1,S 3 7370821,I 0,I 1,I 58],[I 4,S 1 60,I 0,I 1,I 62],[I 1,S 3 7169872,I 0,I 1,I 64],[I 4,S 1 46,I 0,I 1,I 67],[I 1,S 5 435761734006,I 0,I 1,I 69],[I 1,S 3 7630409,I 0,I 1,I 75],[I 4,S 1 46,I 0,I 1,I 78],[I 1,S 2 28783,I 0,I 1,I 80],[I 1,vb,I 0,I 1,I 83],[I 4,S 1 58,I 0,I 1,I 88],[I 1,S 3 7370821,I 0,I 1,I 90],[I 3,S 1 43,I 0,I 1,I 94],[I 1,S 3 7370821,I 0,I 1,I 98],[I 4,S 2 15917,I 0,I 1,I 102],[I 1,S 3 7370821,I 0,I 1,I 105],[I 1,S 4 1667592816,I 0,I 1,I 109],[I 2,S 0 0,I 5,I 1,I 114],[I 1,S 4 1952867692,I 0,I 1,I 116],[I 1,S 6 127970319692915,I 0,I 1,I 121],[I 4,S 1 40,I 0,I 1,I 127],[I 2,S 0 0,I 1,I 1,I 128],[I 4,S 1 44,I 0,I 1,I 129],[I 2,S 0 0,I 2,I 1,I 131],[I 4,S 1 41,I 0,I 1,I 132],[I 4,S 1 46,I 0,I 1,I 133],[I 1,S 4 1819043171,I 0,I 1,I 135],[I 1,S 1 107,I 0,I 1,I 140],[I 4,S 1 58,I 0,I 1,I 142],[I 1,vc,I 0,I 1,I 144],[I 4,S 1 61,I 0,I 1,I 149],[I 4,S 1 91,I 0,I 1,I 151],[I 4,S 1 36,I 0,I 1,I 152],[I 4,S 1 93,I 0,I 1,I 153],[I 4,S 1 46,I 0,I 1,I 154],[I 1,S 5 500135195763,I 0,I 1,I 156],[I 1,S 3 7169872,I 0,I 1,I 162],[I 4,S 1 46,I 0,I 1,I 165],[I 1,S 5 448345170295,I 0,I 1,I 167],[I 1,S 1 107,I 0,I 1,I 173],[I 4,S 1 46,I 0,I 1,I 174],[I 1,S 4 1701606770,I 0,I 1,I 176],[I 1,S 3 6579297,I 0,I 1,I 181],[I 4,S 1 58,I 0,I 1,I 185],[I 1,S 1 107,I 0,I 1,I 187],[I 4,S 1 58,I 0,I 1,I 189],[I 4,S 1 91,I 0,I 1,I 191],[I 1,vb,I 0,I 1,I 192],[I 4,S 1 40,I 0,I 1,I 196],[I 1,S 1 88,I 0,I 1,I 197],[I 4,S 1 58,I 0,I 1,I 198],[I 1,S 3 7630409,I 0,I 1,I 199],[I 4,S 1 44,I 0,I 1,I 202],[I 1,S 1 89,I 0,I 1,I 204],[I 4,S 1 58,I 0,I 1,I 205],[I 1,S 3 7630409,I 0,I 1,I 206],[I 4,S 1 41,I 0,I 1,I 209],[I 4,S 1 124,I 0,I 1,I 211],[I 1,S 1 75,I 0,I 1,I 213],[I 4,S 1 93,I 0,I 1,I 214],[I 4,S 2 15933,I 0,I 1,I 216],[I 4,S 1 91,I 0,I 1,I 219],[I 1,S 3 6579297,I 0,I 1,I 220],[I 4,S 1 40,I 0,I 1,I 223],[I 1,S 1 88,I 0,I 1,I 224],[I 4,S 1 58,I 0,I 1,I 225],[I 1,S 3 7630409,I 0,I 1,I 226],[I 4,S 1 44,I 0,I 1,I 229],[I 1,S 1 89,I 0,I 1,I 231],[I 4,S 1 58,I 0,I 1,I 232],[I 1,S 3 7630409,I 0,I 1,I 233],[I 4,S 1 41,I 0,I 1,I 236],[I 4,S 1 124,I 0,I 1,I 238],[I 1,S 1 75,I 0,I 1,I 240],[I 4,S 1 93,I 0,I 1,I 241],[I 4,S 1 46,I 0,I 1,I 242]] false,vh]
def ca65_0:List Val:=vaf
def cv65_0:Val:= .tup [vag,vh]
def ca26_0:List Val:=vaf
def cv26_0:Val:=vag
def ca67_0:List Val:= [vag]
def cv67_0:Val:= .bool true
def ca68_0:List Val:= [vag]
def cv68_0:Val:= .tup [.agg [va,vk,vr,.sl [[vb,vl,S 3 7370821,vs,I 5,I 1,.nilsl],[vd,vj,S 3 7370821,.nilsl,I 0,I 0,.nilsl],[ve,vj,S 3 7370821,.nilsl,I 0,I 0,.nilsl]] false,.nilsl,vi,.nilsl,vz,S 0 0,.nilsl,.sl [[S 3 6579297,.sl [[S 1 107,S 0 0,I 7,I 0,S 0 0,S 0 0,vab,.sl vp false,.sl [[I 7,I 0,S 0 0,S 0 0,vaa,.sl vp false]] false,I 1,I 187]] false,.nilsl,.nilsl,.nilsl,I 1,I 176],[S 11 59688136817432349658934384,.sl [[S 1 107,S 0 0,I 7,I 0,S 0 0,S 0 0,vac,vq,.sl [[I 7,I 0,S 0 0,S 0 0,.sl [vn,vv] true,vq]] true,I 0,I 0]] true,.sl [[I 5,I 0,S 3 7630702,S 0 0,.sl [vx] true,.nilsl]] false,.nilsl,.nilsl,I 0,I 0],[S 11 59687990255095328722480240,.sl [[S 1 107,S 0 0,I 7,I 0,S 0 0,S 0 0,.sl [vm,vv] true,vq,.sl [[I 7,I 0,S 0 0,S 0 0,.sl [[I 5,I 0,vb,S 0 0,.sl [vm,vo] false,.nilsl]] true,vq]] true,I 0,I 0]] true,vy,.nilsl,.nilsl,I 0,I 0],[S 11 60897062637046978833640560,.sl [[S 1 107,S 0 0,I 7,I 0,S 0 0,S 0 0,vac,vq,.sl [[I 7,I 0,S 0 0,S 0 0,.sl [vo,vw] true,vq]] true,I 0,I 0]] true,.sl [vx,[I 5,I 0,S 3 7630702,S 0 0,.sl [[I 5,I 0,vf,S 0 0,.sl [vo] true,.nilsl]] true,.nilsl]] false,.nilsl,.nilsl,I 0,I 0],[S 11 60896916074709957897186416,.sl [[S 1 107,S 0 0,I 7,I 0,S 0 0,S 0 0,.sl [vm,vw] true,vq,.sl [[I 7,I 0,S 0 0,S 0 0,.sl [[I 5,I 0,vb,S 0 0,.sl [vn,vm] false,.nilsl]] true,vq]] true,I 0,I 0]] true,vy,.nilsl,.nilsl,I 0,I 0]] false,S 3 7169872,S 1 107],I 0]
def ca27_0:List Val:= [vag,.agg [.sl [[I 7,I 0,S 0 0,S 0 0,.sl [[I 5,I 0,vb,S 0 0,.sl vt true,.nilsl]] true,.nilsl]] true,.nilsl]]
def cv27_0:Val:=vae
def ca27_1:List Val:= [vag,.agg vad]
def cv27_1:Val:=vae
def ca6_0:List Val:= []
def cv6_0:Val:= .bool true
end Go.PV
