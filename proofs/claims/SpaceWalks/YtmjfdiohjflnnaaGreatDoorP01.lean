/- A part of the proof: PvL, PvA2, PvA3, PvA4, PvX1, PvX2, PvX3, PvX4, PvX5, PvF, PvG, PvH, PvI, PvI2, PvN1, PvN2, PvN3, PvN4, PvD1, PvD2. -/
import Derived.Orders
import Derived.Test.YtmjfdiohjflnnaaGreatDoorP00
set_option linter.all false
namespace Go.PV
theorem setT_length (tm:List Val) (i:Nat) (v:Val):(setT tm i v).length=tm.length:=by
 induction tm generalizing i with
 |nil=>rfl
 |cons x l ih=>cases i<;>simp [setT,ih]
theorem setT_get (tm:List Val) (i j:Nat) (v:Val):(setT tm i v)[j]? =if i=j∧j<tm.length then some v else tm[j]? :=by
 induction tm generalizing i j with
 |nil=>simp [setT]
 | cons x l ih=>
   cases i with
   | zero=>cases j with
     |zero=>simp [setT]
     |succ j=>simp [setT]
   | succ i=>cases j with
     |zero=>simp [setT]
     |succ j=>simp only [setT,List.getElem?_cons_succ,ih,List.length_cons];simp
section
variable {E:Env} {P:Program} {loc:Nat→Bool} {κ κ':Kr} {w w':World} {β:Nat→Option Nat} {tm:List Val} {ts:Array Value} {H:Hp}
theorem SV_OV {i:Nat} {v:Val} {x:Value} (hn: ∀st cs,v≠ .lv st cs):SV κ w β tm i v x=OV κ β tm v x:=by cases v<;>first|rfl|exact absurd rfl (hn _ _)
theorem OV.mono {v:Val} {x:Value} (h:OV κ β tm v x) (hm: ∀u y,VK κ u y→VK κ' u y):OV κ' β tm v x:=by cases v<;>first|exact hm _ _ h|exact h
theorem LocR.carry {b:Nat} {cs:List Val} (h:LocR κ w b cs) (hm: ∀u y,VK κ u y→VK κ' u y) (hh:w'.heap[b]? =w.heap[b]?):LocR κ' w' b cs:=by obtain ⟨c,e,lo,hi,h1,h2,h3,h4⟩:=h.lies;exact ⟨c,e,lo,hi,by rw [hh];exact h1,h2,fun i v x hv hx=>hm _ _ (h3 i v x hv hx),h4⟩
theorem TR.fr (ht:TR loc κ w β tm ts) (f:Fr κ.own κ κ' w w'):TR loc κ' w' β tm ts:=by
 have hm: ∀u y,VK κ u y→VK κ' u y:=fun u y h=>VK.fr h f;refine ⟨ht.len,fun i v x hv hx=> ?_,fun s b hb=> ?_,ht.binj,ht.lvloc⟩
 · have h0:=ht.val i v x hv hx
   cases v with
   | lv st cs=>
     obtain ⟨b,h1,h2,h3⟩:=h0;obtain ⟨g1,g2,_⟩:=ht.bfree _ _ h1;exact ⟨b,h1,h2,h3.carry hm (f.keep b g1 g2)⟩
   | _=>
     rw [SV_OV (by simp)] at h0⊢;exact OV.mono h0 hm
 · obtain ⟨g1,g2,g3,g4⟩:=ht.bfree _ _ hb;refine ⟨Nat.lt_of_lt_of_le g1 f.size,fun ho=>(f.onew _ ho).elim g2 (fun h=>by omega),fun o=> ?_,?_⟩
   · cases hF:κ'.F b o with
     |none=>rfl
     | some v=>
       rcases f.fnew _ _ _ hF with h|h|h
       · rw [g3] at h;simp at h
       · exact absurd h g2
       · omega
   · cases hM:κ'.M b with
     |none=>rfl
     | some v=>
       rcases f.mnew _ _ hM with h|h|h
       · rw [g4] at h;simp at h
       · exact absurd h g2
       · omega
theorem TR.put (ht:TR loc κ w β tm ts) {d:Nat} {v:Val} {x:Value} (hv:OV κ β tm v x) (hs:locSafe (loc d) v=true):TR loc κ w β (setT tm d v) (ts.setIfInBounds d x):=by
 have hnl: ∀st cs,v≠ .lv st cs:=by rintro st cs rfl;exact hv
 have hld:loc d=false:=by
  cases hd:loc d with
  |false=>rfl
  | true=>
    rw [hd] at hs;cases v<;>first|(exact absurd rfl (hnl _ _))|simp [locSafe] at hs
 have hnd: ∀st cs,tm[d]? ≠some (.lv st cs):=fun st cs h=>by have:=ht.lvloc _ _ _ h;rw [hld] at this;simp at this
 have lp_ok: ∀ {u:Val} {y:Value},OV κ β tm u y→OV κ β (setT tm d v) u y:=by
  intro u y hu
  cases u with
  | lp s st off=>
    obtain ⟨⟨b,h1,h2⟩,st',cs,h3,h4⟩:=hu;have hsd:d≠s:=by rintro rfl;exact hnd _ _ h3
    have e:(setT tm d v)[s]? =tm[s]? :=by rw [setT_get,if_neg (fun h=>hsd h.1)]
    exact ⟨⟨b,h1,fun cs' h=>h2 cs' (by rw [←e];exact h)⟩,st',cs,by rw [e];exact h3,h4⟩
  |_=>exact hu
 refine ⟨by rw [setT_length];simpa using ht.len,fun i u y hu hy=> ?_,ht.bfree,ht.binj,fun i st cs h=> ?_⟩
 · rw [setT_get] at hu;rw [Array.getElem?_setIfInBounds] at hy;split at hu
   · rename_i hc;obtain ⟨rfl,hlt⟩:=hc;simp only [Option.some.injEq] at hu;subst hu;rw [if_pos rfl,if_pos (by rw [←ht.len];exact hlt)] at hy;simp only [Option.some.injEq] at hy;subst hy;rw [SV_OV hnl];exact lp_ok hv
   · rename_i hc;have hne:d≠i:=by rintro rfl;apply hc;exact ⟨rfl,(List.getElem?_eq_some_iff.1 hu).1⟩
     rw [if_neg hne] at hy;have h0:=ht.val i u y hu hy
     cases u with
     |lv st cs=>exact h0
     | _=>
       rw [SV_OV (by simp)] at h0⊢;exact lp_ok h0
 · rw [setT_get] at h;split at h
   · simp only [Option.some.injEq] at h;exact absurd h (hnl _ _)
   · exact ht.lvloc _ _ _ h
theorem TR.putLocal (ht:TR loc κ w β tm ts) {d st b:Nat} {cs:List Val} (hd:loc d=true) (hdl:d<tm.length) (hst: ∀st' cs',tm[d]? =some (.lv st' cs')→st'<st) (hb:LocR κ w b cs) (hbl:b<w.heap.size)
  (h1: ¬κ.own b) (h2: ∀o,κ.F b o=none) (h3:κ.M b=none) (h4: ∀s,β s≠some b):
  TR loc κ w (fun i=>if i=d then some b else β i) (setT tm d (.lv st cs)) (ts.setIfInBounds d (.pointer (some ⟨b,0,none⟩))):=by
 have lp_ok: ∀ {u:Val} {y:Value},OV κ β tm u y→OV κ (fun i=>if i=d then some b else β i) (setT tm d (.lv st cs)) u y:=by
  intro u y hu
  cases u with
  | lp s st0 off=>
    obtain ⟨⟨b0,g1,g2⟩,st',cs0,g3,g4⟩:=hu;by_cases e:d=s
    · subst e;have g5:=hst _ _ g3;have e1:(setT tm d (.lv st cs))[d]? =some (.lv st cs):=by rw [setT_get,if_pos ⟨rfl,hdl⟩]
      refine ⟨⟨b0,g1,fun cs' h=> ?_⟩,st,cs,e1,by omega⟩;rw [e1] at h;simp at h;omega
    · have e1:(setT tm d (.lv st cs))[s]? =tm[s]? :=by rw [setT_get,if_neg (fun h=>e h.1)]
      refine ⟨⟨b0,g1,fun cs' h=> ?_⟩,st',cs0,by rw [e1];exact g3,g4⟩;show (if s=d then some b else β s)=some b0;rw [if_neg (fun h=>e h.symm)];exact g2 cs' (by rw [←e1];exact h)
  |_=>exact hu
 refine ⟨by rw [setT_length];simpa using ht.len,fun i u y hu hy=> ?_,fun s b' hb'=> ?_,fun s s' b' hs hs'=> ?_,fun i st' cs' h=> ?_⟩
 · rw [setT_get] at hu;rw [Array.getElem?_setIfInBounds] at hy;split at hu
   · rename_i hc;obtain ⟨rfl,hlt⟩:=hc;simp only [Option.some.injEq] at hu;subst hu;rw [if_pos rfl,if_pos (by rw [←ht.len];exact hlt)] at hy;simp only [Option.some.injEq] at hy;subst hy;exact ⟨b,if_pos rfl,rfl,hb⟩
   · rename_i hc;have hne:d≠i:=by rintro rfl;exact hc ⟨rfl,hdl⟩
     rw [if_neg hne] at hy;have h0:=ht.val i u y hu hy
     cases u with
     | lv st' cs'=>
       obtain ⟨b0,g1,g2,g3⟩:=h0;exact ⟨b0,by show (if i=d then some b else β i)=some b0;rw [if_neg (fun h=>hne h.symm)];exact g1,g2,g3⟩
     | _=>
       rw [SV_OV (by simp)] at h0⊢;exact lp_ok h0
 · split at hb'
   · simp only [Option.some.injEq] at hb';subst hb';exact ⟨hbl,h1,h2,h3⟩
   · exact ht.bfree _ _ hb'
 · split at hs
   · rename_i e1;split at hs'
     · rename_i e2;rw [e1,e2]
     · simp only [Option.some.injEq] at hs;subst hs;exact absurd hs' (h4 _)
   · split at hs'
     · simp only [Option.some.injEq] at hs';subst hs';exact absurd hs (h4 _)
     · exact ht.binj _ _ _ hs hs'
 · rw [setT_get] at h;split at h
   · rename_i hc;rw [←hc.1];exact hd
   · exact ht.lvloc _ _ _ h
theorem WR.beside (hw:WR κ H w) {b:Nat} (hh: ∀b',b'≠b→w'.heap[b']? =w.heap[b']?) (hs:w'.heap.size=w.heap.size) (h1: ¬κ.own b) (h2: ∀o,κ.F b o=none) (h3:κ.M b=none):WR κ H w':=by
 refine ⟨fun b' o v h=> ?_,fun b' o h=> ?_,hw.mmap,hw.len,fun id o h=> ?_,hw.dom,fun id g b' C L h=>by rw [hs];exact hw.blk _ _ _ _ _ h,hw.sep⟩
 · have hne:b'≠b:=by rintro rfl;rw [h2] at h;simp at h
   have:=hw.frz _ _ _ h;unfold cellAt at this⊢;rw [hh _ hne];exact this
 · have hne:b'≠b:=by rintro rfl;rw [h3] at h;simp at h
   rw [hh _ hne];exact hw.mps _ _ h
 · refine (hw.obj _ _ h).carry (fun _ _ _ h=>h) (fun _ _ h=>h) (fun _ _ _ h=>h) (fun _=>rfl) (fun g b' C L hm=> ?_) (fun _ _ _ _ _ _ h=>h) (fun _ _ _ _ _ h=>h);refine hh _ ?_;rintro rfl;exact h1 ⟨_,_,_,_,hm⟩
theorem storeL_ok (ht:TR loc κ w β tm ts) (hw:WR κ H w) {slot st off:Nat} {vs:List Val} {x:Value} {xs:Array Value} {v:Val} {tm':List Val} {H':Hp} (hp:OV κ β tm (.lp slot st off) x)
  (hx:CR κ vs xs) (ho: ∀(i:Nat) (y:Value),xs[i]? =some y→y.oneCell'=true) (h:storeL slot st off vs tm H= .ok v tm' H'):
  v = .tup []∧H'=H∧ ∃b,x= .pointer (some ⟨b,off,none⟩)∧(storeCells ⟨b,off,none⟩ xs.toList).run P w= .ok () (w.setCells b off xs.toList)∧WR κ H (w.setCells b off xs.toList)∧TR loc κ (w.setCells b off xs.toList) β tm' ts∧
    β slot=some b∧ ∀b',b'≠b→(w.setCells b off xs.toList).heap[b']? =w.heap[b']? :=by
 unfold storeL at h;rw [getT_eq] at h;split at h
 · rename_i st' cs hs;split at h
   · rename_i e;subst e;split at h
     · rename_i cs' hu;simp only [fL_eq,ORes.ok.injEq] at h;obtain ⟨rfl,rfl,rfl⟩:=h;have hlt:slot<tm.length:=by
        rcases Nat.lt_or_ge slot tm.length with h|h
        · exact h
        · rw [List.getElem?_eq_none h] at hs;simp at hs
       have hs':tm[slot]? =some (.lv st cs):=by rw [List.getElem?_eq_getElem hlt] at hs⊢;simpa using hs
       obtain ⟨⟨b,hb1,hb2⟩,_⟩:=hp;have hβ:=hb2 _ hs';have hsz:slot<ts.size:=by rw [←ht.len];exact hlt
       obtain ⟨b',hb',hx',hl⟩:=ht.val slot _ ts[slot] hs' (by simp [hsz]);rw [hβ] at hb';simp only [Option.some.injEq] at hb';subst hb';obtain ⟨c,e,lo,hi,hc1,hc2,hc3,hc4⟩:=hl.lies;obtain ⟨g1,g2,g3,g4⟩:=ht.bfree _ _ hβ;obtain ⟨u1,u2,u3⟩:=upd_some hu;have hle:off+xs.size≤c.size:=by rw [←hx.1,hc2];exact u1
       obtain ⟨c',k1,k2,k3⟩:=setCells_block b xs.toList off w c e (lo,hi) hc1;obtain ⟨r1,r2,r3,r4⟩:=setCells_rest b xs.toList off w;have hoth: ∀b',b'≠b→(w.setCells b off xs.toList).heap[b']? =w.heap[b']? :=fun b' hne=>setCells_other b _ _ _ _ hne;refine ⟨rfl,rfl,b,hb1,run_storeCells_free ⟨c,e,lo,hi,hc1,Nat.le_refl _,hc4⟩ xs hle ho,hw.beside hoth r1 g2 g3 g4,?_,hβ,hoth⟩;have hnew:LocR κ (w.setCells b off xs.toList) b cs':=by
        refine ⟨c',e,lo,hi,k1,by rw [k2,u2];exact hc2,fun i v x hv hxx=> ?_,fun o ho=>hc4 o (by rw [←k2];exact ho)⟩;rw [u3] at hv;rw [k3] at hxx;simp only [Array.length_toList] at hxx;have hi:i<c.size:=by
         rw [←k2];have:c'[i]? =some x:=by rw [k3];simp only [Array.length_toList];exact hxx
         exact (Array.getElem?_eq_some_iff.1 this).1
        split at hv
        · rename_i hr;rw [if_pos ⟨hr.1,by rw [←hx.1];exact hr.2,hi⟩] at hxx;exact hx.2 _ _ _ hv (by simpa using hxx)
        · rename_i hr;rw [if_neg (by rw [←hx.1];exact fun hh=>hr ⟨hh.1,hh.2.1⟩)] at hxx;exact hc3 _ _ _ hv hxx
       have lp_ok: ∀ {u:Val} {y:Value},OV κ β tm u y→OV κ β (setT tm slot (.lv st cs')) u y:=by
        intro u y hu
        cases u with
        | lp s st0 off0=>
          obtain ⟨⟨b0,q1,q2⟩,st1,cs1,q3,q4⟩:=hu;by_cases es:slot=s
          · subst es;have e1:(setT tm slot (.lv st cs'))[slot]? =some (.lv st cs'):=by rw [setT_get,if_pos ⟨rfl,hlt⟩]
            rw [hs'] at q3;simp only [Option.some.injEq,Val.lv.injEq] at q3;refine ⟨⟨b0,q1,fun cs2 h2=> ?_⟩,st,cs',e1,by omega⟩;rw [e1] at h2;simp only [Option.some.injEq,Val.lv.injEq] at h2;refine q2 cs ?_;rw [hs',h2.1]
          · have e1:(setT tm slot (.lv st cs'))[s]? =tm[s]? :=by rw [setT_get,if_neg (fun h=>es h.1)]
            exact ⟨⟨b0,q1,fun cs2 h2=>q2 cs2 (by rw [←e1];exact h2)⟩,st1,cs1,by rw [e1];exact q3,q4⟩
        |_=>exact hu
       refine ⟨by rw [setT_length];exact ht.len,fun i u y hu hy=> ?_,fun s b0 hb0=> ?_,ht.binj,fun i st0 cs0 h0=> ?_⟩
       · rw [setT_get] at hu;split at hu
         · rename_i hcc;obtain ⟨rfl,_⟩:=hcc;simp only [Option.some.injEq] at hu;subst hu;have:y=ts[slot]:=by rw [Array.getElem?_eq_getElem hsz] at hy;simp only [Option.some.injEq] at hy;exact hy.symm
           exact ⟨b,hβ,by rw [this];exact hx',hnew⟩
         · rename_i hcc;have hne:slot≠i:=fun e=>hcc ⟨e,by rw [←e];exact hlt⟩;have h0:=ht.val i u y hu hy
           cases u with
           | lv st0 cs0=>
             obtain ⟨b0,q1,q2,q3⟩:=h0;refine ⟨b0,q1,q2,q3.carry (fun _ _ h=>h) (hoth _ ?_)⟩;rintro rfl;exact hne (ht.binj _ _ _ hβ q1)
           | _=>
             rw [SV_OV (by simp)] at h0⊢;exact lp_ok h0
       · obtain ⟨q1,q2,q3,q4⟩:=ht.bfree _ _ hb0;exact ⟨by rw [r1];exact q1,q2,q3,q4⟩
       · rw [setT_get] at h0;split at h0
         · rename_i hcc;rw [←hcc.1];exact ht.lvloc _ _ _ hs'
         · exact ht.lvloc _ _ _ h0
     · simp at h
   · simp at h
 · simp at h
end
def zerosOf:TypeDesc→Bool
 | .int _=>true
 |_=>false
section
variable {E:Env} {P:Program} {w:World}
theorem bind_ok {α γ:Type} {m:Sem α} {f:α→Sem γ} {a:α} {w w':World} (h:m.run P w= .ok a w'):(m>>=f).run P w=(f a).run P w':=by rw [Sem.run_bind,h];rfl
theorem ite_pos {α:Type} {c:Prop} [Decidable c] {a b:Sem α} (h:c):(if c then a else b).run P w=a.run P w:=by rw [if_pos h]
theorem ite_neg {α:Type} {c:Prop} [Decidable c] {a b:Sem α} (h: ¬c):(if c then a else b).run P w=b.run P w:=by rw [if_neg h]
theorem wrap_nat {n:Nat} (hn:n≤roomN):IntKind.i64.wrap (Int.ofNat n)=Int.ofNat n:=by have hr:roomN=35184372088832:=rfl;rw [IntKind.wrap_i64];simp;omega
theorem zeros_run {d2:TypeDesc}:(pure (d2 matches .int _):Sem Bool).run P w= .ok (zerosOf d2) w:=by cases d2<;>rfl
theorem append_fit {t1 t2 ty el:Nat} {d2:TypeDesc} {i:TypeInfo} {base:Option Addr} {sLen sCap n:Nat} {x:Value} {ys:Array Value} {w':World}
  (hu1:P.underlying t1=some (.slice el)) (hu2:P.underlying t2=some d2) (hi:P.info? el=some i)
  (hz:zerosOf d2=false) (hn:(Builtin.lenOf x).run P w= .ok n w) (hnew:(Builtin.firstCells i.size n x).run P w= .ok ys w) (hfit:sLen+n≤sCap)
  (hst:(match base with|some a=>storeCells (a.add (sLen*i.size)) ys.toList|none=>pure ():Sem Unit).run P w= .ok () w'):
  (Builtin.append_ #[t1,t2] ty #[.slice base sLen sCap,x]).run P w= .ok (.slice base (sLen+n) sCap) w':=by
 refine (bind_ok (run_underlying' hu1)).trans ?_;refine (bind_ok (run_size' hi)).trans ?_;refine (bind_ok (run_underlying' hu2)).trans ?_;refine (bind_ok (zeros_run (d2:=_))).trans ?_;rw [hz];refine (ite_neg (by decide)).trans ?_;refine (bind_ok hn).trans ?_;refine (ite_pos hfit).trans ?_;refine (bind_ok ((ite_pos (by decide)).trans hnew)).trans ?_
 cases base with
 | none=>
   simp only [Sem.run_pure,Result.ok.injEq,true_and] at hst;subst hst;rfl
 |some a=>exact (bind_ok hst).trans (Sem.run_pure _ _ _)
theorem append_fit0 {t1 t2 ty el:Nat} {k2:IntKind} {i:TypeInfo} {base:Option Addr} {sLen sCap n:Nat} {zv:Value} {w':World} (hu1:P.underlying t1=some (.slice el)) (hu2:P.underlying t2=some (.int k2)) (hi:P.info? el=some i)
  (hzv:i.zero=some zv) (hn:n≤roomN) (hb:n*i.bytes≤2^48) {ys:Array Value}
  (hnew:(if n*i.size=0 then pure #[] else do pure (Builtin.zeroCells (←zeroValue el).cells n):Sem (Array Value)).run P w= .ok ys w) (hfit:sLen+n≤sCap)
  (hst:(match base with|some a=>storeCells (a.add (sLen*i.size)) ys.toList|none=>pure ():Sem Unit).run P w= .ok () w'):
  (Builtin.append_ #[t1,t2] ty #[.slice base sLen sCap,.int .i64 (.ofNat n)]).run P w= .ok (.slice base (sLen+n) sCap) w':=by
 have h1: ¬(Int.ofNat n<0):=by simp
 have h2: ¬(Int.ofNat n*(i.bytes:Int)>2^48):=by rw [show Int.ofNat n=(n:Int) from rfl,←Int.natCast_mul];omega
 refine (bind_ok (run_underlying' hu1)).trans ?_;refine (bind_ok (run_size' hi)).trans ?_;refine (bind_ok (run_underlying' hu2)).trans ?_;refine (bind_ok (a:=true) (w':=w) rfl).trans ?_;refine (ite_pos rfl).trans ?_;refine (bind_ok (a:=Int.ofNat n) (w':=w) rfl).trans ?_;rw [wrap_nat hn];refine (ite_neg h1).trans ?_;refine (bind_ok (run_info' hi)).trans ?_;refine (ite_neg h2).trans ?_;refine (bind_ok (Sem.run_pure _ _ _)).trans ?_;rw [show (Int.ofNat n).toNat=n from rfl];refine (ite_pos hfit).trans ?_;refine (bind_ok ((ite_neg (c:=(!true)=true) (by decide)).trans hnew)).trans ?_
 cases base with
 | none=>
   simp only [Sem.run_pure,Result.ok.injEq,true_and] at hst;subst hst;rfl
 |some a=>exact (bind_ok hst).trans (Sem.run_pure _ _ _)
theorem nextcap_le (n c:Nat) (h:c<n):Builtin.nextslicecap n c≤2*n+2000:=by
 unfold Builtin.nextslicecap;split
 · omega
 · split
   · omega
   · simp only [Builtin.growBy]
     repeat' split
     all_goals omega
def capOf (w:World) (need cap el:Nat):Nat:=(Question.appendCap need cap el).cut (w.tape w.drawn (.appendCap need cap el))
theorem capOf_le (w:World) (need cap el:Nat):need≤capOf w need cap el:=by simp [capOf,Question.cut]
theorem run_cap (need cap el:Nat):(choose (.appendCap need cap el)).run P w= .ok (capOf w need cap el) w.drew:=by have hf:(Question.appendCap need cap el).forced=false:=rfl;simp only [choose,Sem.run,hf,Bool.false_eq_true,if_false,capOf];rfl
theorem room_facts {need n0 bytes cap:Nat} (hroom:need*(bytes+1)≤roomN) (hbytes:bytes≤4096) (hc:cap<need) (hn:n0≤need):
  need≤35184372088832∧need*bytes≤35184372088832∧ ¬(Builtin.nextslicecap need cap*bytes>2^48)∧n0≤roomN∧n0*bytes≤2^48:=by
 have hr:roomN=35184372088832:=rfl;rw [hr] at hroom⊢;have h0:need≤35184372088832:=Nat.le_trans (Nat.le_mul_of_pos_right _ (by omega)) hroom;have hb:need*bytes≤35184372088832:=Nat.le_trans (Nat.mul_le_mul_left _ (by omega)) hroom;refine ⟨h0,hb,?_,by omega,?_⟩
 · have h3:=nextcap_le need cap hc;have h4:Builtin.nextslicecap need cap*bytes≤(2*need+2000)*bytes:=Nat.mul_le_mul_right _ h3;rw [Nat.add_mul,Nat.mul_assoc] at h4;omega
 · have:=Nat.mul_le_mul_right bytes hn;omega
theorem append_grow {t1 t2 ty el:Nat} {d2:TypeDesc} {i:TypeInfo} {base:Option Addr} {sLen sCap n:Nat} {x zv:Value} {ys old:Array Value}
  (hu1:P.underlying t1=some (.slice el)) (hu2:P.underlying t2=some d2) (hi:P.info? el=some i) (hzv:i.zero=some zv)
  (hz:zerosOf d2=false) (hn:(Builtin.lenOf x).run P w= .ok n w) (hgrow: ¬sLen+n≤sCap) (hroom:(sLen+n)*(i.bytes+1)≤roomN) (hbytes:i.bytes≤4096)
  (hold:(Builtin.firstCells i.size sLen (.slice base sLen sCap)).run P w.drew= .ok old w.drew) (hnew:(Builtin.firstCells i.size n x).run P w.drew= .ok ys w.drew):
  (Builtin.append_ #[t1,t2] ty #[.slice base sLen sCap,x]).run P w=
   .ok (.slice (some ⟨w.drew.heap.size,0,none⟩) (sLen+n) (capOf w (sLen+n) sCap el)) (w.drew.alloc (.cells (old++ys++Builtin.zeroCells zv.cells (capOf w (sLen+n) sCap el-(sLen+n))) el)):=by
 obtain ⟨f1,f2,f3,f4,f5⟩:=room_facts hroom hbytes (Nat.lt_of_not_le hgrow) (Nat.le_add_left n sLen);have h1: ∀q:Prop,¬(((sLen+n:Nat):Int)>IntKind.i64.max∧q):=by
  have hk:IntKind.i64.max=9223372036854775807:=by decide
  rw [hk];rintro q ⟨h,_⟩;omega
 refine (bind_ok (run_underlying' hu1)).trans ?_;refine (bind_ok (run_size' hi)).trans ?_;refine (bind_ok (run_underlying' hu2)).trans ?_;refine (bind_ok (zeros_run (d2:=_))).trans ?_;rw [hz];refine (ite_neg (by decide)).trans ?_;refine (bind_ok hn).trans ?_;refine (ite_neg hgrow).trans ?_;refine (bind_ok (run_info' hi)).trans ?_;refine (ite_neg (h1 _)).trans ?_;refine (bind_ok (run_info' hi)).trans ?_;refine (ite_neg f3).trans ?_;refine (bind_ok (run_cap _ _ _)).trans ?_;refine (bind_ok (run_info' hi)).trans ?_;refine (bind_ok (run_askRoom _ _ _)).trans ?_;refine (bind_ok hold).trans ?_;refine (bind_ok ((ite_pos (by decide)).trans hnew)).trans ?_;refine (bind_ok (run_zero' hi hzv)).trans ?_;refine (bind_ok (a:=⟨w.drew.heap.size,0,none⟩) (w':=w.drew.alloc (.cells (old++ys++Builtin.zeroCells zv.cells (capOf w (sLen+n) sCap el-(sLen+n))) el)) ?_).trans (Sem.run_pure _ _ _);simp only [newRow,Sem.run_bind,run_newObj,Result.andThen_ok,Sem.run_pure,World.alloc_eq]
theorem append_grow0 {t1 t2 ty el:Nat} {k2:IntKind} {i:TypeInfo} {base:Option Addr} {sLen sCap n:Nat} {zv:Value} {old:Array Value}
  (hu1:P.underlying t1=some (.slice el)) (hu2:P.underlying t2=some (.int k2)) (hi:P.info? el=some i) (hzv:i.zero=some zv)
  (hgrow: ¬sLen+n≤sCap) (hroom:(sLen+n)*(i.bytes+1)≤roomN) (hbytes:i.bytes≤4096) {ys:Array Value}
  (hnew:(if n*i.size=0 then pure #[] else do pure (Builtin.zeroCells (←zeroValue el).cells n):Sem (Array Value)).run P w.drew= .ok ys w.drew)
  (hold:(Builtin.firstCells i.size sLen (.slice base sLen sCap)).run P w.drew= .ok old w.drew):
  (Builtin.append_ #[t1,t2] ty #[.slice base sLen sCap,.int .i64 (.ofNat n)]).run P w=
   .ok (.slice (some ⟨w.drew.heap.size,0,none⟩) (sLen+n) (capOf w (sLen+n) sCap el)) (w.drew.alloc (.cells (old++ys++Builtin.zeroCells zv.cells (capOf w (sLen+n) sCap el-(sLen+n))) el)):=by
 obtain ⟨f1,f2,f3,f4,f5⟩:=room_facts hroom hbytes (Nat.lt_of_not_le hgrow) (Nat.le_add_left n sLen);have h1: ∀q:Prop,¬(((sLen+n:Nat):Int)>IntKind.i64.max∧q):=by
  have hk:IntKind.i64.max=9223372036854775807:=by decide
  rw [hk];rintro q ⟨h,_⟩;omega
 have g1: ¬(Int.ofNat n<0):=by simp
 have g2: ¬(Int.ofNat n*(i.bytes:Int)>2^48):=by rw [show Int.ofNat n=(n:Int) from rfl,←Int.natCast_mul];omega
 refine (bind_ok (run_underlying' hu1)).trans ?_;refine (bind_ok (run_size' hi)).trans ?_;refine (bind_ok (run_underlying' hu2)).trans ?_;refine (bind_ok (a:=true) (w':=w) rfl).trans ?_;refine (ite_pos rfl).trans ?_;refine (bind_ok (a:=Int.ofNat n) (w':=w) rfl).trans ?_;rw [wrap_nat f4];refine (ite_neg g1).trans ?_;refine (bind_ok (run_info' hi)).trans ?_;refine (ite_neg g2).trans ?_;refine (bind_ok (Sem.run_pure _ _ _)).trans ?_;rw [show (Int.ofNat n).toNat=n from rfl];refine (ite_neg hgrow).trans ?_;refine (bind_ok (run_info' hi)).trans ?_;refine (ite_neg (h1 _)).trans ?_;refine (bind_ok (run_info' hi)).trans ?_;refine (ite_neg f3).trans ?_;refine (bind_ok (run_cap _ _ _)).trans ?_;refine (bind_ok (run_info' hi)).trans ?_;refine (bind_ok (run_askRoom _ _ _)).trans ?_;refine (bind_ok hold).trans ?_;refine (bind_ok ((ite_neg (c:=(!true)=true) (by decide)).trans hnew)).trans ?_;refine (bind_ok (run_zero' hi hzv)).trans ?_;refine (bind_ok (a:=⟨w.drew.heap.size,0,none⟩) (w':=w.drew.alloc (.cells (old++ys++Builtin.zeroCells zv.cells (capOf w (sLen+n) sCap el-(sLen+n))) el)) ?_).trans (Sem.run_pure _ _ _);simp only [newRow,Sem.run_bind,run_newObj,Result.andThen_ok,Sem.run_pure,World.alloc_eq]
end
section
variable {E:Env} {P:Program} (hE:EnvOK E P) {κ:Kr} {w:World} {β:Nat→Option Nat} {tm:List Val} {H:Hp}
theorem rep_get {γ:Type} (l:List γ) (n i:Nat):(List.replicate n l).flatten[i]? =if i<n*l.length then l[i%l.length]? else none:=by
 induction n generalizing i with
 |zero=>simp
 | succ n ih=>
   rw [List.replicate_succ,List.flatten_cons,List.getElem?_append];rw [Nat.succ_mul];split
   · rename_i h;rw [Nat.mod_eq_of_lt h,if_pos (by omega)]
   · rename_i h;rw [ih,←Nat.mod_eq_sub_mod (by omega)];by_cases c:i<n*l.length+l.length
     · rw [if_pos c,if_pos (by omega)]
     · rw [if_neg c,if_neg (by omega)]
theorem zeroCells_size (z:Array Value) (n:Nat):(Builtin.zeroCells z n).size=n*z.size:=by simp [Builtin.zeroCells]
theorem rep_len {γ:Type} (l:List γ) (n:Nat):(List.replicate n l).flatten.length=n*l.length:=by
 induction n with
 |zero=>simp
 |succ n ih=>rw [List.replicate_succ,List.flatten_cons,List.length_append,ih,Nat.succ_mul];omega
theorem zeroCells_ok {zc:List Val} {z:Array Value} (h:CR κ zc z) (n:Nat):CR κ (List.replicate n zc).flatten (Builtin.zeroCells z n):=by
 refine ⟨by rw [rep_len,zeroCells_size,h.1],fun i v x hv hx=> ?_⟩;rw [rep_get] at hv;split at hv
 · rename_i hlt;have hk:0<zc.length:=by
    rcases Nat.eq_zero_or_pos zc.length with e|e
    · rw [e] at hlt;omega
    · exact e
   have hm:i%zc.length<zc.length:=Nat.mod_lt _ hk;have hz:i<n*z.size:=by rw [←h.1];exact hlt
   have hm':i%z.size<z.size:=by rw [←h.1];exact hm
   have hx':x=z[i%z.size]! :=by unfold Builtin.zeroCells at hx;rw [Array.getElem?_map] at hx;simp [hz] at hx;exact hx.symm
   subst hx';refine h.2 _ _ _ hv ?_;rw [h.1];rw [getElem!_pos z _ hm',Array.getElem?_eq_getElem hm']
 · simp at hv
theorem CR.append {as bs:List Val} {xs ys:Array Value} (h:CR κ as xs) (h':CR κ bs ys):CR κ (as++bs) (xs++ys):=by
 refine ⟨by simp [h.1,h'.1],fun i v x hv hx=> ?_⟩;rw [List.getElem?_append] at hv;rw [Array.getElem?_append] at hx;rw [h.1] at hv;split at hv
 · rename_i c;rw [if_pos c] at hx;exact h.2 _ _ _ hv hx
 · rename_i c;rw [if_neg c] at hx;exact h'.2 _ _ _ hv hx
def NewR (κ:Kr) (w:World) (P:Program) (t1 t2 ty el:Nat) (i:TypeInfo) (z:Value) (new:List Val) (n:Nat):Prop:=
 new.length=n*i.size∧
 (∃ys,CR κ new ys∧ ∀base sLen sCap w',sLen+n≤sCap→(match base with|some a=>storeCells (a.add (sLen*i.size)) ys.toList|none=>pure ():Sem Unit).run P w= .ok () w'→
  (Builtin.append_ #[t1,t2] ty #[.slice base sLen sCap,z]).run P w= .ok (.slice base (sLen+n) sCap) w')∧
 (∃(ys:Array Value) (zv:Value),CR κ new ys∧zv.cells.size=i.size∧ ∀base sLen sCap old,¬sLen+n≤sCap→(sLen+n)*(i.bytes+1)≤roomN→(Builtin.firstCells i.size sLen (.slice base sLen sCap)).run P w.drew= .ok old w.drew→
  (Builtin.append_ #[t1,t2] ty #[.slice base sLen sCap,z]).run P w=
   .ok (.slice (some ⟨w.drew.heap.size,0,none⟩) (sLen+n) (capOf w (sLen+n) sCap el)) (w.drew.alloc (.cells (old++ys++Builtin.zeroCells zv.cells (capOf w (sLen+n) sCap el-(sLen+n))) el)))
theorem WR.drew (hw:WR κ H w):WR κ H w.drew:=hw.heap_eq rfl
include hE in
theorem newElems_ok {t1 t2 ty el:Nat} {d2:TypeDesc} {i:TypeInfo} {x:Val} {z:Value} {new:List Val} {n:Nat} (hw:WR κ H w) (hx:OV κ β tm x z)
  (hu1:P.underlying t1=some (.slice el)) (hu2:P.underlying t2=some d2) (hi:E.T el=some i) (hb:i.bytes≤4096)
  (h:newElems E el i.size d2 x H=some (new,n)):NewR κ w P t1 t2 ty el i z new n:=by
 have hi':=hE.T _ _ hi;obtain ⟨zv,hzv,hzok,hzlen⟩:=hE.zok _ _ hi;obtain ⟨⟨hz1,hz2⟩,_⟩:=zero_cells (κ:=κ) (fun F M μ=>ofC_ok F M μ 2 zv) hzok;have hzs:zv.cells.size=i.size:=by rw [←hz1];exact hzlen
 unfold newElems at h;split at h
 · rename_i k2;split at h
   · rename_i m z' hz';split at h
     · rename_i hc;obtain ⟨h1,h2,h3⟩:=hc;simp only [Option.some.injEq,Prod.mk.injEq] at h;obtain ⟨rfl,rfl⟩:=h;simp only [OV] at hx;cases hx;have hze:z'=ofC 2 zv:=by unfold zeroT at hz';rw [hi] at hz';simp only [hzv,Option.some.injEq] at hz';exact hz'.symm
       subst hze;have hnb:m*i.bytes≤2^48:=by have:=Nat.mul_le_mul h3 hb;omega
       have hr:roomN=35184372088832:=rfl;have hcr:CR κ (List.replicate m (ofC 2 zv).cells).flatten (Builtin.zeroCells zv.cells m):=zeroCells_ok ⟨hz1,hz2⟩ m;have hnew: ∀w1:World,∃ys,(if m*i.size=0 then pure #[] else do pure (Builtin.zeroCells (←zeroValue el).cells m):Sem (Array Value)).run P w1= .ok ys w1∧CR κ (List.replicate m (ofC 2 zv).cells).flatten ys:=by
        intro w1;by_cases hnz:m*i.size=0
        · refine ⟨#[],(ite_pos hnz).trans (Sem.run_pure _ _ _),?_,by simp⟩;rw [rep_len,hzlen,hnz];rfl
        · exact ⟨_,(ite_neg hnz).trans ((bind_ok (run_zero' hi' hzv)).trans (Sem.run_pure _ _ _)),hcr⟩
       obtain ⟨ys,hy1,hy2⟩:=hnew w;obtain ⟨ys',hy1',hy2'⟩:=hnew w.drew;exact ⟨by rw [rep_len,hzlen],⟨ys,hy2,fun base sLen sCap w' hfit hst=>append_fit0 hu1 hu2 hi' hzv (by omega) hnb hy1 hfit hst⟩,
        ys',zv,hy2',hzs,fun base sLen sCap old hg hrm hold=>append_grow0 hu1 hu2 hi' hzv hg hrm hb hy1' hold⟩
     · simp at h
   · simp at h
 · rename_i hd;have hz:zerosOf d2=false:=by cases d2<;>first|rfl|exact absurd rfl (hd _)
   obtain ⟨hl,hlen,_,hall⟩:=elems_ok (P:=P) hw hx h;obtain ⟨_,hlen',_,hall'⟩:=elems_ok (P:=P) hw.drew hx h;obtain ⟨ys,hy1,hy2⟩:=hall n (Nat.le_refl _);obtain ⟨ys',hy1',hy2'⟩:=hall' n (Nat.le_refl _);rw [List.take_of_length_le (by rw [hl];exact Nat.le_refl _)] at hy2 hy2';exact ⟨hl,⟨ys,hy2,fun base sLen sCap w' hfit hst=>append_fit hu1 hu2 hi' hz hlen hy1 hfit hst⟩,
    ys',zv,hy2',hzs,fun base sLen sCap old hg hr hold=>append_grow hu1 hu2 hi' hzv hz hlen hg hr hb hold hy1'⟩
theorem grow_new (hw:WR κ H w) {k sLen n cap el:Nat} {oldc new:List Val} {old ys zs:Array Value} (ho:CR κ oldc old) (hy:CR κ new ys) (hol:oldc.length=sLen*k) (hnl:new.length=n*k) (hk:0<k)
  (hcap:sLen+n≤cap) (hzs:zs.size=(cap-(sLen+n))*k) (g0:Nat) (hty: ∀t,tyN g0=t+1→el=t):
  ∃ κ',WR κ' (H.push (.cells g0 g0 0 (oldc++new))) (w.drew.alloc (.cells (old++ys++zs) el))∧Fr κ.own κ κ' w (w.drew.alloc (.cells (old++ys++zs) el))∧
    VK κ' (.ref H.n g0 0 k (sLen+n) false) (.slice (some ⟨w.drew.heap.size,0,none⟩) (sLen+n) cap):=by
 have hcr:=ho.append hy;have hsz:(old++ys++zs).size=cap*k:=by rw [Array.size_append,Array.size_append,←ho.1,←hy.1,hol,hnl,hzs,←Nat.add_mul,←Nat.add_mul];congr 1;omega
 have hl:(oldc++new).length=(sLen+n)*k:=by rw [List.length_append,hol,hnl,Nat.add_mul]
 have hle:(sLen+n)*k≤cap*k:=Nat.mul_le_mul_right k hcap;obtain ⟨h1,h2,h3⟩:=new_cells_g (w:=w.drew) hw.drew (oldc++new) (old++ys++zs) el (by rw [hl,hsz];exact hle) (g0:=g0) (hty:=hty) (fun i v x hv hx=>by refine hcr.2 i v x hv ?_;have hi:i<(oldc++new).length:=(List.getElem?_eq_some_iff.1 hv).1;rw [Array.getElem?_append,if_pos (by rw [←hcr.1];exact hi)] at hx;exact hx);refine ⟨_,h1,(Fr.heap_eq (w:=w) (w':=w.drew) rfl rfl rfl rfl).trans h2 (fun b hb=> .inl hb),?_⟩;exact .ref _ _ _ _ _ _ _ _ _ _ h3 (by rw [hl];omega) hk (fun h=>by cases h) (fun _=>by simp only;rw [hsz];omega) hcap (Nat.zero_le _)
theorem grow_in (hw:WR κ H w) {id g dirty ro b off k len n cap:Nat} {C:Cap} {cs new:List Val} {ys:Array Value} (hob:H.get id=some (.cells g dirty ro cs)) (hμ:κ.μ id g=some (b,C,cs.length)) (hs:C.s≤off) (hlen:off+len*k=cs.length) (hk:0<k)
  (hy:CR κ new ys) (hone: ∀(i:Nat) (y:Value),ys[i]? =some y→y.oneCell'=true) (hnl:new.length=n*k) (hcap:len+n≤cap) (hC:off+cap*k=C.c) (hro:ro≤cs.length) (hty:tyN (g+1)=tyN g):
  ∃ κ',(storeCells (⟨b,off-C.s,none⟩:Addr) #[].toList).run P w= .ok () w∧(storeCells ((⟨b,off-C.s,none⟩:Addr).add (len*k)) ys.toList).run P w= .ok () (w.setCells b (off-C.s+len*k) ys.toList)∧
    WR κ' (H.set id (.cells (g+1) dirty ro (cs++new))) (w.setCells b (off-C.s+len*k) ys.toList)∧Fr κ.own κ κ' w (w.setCells b (off-C.s+len*k) ys.toList)∧
    VK κ' (.ref id (g+1) off k (len+n) false) (.slice (some ⟨b,off-C.s,none⟩) (len+n) cap):=by
 obtain ⟨b0,C0,hcr⟩:=hw.obj _ _ hob;have e:=hcr.at_;rw [hμ] at e;simp only [Option.some.injEq,Prod.mk.injEq] at e;obtain ⟨rfl,rfl,_⟩:=e;have hlt:off+(len+n)*k≤C.c:=by rw [←hC];exact Nat.add_le_add_left (Nat.mul_le_mul_right k hcap) _
 rw [Nat.add_mul] at hlt;have hsz:ys.size=n*k:=by rw [←hy.1,hnl]
 have hle:off-C.s+len*k+C.s+ys.size≤C.c:=by omega
 have hself:(κ.addU id (g+1) (b,C,(cs++new).length)).μ id (g+1)=some (b,C,(cs++new).length):=by simp [Kr.addU]
 have hμ': ∀i h y,κ.μ i h=some y→(κ.addU id (g+1) (b,C,(cs++new).length)).μ i h=some y:=by
  intro i h y hm;simp only [Kr.addU];rw [if_neg]
  · exact hm
  · rintro ⟨rfl,rfl⟩;rw [hcr.last (g+1) (by omega)] at hm;simp at hm
 have hcase: ∀i h y,(κ.addU id (g+1) (b,C,(cs++new).length)).μ i h=some y→(i=id∧h=g+1∧y=(b,C,(cs++new).length))∨κ.μ i h=some y:=by
  intro i h y hm;simp only [Kr.addU] at hm;split at hm
  · rename_i hc;simp at hm;exact .inl ⟨hc.1,hc.2,by simp [←hm]⟩
  · exact .inr hm
 obtain ⟨c,e,lo,hi',hb1,hb2,hb3⟩:=hcr.free;obtain ⟨c',hc1,hc2,hc3⟩:=setCells_block b ys.toList (off-C.s+len*k) w c e (lo,hi') hb1;obtain ⟨q1,q2⟩:=hcr.cont g b C cs.length hcr.dle hμ;have hcell: ∀(i:Nat) (v:Val),C.s≤i→i<(cs++new).length→(cs++new)[i]? =some v→ ∃x,cellAt (w.setCells b (off-C.s+len*k) ys.toList) b (i-C.s)=some x∧VK κ v x:=by
  intro i v hsi hi hv;rw [List.getElem?_append] at hv;unfold cellAt;rw [hc1];simp only;rw [hc3];simp only [Array.length_toList];split at hv
  · rename_i hr;rw [if_neg (by rintro ⟨h1,_⟩;omega)];obtain ⟨y,hy1,hy2⟩:=q2 i v hsi hr hv;unfold cellAt at hy1;rw [hb1] at hy1;exact ⟨y,hy1,hy2⟩
  · rename_i hr;have hi2:i-cs.length<ys.size:=by rw [←hy.1];exact (List.getElem?_eq_some_iff.1 hv).1
    rw [if_pos ⟨by omega,by omega,by omega⟩];refine ⟨ys[i-cs.length],?_,hy.2 _ _ _ hv (by simp [hi2])⟩;rw [show i-C.s-(off-C.s+len*k)=i-cs.length by omega];simp [hi2]
 obtain ⟨w1,f1⟩:=store_obj (dirty':=dirty) (g':=g+1) (cs':=cs++new) hw hob hcr (o:=off-C.s+len*k) (xs:=ys) (by omega) hle (κ.addU id (g+1) (b,C,(cs++new).length)) rfl rfl hμ'
  (fun i hi h=>by simp only [Kr.addU];rw [if_neg (by rintro ⟨e,_⟩;exact hi e)])
  (fun h y hm=>(hcase _ _ _ hm).elim (fun q=> .inr ⟨_,q.2.2⟩) .inl)
  hself (by rw [List.length_append,hnl];omega) (Nat.le_succ_of_le hcr.dle) hty
  (fun h hh=>by simp only [Kr.addU];rw [if_neg (by rintro ⟨_,e⟩;omega)];exact hcr.last _ (by omega))
  (fun i v hi hv=>hcr.gh i v hi (by rw [List.getElem?_append,if_pos (by omega)] at hv;exact hv))
  (fun h b' C' L' hd hm=>by
   rcases hcase _ _ _ hm with ⟨_,_,e⟩|hm'
   · simp only [Prod.mk.injEq] at e;obtain ⟨rfl,rfl,rfl⟩:=e;exact ⟨Nat.le_refl _,hcell⟩
   · obtain ⟨p1,p2⟩:=hcr.cont h b' C' L' hd hm';refine ⟨by rw [List.length_append];omega,fun i v hsi hi hv=> ?_⟩;by_cases eb:b'=b
     · subst eb;have es:=(hw.sep _ _ _ _ _ _ _ _ _ hm' hμ).2;rw [es];exact hcell i v (by omega) (by rw [List.length_append];omega) hv
     · rw [List.getElem?_append,if_pos (by omega)] at hv;obtain ⟨x,x1,x2⟩:=p2 i v hsi hi hv;exact ⟨x,by rw [cellAt_setCells_other eb];exact x1,x2⟩)
 refine ⟨_,rfl,?_,w1,f1,?_⟩
 · rw [add_none];exact run_storeCells_free hcr.free.lo ys (by omega) hone
 · exact .ref _ _ _ _ _ _ _ _ _ _ hself (by rw [List.length_append,hnl,←hlen,Nat.add_mul];omega) hk (fun h=>by cases h) (fun _=>by omega) hcap hs
end
section
variable {E:Env} {P:Program} (hE:EnvOK E P) {κ:Kr} {w:World} {β:Nat→Option Nat} {tm:List Val} {H:Hp}
theorem grow_out (hw:WR κ H w) {id g dirty ro b off k len n cap el:Nat} {C:Cap} {cs new:List Val} {old ys zs:Array Value} (hob:H.get id=some (.cells g dirty ro cs)) (hμ:κ.μ id g=some (b,C,cs.length)) (hlen:off+len*k=cs.length) (hk:0<k)
  (ho:CR κ (cs.drop off) old) (hy:CR κ new ys) (hnl:new.length=n*k) (hcap:len+n≤cap) (hzs:zs.size=(cap-(len+n))*k) (hty:tyOK g el=true):
  ∃ κ',WR κ' (H.set id (.cells (g+1) dirty ro (cs++new))) (w.drew.alloc (.cells (old++ys++zs) el))∧Fr κ.own κ κ' w (w.drew.alloc (.cells (old++ys++zs) el))∧
    VK κ' (.ref id (g+1) off k (len+n) false) (.slice (some ⟨w.drew.heap.size,0,none⟩) (len+n) cap):=by
 obtain ⟨b0,C0,hcr⟩:=hw.obj _ _ hob;have e:=hcr.at_;rw [hμ] at e;simp only [Option.some.injEq,Prod.mk.injEq] at e;obtain ⟨rfl,rfl,_⟩:=e;have hid:=Hp.get_lt hob;have hww:WR κ H w.drew:=hw.drew;have hsz:(old++ys++zs).size=cap*k:=by rw [Array.size_append,Array.size_append,←ho.1,←hy.1,List.length_drop,←hlen,Nat.add_sub_cancel_left,hnl,hzs,←Nat.add_mul,←Nat.add_mul];congr 1;omega
 have hl:(cs++new).length=off+(len+n)*k:=by rw [List.length_append,hnl,←hlen,Nat.add_mul,Nat.add_assoc]
 have hle:(len+n)*k≤cap*k:=Nat.mul_le_mul_right k hcap;have hcat:=ho.append hy;generalize hB:old++ys++zs=B at hsz;have hBc: ∀(i:Nat) (v:Val),off≤i→(cs++new)[i]? =some v→ ∃x,B[i-off]? =some x∧VK κ v x:=by
  intro i v ho' hv;have hi:i<(cs++new).length:=(List.getElem?_eq_some_iff.1 hv).1;have hd:(cs.drop off++new)=(cs++new).drop off:=by rw [List.drop_append,show off-cs.length=0 by omega,List.drop_zero]
  have hi2:i-off<(old++ys).size:=by rw [←hcat.1,hd,List.length_drop];omega
  have hv':(cs.drop off++new)[i-off]? =some v:=by rw [hd,List.getElem?_drop,show off+(i-off)=i by omega];exact hv
  refine ⟨(old++ys)[i-off],?_,hcat.2 _ _ _ hv' (by simp [hi2])⟩;rw [←hB,Array.getElem?_append,if_pos hi2];simp [hi2]
 have hself:(κ.addU id (g+1) (w.heap.size,⟨B.size+off,off⟩,(cs++new).length)).μ id (g+1)=some (w.heap.size,⟨B.size+off,off⟩,(cs++new).length):=by simp [Kr.addU]
 have hμ': ∀i h y,κ.μ i h=some y→(κ.addU id (g+1) (w.heap.size,⟨B.size+off,off⟩,(cs++new).length)).μ i h=some y:=by
  intro i h y hm;simp only [Kr.addU];rw [if_neg]
  · exact hm
  · rintro ⟨rfl,rfl⟩;rw [hcr.last (g+1) (by omega)] at hm;simp at hm
 have hcase: ∀i h y,(κ.addU id (g+1) (w.heap.size,⟨B.size+off,off⟩,(cs++new).length)).μ i h=some y→(i=id∧h=g+1∧y=(w.heap.size,⟨B.size+off,off⟩,(cs++new).length))∨κ.μ i h=some y:=by
  intro i h y hm;simp only [Kr.addU] at hm;split at hm
  · rename_i hc;simp at hm;exact .inl ⟨hc.1,hc.2,by simp [←hm]⟩
  · exact .inr hm
 have mono: ∀v x,VK κ v x→VK (κ.addU id (g+1) (w.heap.size,⟨B.size+off,off⟩,(cs++new).length)) v x:=fun v x h=>VR.mono h (fun _ _ _ h=>h) (fun _ _ h=>h) hμ';have hlt: ∀i h b C L,κ.μ i h=some (b,C,L)→b<w.heap.size:=fun i h b C L hm=>hw.blk _ _ _ _ _ hm;have hws:w.drew.heap.size=w.heap.size:=rfl;refine ⟨κ.addU id (g+1) (w.heap.size,⟨B.size+off,off⟩,(cs++new).length),⟨fun b o v h=>cellAt_alloc (hww.frz _ _ _ h),fun b o h=>alloc_old (hww.mps _ _ h),hw.mmap,Hp.set_len _ _ _ hw.len,fun j ob hj=> ?_,fun i h y hm=> ?_,fun i h b' C' L' hm=> ?_,?_⟩,?_,?_⟩
 · rw [Hp.get_set _ hw.len _ _ hid] at hj;split at hj
   · rename_i ej;subst ej;simp only [Option.some.injEq] at hj;subst hj;refine ⟨w.heap.size,⟨B.size+off,off⟩,hself,by simp only;rw [hl,hsz];omega,Nat.le_add_left _ _,⟨B,el,0,0,by rw [alloc_heap,hws,if_pos rfl],by simp only;omega,fun o _=>by omega⟩,?_,?_,fun o _ _ _=>Kr.none_new hw _,?_,Nat.le_succ_of_le hcr.dle,fun t ht=>⟨B,(0,0),by
      have:t=el:=by simp only [tyOK,Bool.and_eq_true,Bool.or_eq_true,Nat.beq_eq] at hty;omega
      rw [this,alloc_heap,hws,if_pos rfl]⟩⟩
     · intro i v hi hv;have hi:i<off:=hi;rw [List.getElem?_append,if_pos (by omega)] at hv;by_cases hs:i<C.s
       · obtain ⟨x,hx⟩:=hcr.gh i v hs hv;exact ⟨x,mono _ _ hx⟩
       · obtain ⟨x,_,hx⟩:=(hcr.cont g b C cs.length hcr.dle hμ).2 i v (by omega) (by omega) hv;exact ⟨x,mono _ _ hx⟩
     · intro h b' C' L' hd hm;rcases hcase _ _ _ hm with ⟨_,_,e⟩|hm'
       · simp only [Prod.mk.injEq] at e;obtain ⟨rfl,rfl,rfl⟩:=e;refine ⟨Nat.le_refl _,fun i v hsi hi hv=> ?_⟩;obtain ⟨x,x1,x2⟩:=hBc i v hsi hv;exact ⟨x,by rw [←hws,cellAt_new];exact x1,mono _ _ x2⟩
       · obtain ⟨p1,p2⟩:=hcr.cont h b' C' L' hd hm';refine ⟨by rw [List.length_append];omega,fun i v hsi hi hv=> ?_⟩;rw [List.getElem?_append,if_pos (by omega)] at hv;obtain ⟨x,x1,x2⟩:=p2 i v hsi hi hv;exact ⟨x,cellAt_alloc x1,mono _ _ x2⟩
     · intro h hh;simp only [Kr.addU];rw [if_neg (by rintro ⟨_,e⟩;omega)];exact hcr.last _ (by omega)
   · rename_i hne;refine (hww.obj _ _ hj).carry (fun _ _ _ h=>h) (fun _ _ h=>h) hμ' (fun h=> ?_) (fun h b' C' L' hm=> ?_) (fun _ _ _ _ _ _ h=>h) (fun _ _ _ _ _ h=>h)
     · simp only [Kr.addU];rw [if_neg (by rintro ⟨e,_⟩;exact hne e)]
     · rw [alloc_heap,if_neg];have:=hlt _ _ _ _ _ hm;omega
 · rw [Hp.set_n];rcases hcase _ _ _ hm with ⟨rfl,_,_⟩|h'
   · exact hid
   · exact hw.dom _ _ _ h'
 · rcases hcase _ _ _ hm with ⟨_,_,e⟩|h'
   · simp at e;simp [hws];omega
   · have:=hlt _ _ _ _ _ h';simp [hws];omega
 · intro i h b1 C1 L1 i' h' C2 L2 h1 h2;rcases hcase _ _ _ h1 with ⟨e1,_,y1⟩|h1'
   · rcases hcase _ _ _ h2 with ⟨e2,_,y2⟩|h2'
     · simp only [Prod.mk.injEq] at y1 y2;rw [y1.2.1,y2.2.1];exact ⟨by rw [e1,e2],rfl⟩
     · simp at y1;have:=hlt _ _ _ _ _ h2';omega
   · rcases hcase _ _ _ h2 with ⟨e2,_,y2⟩|h2'
     · simp at y2;have:=hlt _ _ _ _ _ h1';omega
     · exact hw.sep _ _ _ _ _ _ _ _ _ h1' h2'
 · refine ⟨by simp [hws],fun b hb _=>by rw [alloc_heap,hws,if_neg (by omega)];rfl,fun _ _ _ h=>h,fun _ _ _ h=> .inl h,fun _ _ h=>h,fun _ _ h=> .inl h,?_,hμ',rfl,rfl,rfl⟩;rintro b' ⟨i,h,C',L',hm⟩;rcases hcase _ _ _ hm with ⟨_,_,e⟩|h'
   · simp at e;exact .inr (by omega)
   · exact .inl ⟨_,_,_,_,h'⟩
 · have:=VR.ref (F:=(κ.addU id (g+1) (w.heap.size,⟨B.size+off,off⟩,(cs++new).length)).F) (M:=κ.M) id (g+1) off k (len+n) false w.heap.size ⟨B.size+off,off⟩ _ cap hself (by rw [hl];omega) hk (fun h=>by cases h) (fun _=>by simp only;rw [hsz];omega) hcap (Nat.le_refl _);rw [show off-(⟨B.size+off,off⟩:Cap).s=0 by simp] at this;exact this
theorem tyN_genOf (el:Nat):tyN (genOf el)=el+1:=Nat.mul_div_cancel _ (by decide)
include hE in
theorem appendP_ok {t1 t2 ty:Nat} {s x v:Val} {y z:Value} {H':Hp} (hw:WR κ H w) (hs:OV κ β tm s y) (hx:OV κ β tm x z) (h:appendP E t1 t2 s x H=some (v,H')):
  ∃κ' w' r,(Builtin.append_ #[t1,t2] ty #[y,z]).run P w= .ok r w'∧WR κ' H' w'∧Fr κ.own κ κ' w w'∧VK κ' v r:=by
 unfold appendP at h;split at h
 case h_2=>simp at h
 rename_i el d2 hd1 hd2;have hu1:=und_ok hE hd1;have hu2:=und_ok hE hd2;split at h
 case h_2=>simp at h
 rename_i i hi;split at h
 case isFalse=>simp at h
 rename_i hc;obtain ⟨hk,hb⟩:=hc;split at h
 case h_3=>simp at h
 ·
  rename_i new hnew;obtain ⟨hnl,⟨ys,hy,hfit⟩,_⟩:=newElems_ok hE (ty:=ty) hw hx hu1 hu2 hi hb hnew;have hys:ys= #[]:=by
   have:ys.size=0:=by rw [←hy.1,hnl];omega
   exact Array.eq_empty_of_size_eq_zero this
  subst hys;have fin: ∀base sLen sCap,y= .slice base sLen sCap→sLen≤sCap→VK κ s y→v=s∧H'=H→ ∃κ' w' r,(Builtin.append_ #[t1,t2] ty #[y,z]).run P w= .ok r w'∧WR κ' H' w'∧Fr κ.own κ κ' w w'∧VK κ' v r:=by rintro base sLen sCap rfl hle hv ⟨rfl,rfl⟩;refine ⟨κ,w,_,hfit base sLen sCap w (by omega) ?_,hw,Fr.refl fun _ h=>h,hv⟩;cases base<;>rfl
  split at h
  · simp only [Option.some.injEq,Prod.mk.injEq] at h;simp only [OV] at hs;have hs':=hs
    cases hs with
    |nilsl=>exact fin _ _ _ rfl (Nat.le_refl _) hs' ⟨h.1.symm,h.2.symm⟩
  · simp only [Option.some.injEq,Prod.mk.injEq] at h;simp only [OV] at hs;have hs':=hs
    cases hs with
    |sl _ _ a cap k b o X h1=>exact fin _ _ _ rfl h1 hs' ⟨h.1.symm,h.2.symm⟩
  · simp only [Option.some.injEq,Prod.mk.injEq] at h;simp only [OV] at hs;have hs':=hs
    cases hs with
    |ref _ _ _ _ _ _ b C L cap h1 h2 h3 h4 h5 h6 hs=>exact fin _ _ _ rfl h6 hs' ⟨h.1.symm,h.2.symm⟩
  · simp at h
 · rename_i new n hn0 hnew;obtain ⟨hnl,⟨ys0,hy0,hfit⟩,ys,zv,hy,hzs,hgrow⟩:=newElems_ok hE (ty:=ty) hw hx hu1 hu2 hi hb hnew;have hn:n≠0:=by rintro rfl;exact hn0 rfl
   split at h
   case isFalse=>simp at h
   rename_i hok;have newb: ∀(oldc:List Val) base sLen sCap,y= .slice base sLen sCap→ ¬sLen+n≤sCap→(sLen+n)*(i.bytes+1)≤roomN→oldc.length=sLen*i.size→
     (∃old,(Builtin.firstCells i.size sLen (.slice base sLen sCap)).run P w.drew= .ok old w.drew∧CR κ oldc old)→ ∀g0,(∀t,tyN g0=t+1→el=t)→v= .ref H.n g0 0 i.size (sLen+n) false→H'=H.push (.cells g0 g0 0 (oldc++new))→
     ∃κ' w' r,(Builtin.append_ #[t1,t2] ty #[y,z]).run P w= .ok r w'∧WR κ' H' w'∧Fr κ.own κ κ' w w'∧VK κ' v r:=by
    rintro oldc base sLen sCap rfl hng hroom hol ⟨old,ho1,ho2⟩ g0 hty rfl rfl;obtain ⟨κ',g1,g2,g3⟩:=grow_new (el:=el) hw ho2 hy hol hnl hk (capOf_le w (sLen+n) sCap el) (zs:=Builtin.zeroCells zv.cells (capOf w (sLen+n) sCap el-(sLen+n))) (by rw [zeroCells_size,hzs]) g0 hty;exact ⟨κ',_,_,hgrow base sLen sCap old hng hroom ho1,g1,g2,g3⟩
   split at h
   ·
    split at h
    case isFalse=>simp at h
    rename_i hroom;simp only [fL_eq,fV_eq,fH_eq,fN_eq,Option.some.injEq,Prod.mk.injEq] at h;obtain ⟨rfl,rfl⟩:=h;simp only [OV] at hs
    cases hs with
    |nilsl=>exact newb [] none 0 0 rfl (by omega) (by rw [Nat.zero_add];exact hroom) (by simp) ⟨#[],rfl,by simp [CR]⟩ (genOf el) (fun t ht=>by rw [tyN_genOf] at ht;exact Nat.succ.inj ht) (by rw [Nat.zero_add]) (by simp)
   ·
    rename_i rows;split at h
    case isFalse=>simp at h
    rename_i hc;obtain ⟨hroom,hall⟩:=hc;simp only [fL_eq,fV_eq,fH_eq,Option.some.injEq,Prod.mk.injEq] at h;obtain ⟨rfl,rfl⟩:=h;obtain ⟨e1,_,_,e4⟩:=elems_ok (P:=P) (k:=i.size) (cs:=rows.flatten) (n:=rows.length) hw.drew hs (by simp only [elemsOf];rw [if_pos hall]);simp only [OV] at hs
    cases hs with
    | sl _ _ a cap k b o X h1 h2=>
      have hcap:=h2 rfl;obtain ⟨old,o1,o2⟩:=e4 rows.length (Nat.le_refl _);rw [List.take_of_length_le (by rw [e1];exact Nat.le_refl _)] at o2;exact newb rows.flatten a rows.length cap rfl (by omega) hroom e1 ⟨old,o1,o2⟩ 0 (fun t ht=>by simp [tyN] at ht) rfl rfl
   ·
    rename_i id gen off k len clip;split at h
    case h_2=>simp at h
    rename_i g dirty ro cs hob;split at h
    case isFalse=>simp at h
    rename_i hc;obtain ⟨rfl,hroom,hd⟩:=hc;split at h
    ·
     rename_i hclip;subst hclip;split at h
     case h_2=>simp at h
     rename_i old hsub;simp only [fL_eq,fV_eq,fH_eq,Option.some.injEq,Prod.mk.injEq] at h;obtain ⟨rfl,rfl⟩:=h;obtain ⟨e1,_,_,e4⟩:=elems_ok (P:=P) (k:=i.size) (cs:=old) (n:=len) hw.drew hs (by simp only [elemsOf];rw [hob];simp only [hd,true_and,if_true,hsub]);simp only [OV] at hs
     cases hs with
     | ref _ _ _ _ _ _ b C L cap h1 h2 h3 h4 h5 h6 hsh=>
       have hcap:=h4 rfl;obtain ⟨oldv,o1,o2⟩:=e4 len (Nat.le_refl _);rw [List.take_of_length_le (by rw [e1];exact Nat.le_refl _)] at o2;exact newb old _ len cap rfl (by omega) hroom e1 ⟨oldv,o1,o2⟩ 0 (fun t ht=>by simp [tyN] at ht) rfl rfl
    · rename_i hclip;have hclip:clip=false:=by simpa using hclip
      subst hclip;split at h
      ·
       rename_i hc;obtain ⟨rfl,hlen,hro,hty⟩:=hc;simp only [fL_eq,fV_eq,fN_eq,fH_eq,Option.some.injEq,Prod.mk.injEq] at h;obtain ⟨rfl,rfl⟩:=h;have hs':=hs;simp only [OV] at hs
       cases hs with
       | ref _ _ _ _ _ _ b C L cap h1 h2 h3 h4 h5 h6 hsh=>
         have hC:=h5 rfl;obtain ⟨b0,C0,hcr⟩:=hw.obj _ _ hob;have e:=hcr.at_;rw [h1] at e;simp only [Option.some.injEq,Prod.mk.injEq] at e;obtain ⟨rfl,rfl,rfl⟩:=e;by_cases hf:len+n≤cap
         · obtain ⟨κ',_,g0,g1,g2,g3⟩:=grow_in (P:=P) hw hob h1 hsh hlen hk hy0 (hy0.one hok) hnl hf (by omega) hro (by simp only [tyOK,Bool.and_eq_true,Nat.beq_eq] at hty;exact hty.1);exact ⟨κ',_,_,hfit _ len cap _ hf g0,g1,g2,g3⟩
         · obtain ⟨e1,_,_,e4⟩:=elems_ok (P:=P) (k:=i.size) (cs:=cs.drop off) (n:=len) hw.drew hs' (by
            simp only [elemsOf];rw [hob];simp only [hd,true_and,if_true];have:sub cs off (len*i.size)=some (cs.drop off):=by unfold sub;rw [if_pos (by omega),List.take_of_length_le (by rw [List.length_drop];omega)]
            rw [this])
           obtain ⟨oldv,o1,o2⟩:=e4 len (Nat.le_refl _);rw [List.take_of_length_le (by rw [e1];exact Nat.le_refl _)] at o2;obtain ⟨κ',g1,g2,g3⟩:=grow_out (el:=el) hw hob h1 hlen hk o2 hy hnl (capOf_le w (len+n) cap el) (zs:=Builtin.zeroCells zv.cells (capOf w (len+n) cap el-(len+n))) (by rw [zeroCells_size,hzs]) hty;exact ⟨κ',_,_,hgrow _ len cap oldv hf hroom o1,g1,g2,g3⟩
      · split at h
        case isFalse=>simp at h
        rename_i hc;obtain ⟨rfl,hro,hle⟩:=hc;split at h
        case h_2=>simp at h
        rename_i cs' hu;simp only [fL_eq,fV_eq,fH_eq,Option.some.injEq,Prod.mk.injEq] at h;obtain ⟨rfl,rfl⟩:=h;simp only [OV] at hs
        cases hs with
        | ref _ _ _ _ _ _ b C L cap h1 h2 h3 h4 h5 h6 hsh=>
          have hC:=h5 rfl;obtain ⟨b0,C0,hcr⟩:=hw.obj _ _ hob;have e:=hcr.at_;rw [h1] at e;simp only [Option.some.injEq,Prod.mk.injEq] at e;obtain ⟨rfl,rfl,rfl⟩:=e;have hroom:=hcr.room;have hf:len+n≤cap:=by
           have:(len+n)*i.size≤cap*i.size:=by omega
           exact Nat.le_of_mul_le_mul_right this hk
          have hst:storeH id gen (off+len*i.size) cs.length (n*i.size) new tm H= .ok (.tup []) tm (H.set id (.cells gen gen ro cs')):=by
           unfold storeH;rw [hob];have:off+len*i.size+n*i.size≤cs.length:=by rw [Nat.add_mul] at hle;omega
           simp only [hro,this,and_self,if_true,hu,fL_eq,fH_eq]
          obtain ⟨_,_,b',o',hb',g0,g1,g2⟩:=storeH_ok (P:=P) (loc:=fun _=>false) (β:=β) hw (VR.ptr id gen (off+len*i.size) cs.length b C cs.length h1 (Nat.le_refl _) (by omega)) hy0 (hy0.one hok) hnl hst;simp only [Value.pointer.injEq,Option.some.injEq,Addr.mk.injEq] at hb';obtain ⟨rfl,rfl,_⟩:=hb';exact ⟨κ,_,_,hfit _ len cap _ hf (by simp only [add_none];rw [show off-C.s+len*i.size=off+len*i.size-C.s by omega];exact g0),g1,g2,.ref _ _ _ _ _ _ _ _ _ _ h1 (by omega) hk (fun h=>by cases h) (fun _=>hC) hf hsh⟩
   · simp at h
end
section
variable {E:Env} {P:Program} (hE:EnvOK E P) {κ:Kr} {w:World} {β:Nat→Option Nat} {tm:List Val} {H:Hp}
def putB (w:World) (b:Nat) (o:Go.Obj):World:= {w with heap:=w.heap.setIfInBounds b o}
theorem putB_get (w:World) (b b':Nat) (o:Go.Obj) (h:b<w.heap.size):(putB w b o).heap[b']? =if b'=b then some o else w.heap[b']? :=by
 simp only [putB,Array.getElem?_setIfInBounds];by_cases e:b'=b
 · subst e;simp [h]
 · rw [if_neg (fun h=>e h.symm),if_neg e]
theorem set_obj (hw:WR κ H w) {id b:Nat} {o o':Obj} {ob ob':Go.Obj} (ho:H.get id=some o) (hμ:κ.μ id 0=some (b,0,0)) (hb:w.heap[b]? =some ob) (hnc: ∀c e f,ob≠ .cells c e f) (hM:κ.M b=none)
  (hob:ObjR κ id (putB w b ob') o'):WR κ (H.set id o') (putB w b ob')∧Fr κ.own κ κ w (putB w b ob'):=by
 have hid:=Hp.get_lt ho;have hlt:b<w.heap.size:=(Array.getElem?_eq_some_iff.1 hb).1;have hget:=fun b'=>putB_get w b b' ob' hlt;have hF: ∀b' o v,κ.F b' o=some v→b'≠b:=by rintro b' o v h rfl;have:=hw.frz _ _ _ h;unfold cellAt at this;rw [hb] at this;cases ob<;>first|exact hnc _ _ _ rfl|simp at this
 have hsz:(putB w b ob').heap.size=w.heap.size:=by simp [putB]
 refine ⟨⟨fun b' o v h=> ?_,fun b' o h=> ?_,hw.mmap,Hp.set_len _ _ _ hw.len,fun j o h=> ?_,fun i g y h=>by rw [Hp.set_n];exact hw.dom _ _ _ h,fun i g b' C L h=>by rw [hsz];exact hw.blk _ _ _ _ _ h,hw.sep⟩,?_⟩
 · unfold cellAt;rw [hget,if_neg (hF _ _ _ h)];exact hw.frz _ _ _ h
 · rw [hget,if_neg (by rintro rfl;rw [hM] at h;simp at h)];exact hw.mps _ _ h
 · rw [Hp.get_set _ hw.len _ _ hid] at h;split at h
   · rename_i e;subst e;simp only [Option.some.injEq] at h;subst h;exact hob
   · rename_i hne;refine (hw.obj _ _ h).carry (fun _ _ _ h=>h) (fun _ _ h=>h) (fun _ _ _ h=>h) (fun _=>rfl) (fun g b' C L hm=> ?_) (fun _ _ _ _ _ _ h=>h) (fun _ _ _ _ _ h=>h);rw [hget,if_neg];rintro rfl;exact hne (hw.sep _ _ _ _ _ _ _ _ _ hm hμ).1
 · refine ⟨by rw [hsz];exact Nat.le_refl _,fun b' _ hn=> ?_,fun _ _ _ h=>h,fun _ _ _ h=> .inl h,fun _ _ h=>h,fun _ _ h=> .inl h,fun _ h=> .inl h,fun _ _ _ h=>h,rfl,rfl,rfl⟩;rw [hget,if_neg];rintro rfl;exact hn ⟨_,_,_,_,hμ⟩
theorem run_getObj' {b:Nat} {o:Go.Obj} (h:w.heap[b]? =some o) (hnc: ∀c e f,o≠ .cells c e f):(getObj b).run P w= .ok o w:=by simp only [getObj,Sem.run,h]
theorem run_setObj' {b:Nat} {o:Go.Obj} (o':Go.Obj) (h:w.heap[b]? =some o) (hnc: ∀c e f,o≠ .cells c e f):(setObj b o').run P w= .ok () (putB w b o'):=by simp only [setObj,Sem.run,h,putB]
include hE in
theorem copyP_ok {t1:Nat} {ats:Array Nat} {ty:Nat} (hat:ats[0]? =some t1) {s x v:Val} {y z:Value} {H':Hp} (hw:WR κ H w) (hs:OV κ β tm s y) (hx:OV κ β tm x z) (h:copyP E t1 s x H=some (v,H')):
  ∃w' r,(Builtin.copy_ ats ty #[y,z]).run P w= .ok r w'∧WR κ H' w'∧Fr κ.own κ κ w w'∧VK κ v r:=by
 unfold copyP at h;split at h
 case h_2=>simp at h
 rename_i el hd;have hu:=und_ok hE hd;split at h
 case h_2=>simp at h
 rename_i k hk;obtain ⟨i,hi,rfl⟩:=size_ok hE hk;split at h
 case h_2=>simp at h
 rename_i dl c sn hdl hel;obtain ⟨e1,e2,_,e4⟩:=elems_ok (P:=P) hw hx hel;have hmin:(if Nat.ble sn dl then sn else dl)=Nat.min sn dl:=by
  cases hb:Nat.ble sn dl with
  |true=>have:=Nat.le_of_ble_eq_true hb;simp [Nat.min_def,this]
  | false=>
    have: ¬sn≤dl:=fun hle=>by rw [Nat.ble_eq_true_of_le hle] at hb;cases hb
    simp [Nat.min_def,this]
 simp only [hmin] at h;obtain ⟨ys,hy1,hy2⟩:=e4 (Nat.min sn dl) (Nat.min_le_left _ _);have run: ∀base cap w',y= .slice base dl cap→(match base with|some a=>storeCells a ys.toList|none=>pure ():Sem Unit).run P w= .ok () w'→
   (Builtin.copy_ ats ty #[y,z]).run P w= .ok (goInt (Nat.min sn dl)) w':=by
  rintro base cap w' rfl hst;unfold Builtin.copy_;rw [hat];refine (bind_ok (run_underlying' hu)).trans ?_;refine (bind_ok e2).trans ?_;refine (bind_ok (run_size' hi)).trans ?_;refine (bind_ok hy1).trans ?_
  cases base with
  | none=>
    simp only [Sem.run_pure,Result.ok.injEq,true_and] at hst;subst hst;rfl
  |some a=>exact (bind_ok hst).trans (Sem.run_pure _ _ _)
 split at h
 · rename_i hz;simp only [Option.some.injEq,Prod.mk.injEq] at h;obtain ⟨rfl,rfl⟩:=h;have hys:ys= #[]:=by apply Array.eq_empty_of_size_eq_zero;rw [←hy2.1,hz];simp
   subst hys;have fin: ∀base cap,y= .slice base dl cap→ ∃w' r,(Builtin.copy_ ats ty #[y,z]).run P w= .ok r w'∧WR κ H w'∧Fr κ.own κ κ w w'∧VK κ (.int .i64 0) r:=by intro base cap hy;refine ⟨w,_,run base cap w hy (by cases base<;>rfl),hw,Fr.refl fun _ h=>h,?_⟩;rw [hz];exact .int _ _
   cases s<;>simp only [lenOfV,Option.some.injEq,reduceCtorEq] at hdl
   · subst hdl;simp only [OV] at hs;cases hs;exact fin _ _ rfl
   · subst hdl;simp only [OV] at hs;cases hs;exact fin _ _ rfl
   · subst hdl;simp only [OV] at hs;cases hs;exact fin _ _ rfl
 · rename_i hz;split at h
   case h_2=>simp at h
   rename_i id gen off k' len clip;split at h
   case h_2=>simp at h
   rename_i g dirty ro cs hob;split at h
   case isFalse=>simp at h
   rename_i hc;obtain ⟨rfl,rfl,hro,hok⟩:=hc;split at h
   case h_2=>simp at h
   rename_i cs' hu';simp only [fL_eq,fN_eq,fH_eq,Option.some.injEq,Prod.mk.injEq] at h;obtain ⟨rfl,rfl⟩:=h;simp only [lenOfV,Option.some.injEq] at hdl;subst hdl;simp only [OV] at hs
   cases hs with
   | ref _ _ _ _ _ _ b C L cap h1 h2 h3 h4 h5 h6 hsh=>
     obtain ⟨b0,C0,hcr⟩:=hw.obj _ _ hob;have e:=hcr.at_;rw [h1] at e;simp only [Option.some.injEq,Prod.mk.injEq] at e;obtain ⟨rfl,rfl,rfl⟩:=e;obtain ⟨u1,u2,u3⟩:=upd_some hu';have hst:storeH id gen off cs.length (c.take (Nat.min sn len*i.size)).length (c.take (Nat.min sn len*i.size)) tm H= .ok (.tup []) tm (H.set id (.cells gen gen ro cs')):=by unfold storeH;rw [hob];simp only [hro,u1,and_self,if_true,hu',fL_eq,fH_eq]
     have hok':(c.take (Nat.min sn len*i.size)).all okCell=true:=by rw [List.all_eq_true] at hok⊢;exact fun v hv=>hok v (List.mem_of_mem_take hv)
     obtain ⟨_,_,b',o',hb',g0,g1,g2⟩:=storeH_ok (P:=P) (loc:=fun _=>false) (β:=β) hw (VR.ptr id gen off cs.length b C cs.length h1 (Nat.le_refl _) hsh) hy2 (hy2.one hok') rfl hst;simp only [Value.pointer.injEq,Option.some.injEq,Addr.mk.injEq] at hb';obtain ⟨rfl,rfl,_⟩:=hb';exact ⟨_,_,run _ cap _ rfl g0,g1,g2,.int _ _⟩
theorem row_zeros {zc:List Val} {zv:Value} (h:CR κ zc zv.cells) {k:Nat} (hk:zc.length=k) (m:Nat):
  CR κ (List.replicate m zc).flatten ((Array.range (m*k)).map (zv.cells[· %zv.cells.size]!)):=by
 have:=zeroCells_ok h m;unfold Builtin.zeroCells at this;rw [←h.1,hk] at this⊢;exact this
include hE in
theorem clearP_ok {t:Nat} {ats:Array Nat} {ty:Nat} (hat:ats[0]? =some t) {s v:Val} {y:Value} {H':Hp} (hw:WR κ H w) (hs:OV κ β tm s y) (h:clearP E t s H=some (v,H')):
  ∃w' r,(Builtin.clear_ ats ty #[y]).run P w= .ok r w'∧WR κ H' w'∧Fr κ.own κ κ w w'∧VK κ v r:=by
 unfold clearP at h;split at h
 case h_2=>cases h
 rename_i el hd;have hu:=und_ok hE hd;have tup0:VK κ (.tup []) (.tuple #[]):=VR.tup [] #[] rfl (by simp);have none_: ∀base cap,y= .slice base 0 cap→H'=H→v= .tup []→ ∃w' r,(Builtin.clear_ ats ty #[y]).run P w= .ok r w'∧WR κ H' w'∧Fr κ.own κ κ w w'∧VK κ v r:=by rintro base cap rfl rfl rfl;refine ⟨w,.tuple #[],?_,hw,Fr.refl fun _ h=>h,tup0⟩;unfold Builtin.clear_;rw [hat];refine (bind_ok (run_underlying' hu)).trans ?_;cases base<;>rfl
 split at h
 · simp only [Option.some.injEq,Prod.mk.injEq] at h;obtain ⟨rfl,rfl⟩:=h;simp only [OV] at hs;cases hs;exact none_ _ _ rfl rfl rfl
 · simp only [Option.some.injEq,Prod.mk.injEq] at h;obtain ⟨rfl,rfl⟩:=h;simp only [OV] at hs;cases hs;exact none_ _ _ rfl rfl rfl
 · rename_i id gen off k len clip;split at h
   · rename_i hz;have hz:=Nat.eq_of_beq_eq_true hz;subst hz;simp only [Option.some.injEq,Prod.mk.injEq] at h;obtain ⟨rfl,rfl⟩:=h;simp only [OV] at hs;cases hs;exact none_ _ _ rfl rfl rfl
   · rename_i hz;have hz:len≠0:=by intro e;subst e;cases hz
     split at h
     case h_2=>cases h
     rename_i sz z g d ro cs hsz hzt hob;obtain ⟨i,hi,rfl⟩:=size_ok hE hsz;split at h
     case isFalse=>cases h
     rename_i hc;obtain ⟨rfl,rfl,hro,hok,hzl⟩:=hc;split at h
     case h_2=>cases h
     rename_i cs' hu';simp only [fL_eq,fH_eq,Option.some.injEq,Prod.mk.injEq] at h;obtain ⟨rfl,rfl⟩:=h;simp only [OV] at hs
     cases hs with
     | ref _ _ _ _ _ _ b C L cap h1 h2 h3 h4 h5 h6 hsh=>
       obtain ⟨b0,C0,hcr⟩:=hw.obj _ _ hob;have e:=hcr.at_;rw [h1] at e;simp only [Option.some.injEq,Prod.mk.injEq] at e;obtain ⟨rfl,rfl,rfl⟩:=e;obtain ⟨u1,u2,u3⟩:=upd_some hu';obtain ⟨i2,zv,hi2,hzv,hzr⟩:=zero_ok hE hzt;rw [hi] at hi2;simp only [Option.some.injEq] at hi2;subst hi2;obtain ⟨hz0,_⟩:=zero_cells (κ:=κ) hzr hok;have hrow:=row_zeros hz0 hzl len;have hst:storeH id gen off cs.length (List.replicate len z.cells).flatten.length (List.replicate len z.cells).flatten tm H= .ok (.tup []) tm (H.set id (.cells gen gen ro cs')):=by unfold storeH;rw [hob];simp only [hro,u1,and_self,if_true,hu',fL_eq,fH_eq]
       have hok':(List.replicate len z.cells).flatten.all okCell=true:=by rw [List.all_eq_true] at hok⊢;intro v hv;simp only [List.mem_flatten,List.mem_replicate] at hv;obtain ⟨l,⟨_,rfl⟩,hv⟩:=hv;exact hok v hv
       obtain ⟨_,_,b',o',hb',g0,g1,g2⟩:=storeH_ok (P:=P) (loc:=fun _=>false) (β:=β) hw (VR.ptr id gen off cs.length b C cs.length h1 (Nat.le_refl _) hsh) hrow (hrow.one hok') rfl hst;simp only [Value.pointer.injEq,Option.some.injEq,Addr.mk.injEq] at hb';obtain ⟨rfl,rfl,_⟩:=hb';refine ⟨_,.tuple #[],?_,g1,g2,tup0⟩;unfold Builtin.clear_;rw [hat];refine (bind_ok (run_underlying' hu)).trans ?_;obtain ⟨n,rfl⟩: ∃n,len=n+1:=⟨len-1,by omega⟩;have e9:Builtin.zeroCells zv.cells (n+1)=(Array.range ((n+1)*i.size)).map (zv.cells[· %zv.cells.size]!):=by unfold Builtin.zeroCells;rw [←hz0.1,hzl]
       refine Eq.trans (b:=(do
        let z←zeroValue el
        storeCells ⟨b,off-C.s,none⟩ (Builtin.zeroCells z.cells (n+1)).toList
        pure (.tuple #[]):Sem Value).run P w) rfl ?_
       refine (bind_ok (run_zero' hi hzv)).trans ?_;refine (bind_ok (a:=()) (w':=_) ?_).trans (Sem.run_pure _ _ _);show (storeCells ⟨b,off-C.s,none⟩ (Builtin.zeroCells zv.cells (n+1)).toList).run P w=_;rw [e9];exact g0
 · cases h
include hE in
theorem makeSlice_run {t:Nat} {l c v:Val} {y z:Value} {tm':List Val} {H':Hp} (hl:OV κ β tm l y) (hc:OV κ β tm c z) (h:opMakeSlice E t l c tm H= .ok v tm' H'):
  tm'=tm∧ ∃(cs:List Val) (k len:Nat) (B:Array Value) (el cap:Nat),v= .ref H.n 0 0 k len false∧H'=H.push (.cells 0 0 0 cs)∧
   (Instr.makeSlice t y z).run P w= .ok (.slice (some ⟨w.heap.size,0,none⟩) len cap) (w.alloc (.cells B el))∧CR κ cs B∧0<k∧len*k≤cs.length∧cap*k=B.size∧len≤cap:=by
 unfold opMakeSlice at h;split at h
 case h_2=>simp at h
 rename_i el k1 len k2 cap hd;have hu:=und_ok hE hd;split at h
 case h_2=>simp at h
 rename_i i zc hi hz;split at h
 case isFalse=>simp at h
 rename_i hcond;obtain ⟨hle,hroom,hk,hzl,hok⟩:=hcond;simp only [fB_eq,fV_eq,fL_eq,fH_eq,ORes.ok.injEq] at h;obtain ⟨rfl,rfl,rfl⟩:=h;simp only [OV] at hl hc;cases hl;cases hc;have hi':=hE.T _ _ hi;obtain ⟨_,zv,hi2,hzv,hzr⟩:=zero_ok hE hz;rw [hi'] at hi2;simp only [Option.some.injEq] at hi2;subst hi2;obtain ⟨hz0,_⟩:=zero_cells (κ:=κ) hzr hok;have hr:roomN=35184372088832:=rfl;have hcapr:cap≤roomN:=Nat.le_trans (Nat.le_mul_of_pos_right _ (by omega)) hroom;have hcb:cap*i.bytes≤roomN:=Nat.le_trans (Nat.mul_le_mul_left _ (by omega)) hroom;have hwl:IntKind.i64.wrap (Int.ofNat len)=Int.ofNat len:=wrap_nat (by omega);have hwc:IntKind.i64.wrap (Int.ofNat cap)=Int.ofNat cap:=wrap_nat hcapr;have hrow:=row_zeros hz0 hzl cap;have hfin: ∃B:Array Value,(Instr.makeSlice t (.int k1 (.ofNat len)) (.int k2 (.ofNat cap))).run P w= .ok (.slice (some ⟨w.heap.size,0,none⟩) len cap) (w.alloc (.cells B el))∧CR κ (List.replicate cap zc.cells).flatten B:=by
  have n1: ¬((decide (Int.ofNat cap<0)||decide ((i.bytes:Int)*Int.ofNat cap>2^48)||decide (Int.ofNat len<0)||decide (Int.ofNat len>Int.ofNat cap))=true):=by
   simp only [Bool.or_eq_true,decide_eq_true_eq,not_or];refine ⟨⟨⟨by simp,?_⟩,by simp⟩,?_⟩
   · rw [show Int.ofNat cap=(cap:Int) from rfl,←Int.natCast_mul,Nat.mul_comm];omega
   · rw [show Int.ofNat cap=(cap:Int) from rfl,show Int.ofNat len=(len:Int) from rfl];omega
  have post: ∀zz:Array Value,(do pure (.slice (some (←newRow el ((Array.range (cap*i.size)).map (zz[· %zz.size]!)))) len cap):Sem Value).run P w=
    .ok (.slice (some ⟨w.heap.size,0,none⟩) len cap) (w.alloc (.cells ((Array.range (cap*i.size)).map (zz[· %zz.size]!)) el)):=by
   intro zz;refine (bind_ok (a:=⟨w.heap.size,0,none⟩) (w':=w.alloc (.cells _ el)) ?_).trans (Sem.run_pure _ _ _);simp only [newRow,Sem.run_bind,run_newObj,Result.andThen_ok,Sem.run_pure,World.alloc_eq]
  have pre: ∀zz:Array Value,(cap*i.size=0→zz= #[])→(¬cap*i.size=0→zz=zv.cells)→
    (Instr.makeSlice t (.int k1 (.ofNat len)) (.int k2 (.ofNat cap))).run P w= .ok (.slice (some ⟨w.heap.size,0,none⟩) len cap) (w.alloc (.cells ((Array.range (cap*i.size)).map (zz[· %zz.size]!)) el)):=by
   intro zz q1 q2;refine (bind_ok (run_underlying' hu)).trans ?_;refine (bind_ok (a:=Int.ofNat len) (w':=w) rfl).trans ?_;refine (bind_ok (a:=Int.ofNat cap) (w':=w) rfl).trans ?_;refine (bind_ok (run_info' hi')).trans ?_;rw [hwl,hwc];refine (ite_neg n1).trans ?_;refine (bind_ok (run_askRoom _ _ _)).trans ?_;refine (bind_ok (run_size' hi')).trans ?_;by_cases hn:cap*i.size=0
   · rw [q1 hn];exact (ite_pos hn).trans ((bind_ok (Sem.run_pure _ _ _)).trans (post #[]))
   · rw [q2 hn];exact (ite_neg hn).trans ((bind_ok (run_zero' hi' hzv)).trans ((bind_ok (Sem.run_pure _ _ _)).trans (post zv.cells)))
  by_cases hn:cap*i.size=0
  · refine ⟨_,pre #[] (fun _=>rfl) (fun h=>absurd hn h),?_⟩;rw [show cap=0 by rcases Nat.mul_eq_zero.1 hn with h|h<;>omega];simp [CR]
  · exact ⟨_,pre zv.cells (fun h=>absurd h hn) (fun _=>rfl),hrow⟩
 obtain ⟨B,hrun,hB⟩:=hfin;have hBl:B.size=cap*i.size:=by rw [←hB.1,rep_len,hzl]
 have hcl:(List.replicate cap zc.cells).flatten.length=cap*i.size:=by rw [rep_len,hzl]
 exact ⟨rfl,_,_,_,B,el,cap,rfl,rfl,hrun,hB,hk,by rw [hcl];exact Nat.mul_le_mul_right _ hle,hBl.symm,hle⟩
include hE in
theorem opMakeSlice_ok {t:Nat} {l c v:Val} {y z:Value} {tm':List Val} {H':Hp} (hw:WR κ H w) (hl:OV κ β tm l y) (hc:OV κ β tm c z) (h:opMakeSlice E t l c tm H= .ok v tm' H'):
  tm'=tm∧ ∃κ' w' r,(Instr.makeSlice t y z).run P w= .ok r w'∧WR κ' H' w'∧Fr κ.own κ κ' w w'∧VK κ' v r:=by
 obtain ⟨rfl,cs,k,len,B,el,cap,rfl,rfl,hrun,hB,hk,hlk,hck,hle⟩:=makeSlice_run hE (w:=w) hl hc h;obtain ⟨g1,g2,g3⟩:=new_cells hw cs B el (by rw [hB.1];exact Nat.le_refl _) hB.2;exact ⟨rfl,_,_,_,hrun,g1,g2,.ref _ _ _ _ _ _ _ _ _ _ g3 (by simpa using hlk) hk (fun h=>by cases h) (fun _=>by simp only;rw [hck];omega) hle (Nat.zero_le _)⟩
end
section
variable {E:Env} {P:Program} (hE:EnvOK E P) {κ:Kr} {w:World} {β:Nat→Option Nat} {tm:List Val} {H:Hp}
theorem opMakeMap_ok {t:Nat} {v:Val} {tm':List Val} {H':Hp} (hw:WR κ H w) (h:opMakeMap tm H= .ok v tm' H'):
  tm'=tm∧ ∃κ' w' r,(Instr.makeMap t none).run P w= .ok r w'∧WR κ' H' w'∧Fr κ.own κ κ' w w'∧VK κ' v r:=by
 simp only [opMakeMap,fV_eq,fH_eq,ORes.ok.injEq] at h;obtain ⟨rfl,rfl,rfl⟩:=h;obtain ⟨g1,g2,g3⟩:=new_obj hw (.map false [] []) (.map #[] 0) 0 0
  ⟨w.heap.size, #[],0,by simp [Kr.addU],by rw [alloc_heap,if_pos rfl],rfl,rfl,by simp,by simp,fun _=>(Kr.noneM_new hw:κ.M w.heap.size=none)⟩
 exact ⟨rfl,_,_,_,by simp [Instr.makeMap],g1,g2,.map _ _ g3⟩
theorem opRange_ok {t:Nat} {d:TypeDesc} (hd:P.underlying t=some d) {x v:Val} {y:Value} {tm':List Val} {H':Hp} (hw:WR κ H w) (hx:OV κ β tm x y) (h:opRange (some d) x tm H= .ok v tm' H'):
  tm'=tm∧ ∃κ' w' r,(Instr.range t y).run P w= .ok r w'∧WR κ' H' w'∧Fr κ.own κ κ' w w'∧VK κ' v r:=by
 unfold opRange at h;split at h
 case h_2=>simp at h
 rename_i len num hdd;simp only [Option.some.injEq] at hdd;subst hdd;simp only [fV_eq,fH_eq,ORes.ok.injEq] at h;obtain ⟨rfl,rfl,rfl⟩:=h;simp only [OV] at hx
 cases hx with
 | str s _ _ h1 h2=>
   obtain ⟨g1,g2,g3⟩:=new_obj hw (.iter len num 0) (.stringIter s 0) 0 0
    ⟨w.heap.size,s,by simp [Kr.addU],by rw [alloc_heap,if_pos rfl],h1,h2,(Kr.noneM_new hw:κ.M w.heap.size=none)⟩
   refine ⟨rfl,_,_,_,?_,g1,g2,.it _ _ g3⟩;simp [Instr.range,run_underlying' hd]
theorem decodeS_ok {s:ByteArray} {len num pos:Nat} (h1:s.size=len) (h2:packB s=num) (hp:pos<len):decodeS len num pos=Utf8.decode s pos:=by
 unfold decodeS;have hb:Go.PV.bytesOf len num=s:=by
  subst h1;subst h2;unfold Go.PV.bytesOf packB;rw [←size_data,unpack_packL];have:(s.data.toList.map (·.toNat)).map UInt8.ofNat=s.data.toList:=by
   rw [List.map_map]
   conv=>rhs;rw [←List.map_id s.data.toList]
   congr 1;funext b;simp
  rw [this]
 rw [hb];have hat:byteAt num pos=(s.get! (pos+0)).toNat:=by
  subst h2;have hl:pos<s.data.toList.length:=by rw [size_data,h1];exact hp
  rw [packB,byteAt_packL _ _ hl];have hp':pos<s.size:=by omega
  have hd:pos<s.data.size:=hp';have e:s.get! (pos+0)=s.data[pos]:=by show s.data[pos+0]! =s.data[pos];simp only [Nat.add_zero];exact getElem!_pos s.data pos hd
  rw [e];simp
 rw [hat];dsimp only;split
 · rename_i hlt;unfold Utf8.decode;dsimp only;rw [if_pos hlt]
 · rfl
theorem opNext_ok {ty:Nat} {x v:Val} {y:Value} {tm':List Val} {H':Hp} (hw:WR κ H w) (hx:OV κ β tm x y) (h:opNext x tm H= .ok v tm' H'):
  tm'=tm∧ ∃w' r,(Instr.next y true ty).run P w= .ok r w'∧WR κ H' w'∧Fr κ.own κ κ w w'∧VK κ v r:=by
 unfold opNext at h;split at h
 case h_2=>simp at h
 rename_i id;split at h
 case h_2=>simp at h
 rename_i len num pos hob;simp only [OV] at hx
 cases hx with
 | it _ b hμ=>
   obtain ⟨b',s,hir⟩:=hw.obj _ _ hob;have e:=hir.at_;rw [hμ] at e;simp only [Option.some.injEq,Prod.mk.injEq] at e;obtain ⟨rfl,_⟩:=e;have hlt:b<w.heap.size:=(Array.getElem?_eq_some_iff.1 hir.lies).1;have hnc: ∀c e f,Go.Obj.stringIter s pos≠ .cells c e f:=by intros;simp
   have step:(Instr.next (.pointer (some ⟨b,0,none⟩)) true ty).run P w=(if pos<s.size then
     (setObj b (.stringIter s (pos+(Utf8.decode s pos).2))>>=fun _=>pure (.tuple #[.bool true,goInt pos,.int .i32 (Utf8.decode s pos).1])).run P w else .ok (.tuple #[.bool false]) w):=by
    refine (bind_ok (run_getObj' hir.lies hnc)).trans ?_;by_cases hc:pos<s.size
    · rw [if_pos hc];exact (ite_pos hc).trans rfl
    · rw [if_neg hc];exact (ite_neg hc).trans (Sem.run_pure _ _ _)
   unfold nextIn at h;split at h
   · rename_i hp;rw [decodeS_ok hir.size hir.num hp] at h;simp only [fN_eq,fH_eq,ORes.ok.injEq] at h;obtain ⟨rfl,rfl,rfl⟩:=h;obtain ⟨g1,g2⟩:=set_obj hw (o':= .iter len num (pos+(Utf8.decode s pos).2)) (ob':= .stringIter s (pos+(Utf8.decode s pos).2)) hob hμ hir.lies hnc hir.free
      ⟨b,s,hμ,by rw [putB_get _ _ _ _ hlt,if_pos rfl],hir.size,hir.num,hir.free⟩
     refine ⟨rfl,_,.tuple #[.bool true,goInt pos,.int .i32 (Utf8.decode s pos).1],step.trans ?_,g1,g2,?_⟩
     · rw [if_pos (by rw [hir.size];exact hp)];exact (bind_ok (run_setObj' _ hir.lies hnc)).trans (Sem.run_pure _ _ _)
     · refine .tup _ _ rfl fun i v x hv hx=> ?_
       match i,hv,hx with
       |0,hv,hx=>simp at hv hx;subst hv;subst hx;exact .bool _
       |1,hv,hx=>simp at hv hx;subst hv;subst hx;exact .int _ _
       |2,hv,hx=>simp at hv hx;subst hv;subst hx;exact .int _ _
       |n+3,hv,hx=>simp at hv
   · rename_i hp;simp only [ORes.ok.injEq] at h;obtain ⟨rfl,rfl,rfl⟩:=h;refine ⟨rfl,_,.tuple #[.bool false],step.trans (if_neg (by rw [hir.size];exact hp)),hw,Fr.refl fun _ h=>h,?_⟩;refine .tup _ _ rfl fun i v x hv hx=> ?_
     match i,hv,hx with
     |0,hv,hx=>simp at hv hx;subst hv;subst hx;exact .bool _
     |n+1,hv,hx=>simp at hv
end
section
variable {E:Env} {P:Program} (hE:EnvOK E P) {κ:Kr} {w:World} {β:Nat→Option Nat} {tm:List Val} {H:Hp}
theorem str_inj {s t:ByteArray} (h1:s.size=t.size) (h2:packB s=packB t):s=t:=by have:=packL_inj s.data.toList t.data.toList (by rw [size_data,size_data];exact h1) h2;cases s;cases t;simp only at this;congr 1;exact Array.ext' this
theorem eqScalar_bits {a b:Val} {x y:Value} (ha:VK κ a x) (hb:VK κ b y) (h:eqScalar a b=some true) (n:Nat):Instr.sameBits n x y=true:=by
 unfold eqScalar at h;split at h
 · cases ha;cases hb;simp only [Option.some.injEq] at h;simpa [Instr.sameBits] using h
 · cases ha;cases hb;split at h
   · rename_i e;subst e;simp only [Option.some.injEq] at h;simpa [Instr.sameBits] using h
   · simp at h
 · cases ha with
   | str s _ _ h1 h2=>
     cases hb with
     | str t _ _ h3 h4=>
       simp only [Option.some.injEq,Bool.and_eq_true,beq_iff_eq] at h;have:s=t:=str_inj (by rw [h1,h3];exact h.1) (by rw [h2,h4];exact h.2);subst this;simp only [Instr.sameBits];show ByteArray.beq s s=true;unfold ByteArray.beq;simp
 · simp at h
theorem sameV_bits {a b:Val} {x y:Value} (ha:VK κ a x) (hb:VK κ b y) (h:sameV (some a) b=true) (n:Nat):Instr.sameBits (n+1) x y=true:=by
 have scal: ∀ {u v:Val} {x y:Value},VK κ u x→VK κ v y→(match eqScalar u v with|some true=>true|_=>false)=true→Instr.sameBits (n+1) x y=true:=by
  intro u v x y hu hv h;split at h
  · rename_i e;exact eqScalar_bits hu hv e _
  · simp at h
 unfold sameV at h;split at h
 · rename_i l m e;simp only [Option.some.injEq] at e;subst e
   cases ha with
   | agg _ xs h1 h2=>
     cases hb with
     | agg _ ys h3 h4=>
       simp only [Instr.sameBits,Bool.and_eq_true];have key: ∀(l m:List Val) (xs ys:List Value),l.length=xs.length→m.length=ys.length→(∀(i:Nat) (v:Val) (x:Value),l[i]? =some v→xs[i]? =some x→VK κ v x)→(∀(i:Nat) (v:Val) (x:Value),m[i]? =some v→ys[i]? =some x→VK κ v x)→
         eqScalars l m=true→xs.length=ys.length∧((xs.zip ys).all fun (x,y)=>Instr.sameBits n x y)=true:=by
        intro l
        induction l with
        | nil=>
          intro m xs ys e1 e2 _ _ h
          cases m with
          |nil=>cases xs<;>cases ys<;>simp at e1 e2⊢
          |cons=>simp [eqScalars] at h
        | cons a l ih=>
          intro m xs ys e1 e2 q1 q2 h
          cases m with
          |nil=>simp [eqScalars] at h
          | cons b m=>
            cases xs with
            |nil=>simp at e1
            | cons x xs=>
              cases ys with
              |nil=>simp at e2
              | cons y ys=>
                simp only [eqScalars] at h;split at h
                · rename_i e;obtain ⟨r1,r2⟩:=ih m xs ys (by simpa using e1) (by simpa using e2) (fun i v x hv hx=>q1 (i+1) v x (by simpa using hv) (by simpa using hx)) (fun i v x hv hx=>q2 (i+1) v x (by simpa using hv) (by simpa using hx)) h;refine ⟨by simp [r1],?_⟩;simp only [List.zip_cons_cons,List.all_cons,Bool.and_eq_true];exact ⟨eqScalar_bits (q1 0 _ _ rfl rfl) (q2 0 _ _ rfl rfl) e n,r2⟩
                · simp at h
       obtain ⟨r1,r2⟩:=key l m xs.toList ys.toList (by simpa using h1) (by simpa using h3) (fun i v x hv hx=>h2 i v x hv (by simpa using hx)) (fun i v x hv hx=>h4 i v x hv (by simpa using hx)) h;exact ⟨by simpa using r1,r2⟩
 · rename_i a' e1 e2;simp only [Option.some.injEq] at e1;subst e1;exact scal ha hb h
 · simp at h
include hE in
theorem opMapUpdate_ok {t:Nat} {m k u v:Val} {x y z:Value} {tm':List Val} {H':Hp} (hw:WR κ H w) (hm:OV κ β tm m x) (hk:OV κ β tm k y) (hu:OV κ β tm u z) (h:opMapUpdate E t m k u tm H= .ok v tm' H'):
  v= .tup []∧tm'=tm∧ ∃w',(Instr.mapUpdate t x y z).run P w= .ok () w'∧WR κ H' w'∧Fr κ.own κ κ w w':=by
 unfold opMapUpdate at h;split at h
 case h_2=>simp at h
 rename_i hnl;simp only [Bool.and_eq_true] at hnl;have hk:=hk.toVK hnl.1;have hu:=hu.toVK hnl.2;split at h
 case h_2=>simp at h
 rename_i H1 h1;simp only [ORes.ok.injEq] at h;obtain ⟨rfl,rfl,rfl⟩:=h;refine ⟨rfl,rfl,?_⟩;unfold mapUpdateP at h1;split at h1
 case h_2=>simp at h1
 rename_i kt el id hd;have hd:=und_ok hE hd;split at h1
 case h_2=>simp at h1
 rename_i ks vs hob;simp only [OV] at hm
 cases hm with
 | map _ b hμ=>
   obtain ⟨b',es,clock,hmr⟩:=hw.obj _ _ hob;have e:=hmr.at_;rw [hμ] at e;simp only [Option.some.injEq,Prod.mk.injEq] at e;obtain ⟨rfl,_⟩:=e;have hlt:b<w.heap.size:=(Array.getElem?_eq_some_iff.1 hmr.lies).1;have hnc: ∀c e f,Go.Obj.map es clock≠ .cells c e f:=by intros;simp
   unfold updateIn at h1;split at h1
   case h_2=>simp at h1
   rename_i hkey;have hck:=keyP_ok hE (w:=w) false 20 10000 kt k y (by omega) hk hkey;obtain ⟨kd,hkd⟩:=keyP_und hkey;have hkd:=und_ok hE hkd;have her:ER κ ks vs es.toList:=⟨by simpa using hmr.nk,by simpa using hmr.nv,fun i v e hv he=>hmr.keys i v e hv (by simpa using he),fun i v e hv he=>hmr.vals i v e hv (by simpa using he)⟩;split at h1
   case h_3=>simp at h1
   · rename_i i v' hf;obtain ⟨r',hr1,hr2⟩:=findKey_ok hE (w:=w) hkd hk her hf
     cases r' with
     |none=>exact hr2.elim
     | some q=>
       obtain ⟨j,y'⟩:=q;obtain ⟨rfl,_⟩:=hr2;split at h1
       case h_2=>simp at h1
       rename_i hsame;simp only [fL_eq,fH_eq,Option.some.injEq] at h1;subst h1
       cases hki:ks[i]? with
       |none=>rw [hki] at hsame;simp [sameV] at hsame
       | some k0=>
         rw [hki] at hsame;have hil:i<es.size:=by rw [←hmr.nk];exact (List.getElem?_eq_some_iff.1 hki).1
         have hei:es[i]? =some es[i]:=by simp [hil]
         have hbits:=sameV_bits (hmr.keys i k0 es[i] hki hei) hk hsame 9999;obtain ⟨g1,g2⟩:=set_obj hw (o':= .map false (setL ks i k) (setL vs i u)) (ob':= .map (es.modify i fun e=> {e with key:=y,val:=z}) clock) hob hμ hmr.lies hnc (hmr.free rfl)
          ⟨b,_,clock,hμ,by rw [putB_get _ _ _ _ hlt,if_pos rfl],by rw [setL_length];simpa using hmr.nk,by rw [setL_length];simpa using hmr.nv,
           fun j v e hv he=>by
            rw [setL_get _ _ _ _ (by rw [hmr.nk];exact hil)] at hv;rw [Array.getElem?_modify] at he;split at hv
            · rename_i c;rw [if_pos c] at he;simp only [Option.some.injEq] at hv;subst hv;simp only [Option.map_eq_some_iff] at he;obtain ⟨e0,_,rfl⟩:=he;exact hk
            · rename_i c;rw [if_neg c] at he;exact hmr.keys _ _ _ hv he,
           fun j v e hv he=>by
            rw [setL_get _ _ _ _ (by rw [hmr.nv];exact hil)] at hv;rw [Array.getElem?_modify] at he;split at hv
            · rename_i c;rw [if_pos c] at he;simp only [Option.some.injEq] at hv;subst hv;simp only [Option.map_eq_some_iff] at he;obtain ⟨e0,_,rfl⟩:=he;exact hu
            · rename_i c;rw [if_neg c] at he;exact hmr.vals _ _ _ hv he,hmr.free⟩
         refine ⟨_,?_,g1,g2⟩;refine (bind_ok (run_underlying' hd)).trans ?_;refine (bind_ok (run_getObj' hmr.lies hnc)).trans ?_;refine (bind_ok hck).trans ?_;refine (bind_ok hr1).trans ?_;refine (bind_ok (a:=y) (w':=w) ?_).trans (run_setObj' _ hmr.lies hnc);rw [hei];simp only [Option.map_some,Option.getD_some,Instr.keyThatStays];exact (ite_pos hbits).trans (Sem.run_pure _ _ _)
   · rename_i hf;obtain ⟨r',hr1,hr2⟩:=findKey_ok hE (w:=w) hkd hk her hf
     cases r' with
     |some q=>exact hr2.elim
     | none=>
       simp only [fL_eq,fH_eq,Option.some.injEq] at h1;subst h1;have app: ∀ {l:List Val} {a:Val} {x0:Value} {f:MapEntry→Value} {e0:MapEntry},l.length=es.size→VK κ a x0→f e0=x0→(∀(i:Nat) (v:Val) (e:MapEntry),l[i]? =some v→es[i]? =some e→VK κ v (f e))→
         ∀(i:Nat) (v:Val) (e:MapEntry),(l++ [a])[i]? =some v→(es.push e0)[i]? =some e→VK κ v (f e):=by
        intro l a x0 f e0 hl ha hf hall i v e hv he;rw [List.getElem?_append] at hv;rw [Array.getElem?_push] at he;split at hv
        · rename_i c;rw [if_neg (by omega)] at he;exact hall _ _ _ hv he
        · rename_i c;have hi0:i=es.size:=by have:=(List.getElem?_eq_some_iff.1 hv).1;simp at this;omega
          rw [if_pos hi0] at he;simp only [Option.some.injEq] at he;subst he;have:i-l.length=0:=by omega
          rw [this] at hv;simp only [List.getElem?_cons_zero,Option.some.injEq] at hv;subst hv;rw [hf];exact ha
       obtain ⟨g1,g2⟩:=set_obj hw (o':= .map false (ks++ [k]) (vs++ [u])) (ob':= .map (es.push {key:=y,val:=z,born:=clock}) (clock+1)) hob hμ hmr.lies hnc (hmr.free rfl)
        ⟨b,_,_,hμ,by rw [putB_get _ _ _ _ hlt,if_pos rfl],by simp [hmr.nk],by simp [hmr.nv],app hmr.nk hk rfl hmr.keys,app hmr.nv hu rfl hmr.vals,hmr.free⟩
       refine ⟨_,?_,g1,g2⟩;refine (bind_ok (run_underlying' hd)).trans ?_;refine (bind_ok (run_getObj' hmr.lies hnc)).trans ?_;refine (bind_ok hck).trans ?_;refine (bind_ok hr1).trans ?_;exact run_setObj' _ hmr.lies hnc
end
section
variable {E:Env} {P:Program} (hE:EnvOK E P) {κ:Kr} {w:World} {β:Nat→Option Nat} {tm:List Val} {H:Hp}
theorem newBox_ok {el g:Nat} {cs:List Val} {xs:Array Value} {v:Val} {tm':List Val} {H':Hp} (hw:WR κ H w) (hc:CR κ cs xs) (hg: ∀t,tyN g=t+1→el=t) (h:newBox g cs tm H= .ok v tm' H'):
  tm'=tm∧ ∃κ',WR κ' H' (w.alloc (.cells xs el))∧Fr κ.own κ κ' w (w.alloc (.cells xs el))∧VK κ' v (.pointer (some ⟨w.heap.size,0,none⟩)):=by
 simp only [newBox,fN_eq,fV_eq,fL_eq,fH_eq,ORes.ok.injEq] at h;obtain ⟨rfl,rfl,rfl⟩:=h;obtain ⟨g1,g2,g3⟩:=new_cells_g hw cs xs el (by rw [hc.1];exact Nat.le_refl _) hc.2 g hg;exact ⟨rfl,_,g1,g2,.ptr _ _ _ _ _ _ _ g3 (Nat.le_refl _) (Nat.zero_le _)⟩
theorem new_frozen (hw:WR κ H w) (xs:Array Value) (el:Nat):
  WR {κ with F:=fun b o=>if b=w.heap.size then xs[o]? else κ.F b o} H (w.alloc (.cells xs el))∧Fr κ.own κ {κ with F:=fun b o=>if b=w.heap.size then xs[o]? else κ.F b o} w (w.alloc (.cells xs el)):=by
 have hw1:=hw.alloc (.cells xs el);have hF: ∀b o v,κ.F b o=some v→(if b=w.heap.size then xs[o]? else κ.F b o)=some v:=by
  intro b o v h;rw [if_neg]
  · exact h
  · have:=Kr.F_lt hw h;omega
 refine ⟨⟨fun b o v h=> ?_,hw1.mps,hw1.mmap,hw1.len,fun id o h=> ?_,hw1.dom,hw1.blk,hw1.sep⟩,?_⟩
 · simp only at h;split at h
   · rename_i e;subst e;rw [cellAt_new];exact h
   · exact hw1.frz _ _ _ h
 · refine (hw1.obj _ _ h).carry hF (fun _ _ h=>h) (fun _ _ _ h=>h) (fun _=>rfl) (fun _ _ _ _ _=>rfl) (fun g b C L hm o hn=> ?_) (fun _ _ _ _ _ h=>h);simp only;rw [if_neg]
   · exact hn
   · have:=hw.blk _ _ _ _ _ hm;omega
 · refine ⟨by simp,fun b hb _=>by rw [alloc_heap,if_neg (by omega)],hF,fun b o v h=> ?_,fun _ _ h=>h,fun _ _ h=> .inl h,fun _ h=> .inl h,fun _ _ _ h=>h,rfl,rfl,rfl⟩;simp only at h;split at h
   · exact .inr (.inr (by omega))
   · exact .inl h
theorem fillP_len {pl:Nat→Option (Nat×Nat)}: ∀(ps:List (Nat×Val)) (cs c:List Val),fillP pl cs ps=some c→c.length=cs.length:=by
 intro ps
 induction ps with
 |nil=>intro cs c h;simp [fillP] at h;rw [h]
 | cons p ps ih=>
   intro cs c h;obtain ⟨i,v⟩:=p;simp only [fillP] at h;split at h
   · simp at h
   · split at h
     · split at h
       · rename_i c1 hu;simp only [fL_eq] at h;rw [ih _ _ h,(upd_some hu).2.1]
       · simp at h
     · simp at h
include hE in
theorem buildSliceP_ok {t len:Nat} {ps:List (Nat×Val)} {qs:Array (Nat×Value)} {v:Val} {H':Hp} (hw:WR κ H w) (hl:ps.length=qs.toList.length)
  (hpq: ∀(j:Nat) (p:Nat×Val) (q:Nat×Value),ps[j]? =some p→qs.toList[j]? =some q→p.1=q.1∧OV κ β tm p.2 q.2)
  (h:buildSliceP E t len ps H=some (v,H')): ∃κ' w' r,(Instr.buildSlice t len qs).run P w= .ok r w'∧WR κ' H' w'∧Fr κ.own κ κ' w w'∧VK κ' v r:=by
 unfold buildSliceP at h;split at h
 case h_2=>simp at h
 rename_i el hd;have hu:=und_ok hE hd;split at h
 case h_2=>simp at h
 rename_i k z hk hz;obtain ⟨i,hi,rfl⟩:=size_ok hE hk;obtain ⟨i2,zv,hi2,hzv,hzr⟩:=zero_ok hE hz;rw [hi] at hi2;simp only [Option.some.injEq] at hi2;subst hi2;obtain ⟨hz0,hz1⟩:=zero_cells (κ:=κ) hzr (zero_good hE hz).1;split at h
 case isFalse=>simp at h
 rename_i hc;obtain ⟨hk0,hzl,hlen⟩:=hc;split at h
 case h_2=>simp at h
 rename_i cs hf;split at h
 case h_2=>simp at h
 rename_i cs' H1 hm;simp only [fLL_eq,Option.some.injEq,Prod.mk.injEq] at h;obtain ⟨rfl,rfl⟩:=h;have hrow:=row_zeros hz0 hzl len;have hrow1: ∃zz:Array Value,(if len*i.size=0 then pure #[] else do pure (←zeroValue el).cells:Sem (Array Value)).run P w= .ok zz w∧CR κ (List.replicate len z.cells).flatten ((Array.range (len*i.size)).map (zz[· %zz.size]!))∧
   (len*i.size=0→zz= #[])∧(¬len*i.size=0→zz=zv.cells):=by
  by_cases hn:len*i.size=0
  · refine ⟨#[],(ite_pos hn).trans (Sem.run_pure _ _ _),?_,fun _=>rfl,fun h=>absurd hn h⟩;rw [show len=0 by rcases Nat.mul_eq_zero.1 hn with h|h<;>omega];simp [CR]
  · exact ⟨zv.cells,(ite_neg hn).trans ((bind_ok (run_zero' hi hzv)).trans (Sem.run_pure _ _ _)),hrow,fun h=>absurd h hn,fun _=>rfl⟩
 obtain ⟨zz,hzz,hzc,hz2,hz3⟩:=hrow1;have hone: ∀(j:Nat) (y:Value),((Array.range (len*i.size)).map (zz[· %zz.size]!))[j]? =some y→y.oneCell'=true:=by refine hzc.one ?_;rw [List.all_eq_true];intro v hv;rw [List.mem_flatten] at hv;obtain ⟨l,hl1,hl2⟩:=hv;rw [List.mem_replicate] at hl1;rw [hl1.2] at hl2;exact List.all_eq_true.1 (zero_good hE hz).1 _ hl2
 obtain ⟨ys,hy1,hy2,_⟩:=fill_ok (κ:=κ) (β:=β) (tm:=tm) (pl:=fun j=>some (j*i.size,i.size)) (pl':=fun j=>some (j*i.size,i.size)) (fun _ _ h=>h) ps qs.toList _ cs _ hl hpq hzc hone hf;obtain ⟨g1,g2⟩:=new_frozen hw ys el;have hcl:cs.length=len*i.size:=by rw [fillP_len _ _ _ hf,rep_len,hzl]
 obtain ⟨κ2,hw2,hf2,hmu2,hn2,hv2⟩:=mapH_ok (pub_ok depthP) cs H cs' H1 hm _ (w.alloc (.cells ys el)) (fun j=>(ys[j]?).getD default) g1 (fun j v hv=>by
  have hj:j<ys.size:=by rw [←hy2.1];exact (List.getElem?_eq_some_iff.1 hv).1
  have:=hy2.2 j v ys[j] hv (by simp [hj]);show VK _ v ((ys[j]?).getD default);rw [show (ys[j]?).getD default=ys[j] by simp [hj]];exact this.fr g2)
 have hc'l:cs'.length=len*i.size:=by rw [hn2,hcl]
 have hys:ys.size=len*i.size:=by rw [←hy2.1,hcl]
 refine ⟨κ2,_,.slice (some ⟨w.heap.size,0,none⟩) len len,?_,hw2,g2.trans hf2 (fun b hb=> .inl hb),?_⟩
 · have post:(do pure (.slice (some (←newRow el ys)) len len):Sem Value).run P w= .ok (.slice (some ⟨w.heap.size,0,none⟩) len len) (w.alloc (.cells ys el)):=by refine (bind_ok (a:=⟨w.heap.size,0,none⟩) (w':=w.alloc (.cells _ el)) ?_).trans (Sem.run_pure _ _ _);simp only [newRow,Sem.run_bind,run_newObj,Result.andThen_ok,Sem.run_pure,World.alloc_eq]
   refine (bind_ok (run_underlying' hu)).trans ?_;refine (bind_ok (run_size' hi)).trans ?_;refine (ite_neg (by omega)).trans ?_;by_cases hn:len*i.size=0
   · rw [hz2 hn] at hy1;refine (ite_pos hn).trans ((bind_ok (Sem.run_pure _ _ _)).trans ?_);simp only [hy1];exact post
   · rw [hz3 hn] at hy1;refine (ite_neg hn).trans ((bind_ok (run_zero' hi hzv)).trans ((bind_ok (Sem.run_pure _ _ _)).trans ?_));simp only [hy1];exact post
 · have fin:=VR.sl (F:=κ2.F) (M:=κ2.M) (μ:=κ2.μ) (chunk i.size len cs') true (some ⟨w.heap.size,0,none⟩) len i.size w.heap.size 0 (fun r j=>(ys[r*i.size+j]?).getD default)
    (by rw [chunk_length];exact Nat.le_refl _) (fun _=>by rw [chunk_length]) (by simp) (fun _=>rfl)
    (fun r row hr=>(chunk_row hc'l hr).2.1)
    (fun r j hr hj=>by
     rw [chunk_length] at hr;have h1:(r+1)*i.size≤len*i.size:=Nat.mul_le_mul_right i.size hr;rw [Nat.succ_mul] at h1;have hlt:r*i.size+j<ys.size:=by omega
     refine hf2.fext _ _ _ ?_;simp only [if_true,Nat.zero_add];simp [hlt])
    (fun r j row v hr hv=>by
     obtain ⟨hi,hrl,hrow⟩:=chunk_row hc'l hr;rw [hrow] at hv;split at hv
     · exact hv2 _ _ hv
     · simp at hv)
   rw [chunk_length] at fin;exact fin
end
section
variable {E:Env} {P:Program} (hE:EnvOK E P) {κ:Kr} {w:World} {β:Nat→Option Nat} {tm:List Val} {H:Hp}
theorem run_loadBytes (w:World): ∀(ns:List Int) (b o:Nat) (acc:ByteArray),(∀(i:Nat) (n:Int),ns[i]? =some n→w.cell? ⟨b,o+i,none⟩=some (.int .u8 n))→
  (loadBytes ⟨b,o,none⟩ acc ns.length).run P w= .ok (ns.foldl (fun r n=>r.push (UInt8.ofNat n.toNat)) acc) w
 | [],b,o,acc,_=>rfl
 | n::ns,b,o,acc,h=>by
   simp only [List.length_cons,loadBytes];have h0:=h 0 n rfl;rw [Nat.add_zero] at h0;have hl:(load ⟨b,o,none⟩).run P w= .ok (Value.int .u8 n) w:=by simp [load,Sem.run,h0]
   refine (bind_ok hl).trans ?_
   · have:=run_loadBytes w ns b (o+1) (acc.push (UInt8.ofNat n.toNat)) (fun i m hm=>by rw [show o+1+i=o+(i+1) by omega];exact h (i+1) m (by simpa using hm));simp only [List.foldl_cons];rw [←this,add_none]
theorem freeze_heap (w:World) (b o n:Nat) (b':Nat) (h:b'≠b):(w.freeze ⟨b,o,none⟩ n).heap[b']? =w.heap[b']? :=by
 unfold World.freeze;split
 · rfl
 · simp only [Array.getElem?_modify];rw [if_neg (fun e=>h e.symm)]
theorem freeze_size (w:World) (a:Addr) (n:Nat):(w.freeze a n).heap.size=w.heap.size:=by unfold World.freeze;split<;>simp
theorem freeze_rest (w:World) (a:Addr) (n:Nat):(w.freeze a n).os=w.os∧(w.freeze a n).output=w.output∧(w.freeze a n).tape=w.tape:=by unfold World.freeze;split<;>exact ⟨rfl,rfl,rfl⟩
theorem freeze_at {w:World} {b o n:Nat} {c:Array Value} {e:TypeId} {fr:Nat×Nat} (h:w.heap[b]? =some (.cells c e fr)): ∃fr',(w.freeze ⟨b,o,none⟩ n).heap[b]? =some (.cells c e fr'):=by
 unfold World.freeze;split
 · exact ⟨fr,h⟩
 · obtain ⟨lo,hi⟩:=fr;simp only [Array.getElem?_modify,if_true,h,Option.map_some];exact ⟨_,rfl⟩
theorem share_ok (hw:WR κ H w) {id g d ro o n:Nat} {cs:List Val} {b:Nat} {C:Cap} (hob:H.get id=some (.cells g d ro cs)) (hcr:CellsR κ id g d ro cs w b C):
  WR κ (H.set id .gone) (w.freeze ⟨b,o,none⟩ n)∧Fr κ.own κ κ w (w.freeze ⟨b,o,none⟩ n):=by
 have hid:=Hp.get_lt hob;obtain ⟨c,e,lo,hi,hb,_,_⟩:=hcr.free;obtain ⟨fr',hb'⟩:=freeze_at (o:=o) (n:=n) hb;have hsz:=freeze_size w ⟨b,o,none⟩ n;obtain ⟨r1,r2,r3⟩:=freeze_rest w ⟨b,o,none⟩ n;have hoth:=freeze_heap w b o n;generalize w.freeze ⟨b,o,none⟩ n=w' at hb' hsz r1 r2 r3 hoth;have hcell: ∀b' o' v,cellAt w b' o'=some v→cellAt w' b' o'=some v:=by
  intro b' o' v h;by_cases eb:b'=b
  · subst eb;unfold cellAt at h⊢;rw [hb] at h;rw [hb'];exact h
  · unfold cellAt at h⊢;rw [hoth b' eb];exact h
 have hne: ∀j g' b' C' L',κ.μ j g'=some (b',C',L')→j≠id→b'≠b:=by rintro j g' b' C' L' hm hj rfl;exact hj (hw.sep _ _ _ _ _ _ _ _ _ hm hcr.at_).1
 refine ⟨⟨fun b' o' v h=>hcell _ _ _ (hw.frz _ _ _ h),fun b' ob h=> ?_,hw.mmap,Hp.set_len _ _ _ hw.len,fun j ob hj=> ?_,fun i g' y h=>by rw [Hp.set_n];exact hw.dom _ _ _ h,fun i g' b' C' L' h=>by rw [hsz];exact hw.blk _ _ _ _ _ h,hw.sep⟩,?_⟩
 · by_cases eb:b'=b
   · subst eb;obtain ⟨es,cl,e1⟩:=hw.mmap _ _ h;have:=hw.mps _ _ h;rw [hb,e1] at this;simp at this
   · rw [hoth b' eb];exact hw.mps _ _ h
 · rw [Hp.get_set _ hw.len _ _ hid] at hj;split at hj
   · simp only [Option.some.injEq] at hj;subst hj;trivial
   · rename_i hj';exact (hw.obj _ _ hj).carry (fun _ _ _ h=>h) (fun _ _ h=>h) (fun _ _ _ h=>h) (fun _=>rfl) (fun g' b' C' L' hm=>hoth b' (hne _ _ _ _ _ hm hj')) (fun _ _ _ _ _ _ h=>h) (fun _ _ _ _ _ h=>h)
 · refine ⟨by rw [hsz];exact Nat.le_refl _,fun b' _ hn=>hoth b' ?_,fun _ _ _ h=>h,fun _ _ _ h=> .inl h,fun _ _ h=>h,fun _ _ h=> .inl h,fun _ h=> .inl h,fun _ _ _ h=>h,r1,r2,r3⟩;rintro rfl;exact hn ⟨_,_,_,_,hcr.at_⟩
theorem run_elemOf {t u:Nat} (h:P.underlying t=some (.pointer u)):(elemOf t).run P w= .ok u w:=by simp [elemOf,run_underlying' h]
theorem lies_self {u n:Nat} {i:TypeInfo} (hi:P.info? u=some i) (h1:i.size=1) (count off:Nat) (h:off+n≤count):liesAt P P.depth (u) count off u n=true:=by
 have hd:P.depth=2*(P.types.size+Made.depth)+1+1:=rfl;have hc:P.cellsOf u=1:=by simp [Program.cellsOf,hi,h1]
 have hs:sameLayout P P.depth u u=true:=by rw [hd];simp [sameLayout]
 rw [hd];simp only [liesAt];have:rowAt P (fun t=>sameLayout P P.depth t u) P.depth u count off n=true:=by rw [hd];simp only [rowAt,hc,Nat.div_one,Nat.mod_one];rw [←hd];simp [hs,h]
 simp [this]
theorem sliceDataP_ok {at_:Array Nat} {ty:Nat} {u v:Val} {x:Value} (hu:OV κ β tm u x) (h:sliceDataP u=some v): ∃z,(Builtin.unsafeSliceData_ at_ ty #[x]).run P w= .ok z w∧VK κ v z:=by
 unfold sliceDataP at h;split at h
 · simp only [OV] at hu;cases hu;simp only [Option.some.injEq] at h;subst h;exact ⟨_,rfl,.nilp⟩
 · rename_i id gen off k len cl;split at h
   · cases h
   · rename_i n;simp only [fN_eq,Option.some.injEq] at h;subst h;simp only [OV] at hu
     cases hu with
     | ref _ _ _ _ _ _ b C L cap h1 h2 h3 h4 h5 h6 h7=>
       refine ⟨.pointer (some ⟨b,off-C.s,none⟩),?_,.ptr _ _ _ _ _ _ _ h1 h2 h7⟩;exact (ite_pos (c:=cap≠0) (a:=pure (Value.pointer (some ⟨b,off-C.s,none⟩))) (by omega)).trans rfl
 · cases h
include hE in
theorem unsafeStrP_ok (hw:WR κ H w) {tp t2:Nat} {at_:Array Nat} (hat:at_[0]? =some tp) {ty:Nat} {u n v:Val} {x y:Value} {H':Hp} (hu:OV κ β tm u x) (hn:OV κ β tm n y) (h:unsafeStrP E tp u n H=some (v,H')):
  ∃w' z,(Builtin.unsafeString_ at_ ty #[x,y]).run P w= .ok z w'∧WR κ H' w'∧Fr κ.own κ κ w w'∧VK κ v z:=by
 have str0: ∀(p:Option Addr) {k:IntKind},(Builtin.unsafeString_ at_ ty #[.pointer p,.int k (Int.ofNat 0)]).run P w= .ok (.string .empty) w:=by intro p k;refine (bind_ok (a:=Int.ofNat 0) (w':=w) rfl).trans ?_;simp only [hat];refine (ite_neg (by simp)).trans ?_;refine (ite_neg (by decide)).trans ?_;cases p<;>exact (ite_pos rfl).trans rfl
 unfold unsafeStrP at h;split at h
 · simp only [OV] at hu hn;cases hu;cases hn;simp only [Option.some.injEq,Prod.mk.injEq] at h;obtain ⟨rfl,rfl⟩:=h;exact ⟨w,.string .empty,str0 none,hw,Fr.refl fun _ h=>h,.str _ _ _ rfl rfl⟩
 · rename_i id gen off lim k m;simp only [OV] at hu hn;split at h
   · simp only [Option.some.injEq,Prod.mk.injEq] at h;obtain ⟨rfl,rfl⟩:=h;cases hu;cases hn;exact ⟨w,.string .empty,str0 (some _),hw,Fr.refl fun _ h=>h,.str _ _ _ rfl rfl⟩
   · rename_i m ut0 hbe;unfold byteElem at hbe;split at hbe
     case h_2=>cases hbe
     rename_i ut hptr;split at hbe
     case h_2=>cases hbe
     rename_i hsz;simp only [Option.some.injEq] at hbe;subst hbe;have hptr:=und_ok hE hptr;obtain ⟨i,hi,hi1⟩:=size_ok hE hsz;unfold strAt at h;split at h
     case h_2=>cases h
     rename_i g d ro cs hob;split at h
     case isFalse=>cases h
     rename_i hc;obtain ⟨rfl,hlim,hty,hroom⟩:=hc;split at h
     case h_2=>cases h
     rename_i l hl;split at h
     case h_2=>cases h
     rename_i q hq;simp only [fV_eq,fH_eq,Option.some.injEq,Prod.mk.injEq] at h;obtain ⟨rfl,rfl⟩:=h;cases hn
     cases hu with
     | ptr _ _ _ _ b C L h1 h2 h3=>
       obtain ⟨b0,C0,hcr⟩:=hw.obj _ _ hob;have e0:=hcr.at_;rw [h1] at e0;simp only [Option.some.injEq,Prod.mk.injEq] at e0;obtain ⟨rfl,rfl,rfl⟩:=e0;obtain ⟨c,fr,hb⟩:=hcr.ety _ hty;obtain ⟨c',e',lo,hi',hf1,hf2,_⟩:=hcr.free;rw [hb] at hf1;simp only [Option.some.injEq,Go.Obj.cells.injEq] at hf1;obtain ⟨rfl,rfl,rfl⟩:=hf1;obtain ⟨q1,q2⟩:=hcr.cont g b C cs.length hcr.dle h1;have hll:=sub_length hl;have hlg:=sub_get hl;let ys:List Value:=(List.range (m+1)).map fun j=>(w.cell? ⟨b,off-C.s+j,none⟩).getD default;have hy: ∀j,j<m+1→ ∃y,w.cell? ⟨b,off-C.s+j,none⟩=some y∧ys[j]? =some y∧ ∀u,l[j]? =some u→VK κ u y:=by
        intro j hj;obtain ⟨y,hy1,hy2⟩:=q2 (off+j) cs[off+j] (by omega) (by omega) (by rw [List.getElem?_eq_getElem (by omega)]);rw [show off+j-C.s=off-C.s+j by omega] at hy1;have hy1:w.cell? ⟨b,off-C.s+j,none⟩=some y:=by rw [cell?_eq];exact hy1
        refine ⟨y,hy1,by simp [ys,hj,hy1],fun u hu=> ?_⟩;rw [hlg,if_pos hj,List.getElem?_eq_getElem (by omega)] at hu;simp only [Option.some.injEq] at hu;subst hu;exact hy2
       obtain ⟨ns,hns1,hns2⟩:=fold_bytes (κ:=κ) l ys q (by simp [ys,hll]) (fun i v x hv hx=>by
        have hi:i<m+1:=by rw [←hll];exact (List.getElem?_eq_some_iff.1 hv).1
        obtain ⟨y,_,k2,k3⟩:=hy i hi;rw [hx] at k2;simp only [Option.some.injEq] at k2;subst k2;exact k3 v hv) hq
       have hnl:ns.length=m+1:=by have:=congrArg List.length hns1;simpa [ys] using this.symm
       have hlb:=run_loadBytes (P:=P) w ns b (off-C.s) .empty (fun i n hn=>by
        have hi:i<m+1:=by rw [←hnl];exact (List.getElem?_eq_some_iff.1 hn).1
        obtain ⟨y,k1,k2,_⟩:=hy i hi;rw [hns1,List.getElem?_map,hn] at k2;simp only [Option.map_some,Option.some.injEq] at k2;rw [k1,k2])
       rw [hnl] at hlb;obtain ⟨g1,g2⟩:=share_ok (o:=off-C.s) (n:=m+1) hw hob hcr;refine ⟨w.freeze ⟨b,off-C.s,none⟩ (m+1),.string (ns.foldl (fun r n=>r.push (UInt8.ofNat n.toNat)) .empty),?_,g1,g2,.str _ _ _ ?_ ?_⟩
       · have hv:(variablesAt (⟨b,off-C.s,none⟩:Addr) ut (m+1)).run P w= .ok true w:=by
          have hcells:P.cellsOf ut=1:=by simp [Program.cellsOf,hi,hi1]
          have:=lies_self hi hi1 c.size (off-C.s) (n:=m+1) (by have:=hcr.room;omega);simp [variablesAt,World.shape?,hb,hcells,this]
         have hr:roomN=35184372088832:=rfl;have hmax: ¬(Int.ofNat (m+1)>IntKind.i64.max):=by have:IntKind.i64.max=9223372036854775807:=rfl;rw [this,show Int.ofNat (m+1)=((m+1:Nat):Int) from rfl];omega
         refine (bind_ok (a:=Int.ofNat (m+1)) (w':=w) rfl).trans ?_;simp only [hat];refine (ite_neg (by have:Int.ofNat (m+1)=((m+1:Nat):Int):=rfl;omega)).trans ?_;refine (ite_neg hmax).trans ?_;refine (ite_neg (by have:Int.ofNat (m+1)=((m+1:Nat):Int):=rfl;omega)).trans ?_;refine (bind_ok (run_elemOf hptr)).trans ?_;refine (bind_ok hv).trans ?_;refine (ite_pos rfl).trans ?_;refine (bind_ok hlb).trans ?_;refine (bind_ok (a:=()) (w':=w.freeze ⟨b,off-C.s,none⟩ (m+1)) ?_).trans ?_
         · rfl
         · rfl
       · rw [←size_data,foldl_push];simp [hnl]
       · unfold packB;rw [foldl_push];simpa using hns2
   · cases h
 · cases h
end
def below (μ:Mu) (n:Nat):Mu:=fun i g=>if i<n then μ i g else none
theorem below_some {μ:Mu} {n i g:Nat} {y:Nat×Cap×Nat} (h:below μ n i g=some y):i<n∧μ i g=some y:=by
 unfold below at h;split at h
 · exact ⟨by assumption,h⟩
 · simp at h
theorem below_lt {μ:Mu} {n i g:Nat} (h:i<n):below μ n i g=μ i g:=by unfold below;rw [if_pos h]
theorem idsB_ok {F:Fz} {M:Mz} {μ:Mu} {n:Nat}: ∀(d:Nat) (v:Val) (x:Value),VR F M μ v x→idsB n d v=true→VR F M (below μ n) v x:=by
 intro d
 induction d with
 |zero=>intro v x _ h;simp [idsB] at h
 | succ d ih=>
   intro v x hv h;have all: ∀ {cs:List Val} {xs:Array Value},cs.all (idsB n d)=true→(∀(i:Nat) (v:Val) (x:Value),cs[i]? =some v→xs[i]? =some x→VR F M μ v x)→
     ∀(i:Nat) (v:Val) (x:Value),cs[i]? =some v→xs[i]? =some x→VR F M (below μ n) v x:=by
    intro cs xs ha hall i v x hi hx;exact ih v x (hall i v x hi hx) (List.all_eq_true.1 ha v (List.mem_of_getElem? hi))
   cases hv with
   |bad x=>exact .bad x
   |bool b=>exact .bool b
   |int k m=>exact .int k m
   |str s a b h1 h2=>exact .str s a b h1 h2
   |nilp=>exact .nilp
   |fptr cs off b o X h1 h2=>exact .fptr cs off b o X h1 h2
   |nilsl=>exact .nilsl
   |sl rows clip a cap k b o X h1 h2 h3 h4 h5 h6 h7=>exact .sl rows clip a cap k b o X h1 h2 h3 h4 h5 h6 h7
   |nilmap=>exact .nilmap
   |fmap ks vs b es clock h1 h2 h3 h4 h5=>exact .fmap ks vs b es clock h1 h2 h3 h4 h5
   |nilfn=>exact .nilfn
   |nili=>exact .nili
   |agg cs xs h1 h2=>exact .agg cs xs h1 (all (by simpa [idsB] using h) h2)
   |tup cs xs h1 h2=>exact .tup cs xs h1 (all (by simpa [idsB] using h) h2)
   | fn f a c xs ys h1 h2 h3 h4=>
     simp only [idsB,Bool.and_eq_true] at h;exact .fn f a c xs ys h1 h2 (all h.1 h3) (all h.2 h4)
   |iface t u y hu=>exact .iface t u y (ih u y hu (by simpa [idsB] using h))
   |ptr id gen off lim b C L h1 h2 h7=>exact .ptr id gen off lim b C L (by rw [below_lt (Nat.le_of_ble_eq_true (by simpa [idsB,Nat.blt] using h))];exact h1) h2 h7
   |ref id gen off k len clip b C L cap h1 h2 h3 h4 h5 h6 h7=>exact .ref id gen off k len clip b C L cap (by rw [below_lt (Nat.le_of_ble_eq_true (by simpa [idsB,Nat.blt] using h))];exact h1) h2 h3 h4 h5 h6 h7
   |map id b h1=>exact .map id b (by rw [below_lt (Nat.le_of_ble_eq_true (by simpa [idsB,Nat.blt] using h))];exact h1)
   |it id b h1=>exact .it id b (by rw [below_lt (Nat.le_of_ble_eq_true (by simpa [idsB,Nat.blt] using h))];exact h1)
theorem gc_ok {κ κ':Kr} {H H':Hp} {w w':World} {v:Val} {x:Value} (hw:WR κ H w) (hw':WR κ' H' w') (hf:Fr κ.own κ κ' w w') (hv:VK κ' v x):
  ∃κ'',WR κ'' (gc H.n v H') w'∧Fr κ.own κ κ'' w w'∧VK κ'' v x∧(∀b o y,κ'.F b o=some y→κ''.F b o=some y):=by
 unfold gc;split
 · exact ⟨κ',hw',hf,hv,fun _ _ _ h=>h⟩
 · rename_i hn;have hn:H.n<H'.n:=by
    rcases Nat.lt_or_ge H.n H'.n with h|h
    · exact h
    · rw [Nat.ble_eq_true_of_le h] at hn;exact absurd rfl hn
   dsimp only;split
   · rename_i hc;simp only [Bool.and_eq_true] at hc;obtain ⟨hc1,hc2⟩:=hc;have hll:=hw'.len;have hget: ∀id o,Hp.get ⟨H.n,H'.l.drop (H'.n-H.n)⟩ id=some o→id<H.n∧H'.get id=some o∧objB H.n o=true:=by
      intro id o h;unfold Hp.get at h;simp only at h;split at h
      · rename_i hid;refine ⟨hid,?_,List.all_eq_true.1 hc2 o (List.mem_of_getElem? h)⟩;unfold Hp.get;rw [if_pos (by omega),←h,List.getElem?_drop];congr 1;omega
      · simp at h
     refine ⟨{κ' with μ:=below κ'.μ H.n},⟨hw'.frz,hw'.mps,hw'.mmap,by simp [hll];omega,fun id o h=> ?_,fun id g y h=>(below_some h).1,fun id g b C L h=>hw'.blk _ _ _ _ _ (below_some h).2,
      fun id g b C L id' g' C' L' h h'=>hw'.sep _ _ _ _ _ _ _ _ _ (below_some h).2 (below_some h').2⟩,?_,idsB_ok 20 v x hv hc1,fun _ _ _ h=>h⟩
     · obtain ⟨hid,ho,hb⟩:=hget _ _ h;have h0:=hw'.obj _ _ ho
       cases o with
       | cells g d r cs=>
         obtain ⟨b,C,h1⟩:=h0;simp only [objB] at hb;refine ⟨b,C,by show below _ _ _ _=_;rw [below_lt hid];exact h1.at_,h1.room,h1.sle,h1.free,fun i v h2 h3=>let ⟨x,h4⟩:=h1.gh i v h2 h3;⟨x,idsB_ok 20 v x h4 (List.all_eq_true.1 hb v (List.mem_of_getElem? h3))⟩,fun g' b' C' L' hd hm=> ?_,h1.wr,fun g' hg=>by show below _ _ _ _=_;rw [below_lt hid];exact h1.last _ hg,h1.dle,h1.ety⟩;obtain ⟨h3,h4⟩:=h1.cont g' b' C' L' hd (below_some hm).2;refine ⟨h3,fun i u hs hi hu=> ?_⟩;obtain ⟨y,hy1,hy2⟩:=h4 i u hs hi hu;exact ⟨y,hy1,idsB_ok 20 u y hy2 (List.all_eq_true.1 hb u (List.mem_of_getElem? hu))⟩
       | map frz ks vs=>
         obtain ⟨b,es,clock,h1⟩:=h0;simp only [objB,Bool.and_eq_true] at hb;exact ⟨b,es,clock,by show below _ _ _ _=_;rw [below_lt hid];exact h1.at_,h1.lies,h1.nk,h1.nv,
          fun i u e hu he=>idsB_ok 20 u _ (h1.keys i u e hu he) (List.all_eq_true.1 hb.1 u (List.mem_of_getElem? hu)),
          fun i u e hu he=>idsB_ok 20 u _ (h1.vals i u e hu he) (List.all_eq_true.1 hb.2 u (List.mem_of_getElem? hu)),h1.free⟩
       | iter len num pos=>
         obtain ⟨b,s,h1⟩:=h0;exact ⟨b,s,by show below _ _ _ _=_;rw [below_lt hid];exact h1.at_,h1.lies,h1.size,h1.num,h1.free⟩
       |gone=>trivial
       | rsv=>
         intro g;show below _ _ _ _=_;rw [below_lt hid];exact h0 g
     · refine ⟨hf.size,hf.keep,hf.fext,hf.fnew,hf.mext,hf.mnew,fun b hb=> ?_,fun i g y h=> ?_,hf.os,hf.output,hf.tape⟩
       · obtain ⟨i,g,C,L,h⟩:=hb;exact hf.onew b ⟨_,_,_,_,(below_some h).2⟩
       · show below _ _ _ _=_;rw [below_lt (hw.dom _ _ _ h)];exact hf.uext _ _ _ h
   · exact ⟨κ',hw',hf,hv,fun _ _ _ h=>h⟩
def ChainR (κ:Kr) (v:Val) (chain:List PanicEntry):Prop:= ∃x rest,chain= {v:=x,recovered:=false}::rest∧(∀e∈rest,e.goexit=false)∧VK κ v x
def EndR (κ:Kr) (w:World) (res:FRes):Ending→World→Prop
 | .returned x,w'=> ∃v H' κ',res= .ret v H'∧WR κ' H' w'∧Fr κ.own κ κ' w w'∧VK κ' v x
 | .panicked chain,w'=> ∃v H' κ',res= .pan v H'∧WR κ' H' w'∧Fr κ.own κ κ' w w'∧ChainR κ' v chain
 | .outgrown,_=>False
def InvOK (P:Program) (f:Nat) (xs:Array Value) (w:World) (R:Ending→World→Prop):Prop:=
 (∃g ys,(callFunc f xs).run P w= .ok (.enter g ys) w∧Calls P g ys w R)∨ ∃x w',(callFunc f xs).run P w= .ok (.value x) w'∧R (.returned x) w'
theorem InvOK.mono {P:Program} {f:Nat} {xs:Array Value} {w:World} {R R':Ending→World→Prop} (h:InvOK P f xs w R) (hr: ∀e w',R e w'→R' e w'):InvOK P f xs w R':=by
 rcases h with ⟨g,ys,h1,h2⟩|⟨x,w',h1,h2⟩
 · exact .inl ⟨g,ys,h1,h2.mono hr⟩
 · exact .inr ⟨x,w',h1,hr _ _ h2⟩
def CallOK (E:Env) (P:Program) (f:Nat) (args:List Val) (H:Hp) (res:FRes):Prop:=
 res≠ .fail→ ∀κ w (xs:Array Value),WR κ H w→GOK E κ→args.length=xs.size→(∀(i:Nat) (v:Val) (x:Value),args[i]? =some v→xs[i]? =some x→VK κ v x)→
  InvOK P f xs w (EndR κ w res)
def OEndR (κ:Kr) (w:World) (tm:List Val) (res:ORes):Ending→World→Prop
 | .returned x,w'=> ∃v H' κ',res= .ok v tm H'∧WR κ' H' w'∧Fr κ.own κ κ' w w'∧VK κ' v x
 | .panicked chain,w'=> ∃v H' κ',res= .pan v H'∧WR κ' H' w'∧Fr κ.own κ κ' w w'∧ChainR κ' v chain
 | .outgrown,_=>False
section
variable {E:Env} {P:Program} {κ:Kr} {w:World} {H:Hp} {cf:CallF} {tm:List Val}
theorem VK_noLoc {v:Val} {x:Value} (h:VK κ v x):noLoc v=true:=by cases v<;>first|rfl|(unfold VK at h;cases h)
theorem doPlain_ok (hcf: ∀f args H,CallOK E P f args H (cf f args H)) {f:Nat} {args:List Val} {xs:Array Value} (hw:WR κ H w) (hg:GOK E κ) (hl:args.length=xs.size)
  (ha: ∀(i:Nat) (v:Val) (x:Value),args[i]? =some v→xs[i]? =some x→VK κ v x) (h:doPlain E cf f args H tm≠ .fail):
  InvOK P f xs w (OEndR κ w tm (doPlain E cf f args H tm)):=by
 unfold doPlain at h⊢;have hc:=hcf f args H
 cases hr:cf f args H with
 |fail=>rw [hr] at h;simp at h
 | ret v H'=>
   rw [hr] at h hc;refine (hc (by simp) κ w xs hw hg hl ha).mono fun e w' he=> ?_
   cases e with
   |outgrown=>exact he.elim
   |panicked chain=>obtain ⟨v1,H1,κ1,e1,_⟩:=he;simp at e1
   | returned x=>
     obtain ⟨v1,H1,κ1,e1,hw1,hf1,hv1⟩:=he;simp only [FRes.ret.injEq] at e1;obtain ⟨rfl,rfl⟩:=e1;simp only;split
     · obtain ⟨κ2,q1,q2,q3,_⟩:=gc_ok hw hw1 hf1 hv1;exact ⟨_,_,κ2,by simp only [fV_eq,fH_eq],q1,q2,q3⟩
     · rename_i hk;simp only [hk] at h;split
       · rename_i v2 H2 hp;obtain ⟨κ2,p1,p2,p3,p4⟩:=pub_ok _ _ _ _ _ hp κ1 w' x hw1 hv1;obtain ⟨κ3,q1,q2,q3,_⟩:=gc_ok hw p1 (hf1.trans p2 hf1.onew) (p4.of_mu0);exact ⟨_,_,κ3,by simp only [fV_eq,fH_eq],q1,q2,q3⟩
       · rename_i hp;rw [hp] at h;simp at h
 | pan v H'=>
   rw [hr] at h hc;refine (hc (by simp) κ w xs hw hg hl ha).mono fun e w' he=> ?_
   cases e with
   |outgrown=>exact he.elim
   |returned x=>obtain ⟨v1,H1,κ1,e1,_⟩:=he;simp at e1
   | panicked chain=>
     obtain ⟨v1,H1,κ1,e1,hw1,hf1,x,rest,rfl,hrest,hv1⟩:=he;simp only [FRes.pan.injEq] at e1;obtain ⟨rfl,rfl⟩:=e1;simp only at h⊢;split
     · rename_i v2 H2 hp;obtain ⟨κ2,p1,p2,p3,p4⟩:=pub_ok _ _ _ _ _ hp κ1 w' x hw1 hv1;obtain ⟨κ3,q1,q2,q3,_⟩:=gc_ok hw p1 (hf1.trans p2 hf1.onew) (p4.of_mu0);exact ⟨_,_,κ3,by simp only [fV_eq,fH_eq],q1,q2,x,rest,rfl,hrest,q3⟩
     · rename_i hp;rw [hp] at h;simp at h
theorem WR.bare (hw:WR κ H w):WR κ.bare Hp.empty w:=
 ⟨hw.frz,hw.mps,hw.mmap,rfl,fun id o h=>by simp [Hp.get,Hp.empty] at h,fun id g y h=>by simp [Kr.bare,mu0] at h,fun id g b C L h=>by simp [Kr.bare,mu0] at h,fun id g b C L id' g' C' L' h=>by simp [Kr.bare,mu0] at h⟩
theorem back (hw:WR κ H w) {κ1:Kr} {w':World} {H1:Hp} (hw1:WR κ1 H1 w') (hf:Fr κ.bare.own κ.bare κ1 w w'):
  WR {κ1 with μ:=κ.μ} H w'∧Fr κ.own κ {κ1 with μ:=κ.μ} w w':=by
 have hno: ∀b,¬κ.bare.own b:=Kr.own_bare κ;have hkeep: ∀b,b<w.heap.size→w'.heap[b]? =w.heap[b]? :=fun b hb=>hf.keep b hb (hno b);refine ⟨⟨hw1.frz,hw1.mps,hw1.mmap,hw.len,fun id o h=> ?_,hw.dom,fun id g b C L h=>Nat.lt_of_lt_of_le (hw.blk _ _ _ _ _ h) hf.size,hw.sep⟩,?_⟩
 · refine (hw.obj _ _ h).carry hf.fext hf.mext (fun _ _ _ h=>h) (fun _=>rfl) (fun g b C L hm=>hkeep b (hw.blk _ _ _ _ _ hm)) (fun g b C L hm o hn=> ?_) (fun g b C L hm hn=> ?_)
   · cases hF:κ1.F b o with
     |none=>rfl
     | some v=>
       rcases hf.fnew _ _ _ hF with h|h|h
       · rw [show κ.F b o=some v from h] at hn;simp at hn
       · exact absurd h (hno b)
       · have:=hw.blk _ _ _ _ _ hm;omega
   · cases hM:κ1.M b with
     |none=>rfl
     | some v=>
       rcases hf.mnew _ _ hM with h|h|h
       · rw [show κ.M b=some v from h] at hn;simp at hn
       · exact absurd h (hno b)
       · have:=hw.blk _ _ _ _ _ hm;omega
 · exact ⟨hf.size,fun b hb _=>hkeep b hb,hf.fext,fun b o v h=>(hf.fnew b o v h).imp (fun h=>h) (fun h=>h.imp (fun h=>absurd h (hno b)) fun h=>h),hf.mext,
    fun b o h=>(hf.mnew b o h).imp (fun h=>h) (fun h=>h.imp (fun h=>absurd h (hno b)) fun h=>h),fun b h=> .inl h,fun _ _ _ h=>h,hf.os,hf.output,hf.tape⟩
theorem doPure_ok (hcf: ∀f args H,CallOK E P f args H (cf f args H)) {f:Nat} {args:List Val} {xs:Array Value} (hw:WR κ H w) (hg:GOK E κ) (hl:args.length=xs.size)
  (ha: ∀(i:Nat) (v:Val) (x:Value),args[i]? =some v→xs[i]? =some x→VK κ v x) (h:doPure cf f args H tm≠ .fail):
  InvOK P f xs w (OEndR κ w tm (doPure cf f args H tm)):=by
 unfold doPure at h⊢
 cases hm:mapH (pub depthP) args H with
 |none=>rw [hm] at h;simp at h
 | some r=>
   obtain ⟨args',H1⟩:=r;rw [hm] at h;simp only [fL_eq] at h⊢;have hX: ∀(i:Nat) (v:Val),args[i]? =some v→VK κ v ((fun i=>(xs[i]?).getD default) i):=by
    intro i v hv;have hi:i<xs.size:=by rw [←hl];exact (List.getElem?_eq_some_iff.1 hv).1
    have:=ha i v xs[i] hv (by simp [hi]);show VK κ v ((xs[i]?).getD default);rw [show (xs[i]?).getD default=xs[i] by simp [hi]];exact this
   obtain ⟨κ1,w1,f1,m1,n1,v1⟩:=mapH_ok (pub_ok depthP) args H args' H1 hm κ w _ hw hX;have hl':args'.length=xs.size:=by rw [n1,hl]
   have ha': ∀(i:Nat) (v:Val) (x:Value),args'[i]? =some v→xs[i]? =some x→VK κ1.bare v x:=by intro i v x hv hx;have:=v1 i v hv;simp only [hx,Option.getD_some] at this;exact this
   have hc:=hcf f args' Hp.empty;have back': ∀ {κ2:Kr} {w':World} {H2 H3:Hp} {u u':Val} {x:Value},WR κ2 H2 w'→Fr κ1.bare.own κ1.bare κ2 w w'→VK κ2 u x→pub depthP u H2=some (u',H3)→
     ∃κ3,WR κ3 H1 w'∧Fr κ.own κ κ3 w w'∧VK κ3 u' x:=by
    intro κ2 w' H2 H3 u u' x hw2 hf2 hu hp;obtain ⟨κ3,p1,p2,p3,p4⟩:=pub_ok _ _ _ _ _ hp κ2 w' x hw2 hu;obtain ⟨q1,q2⟩:=back w1 p1 (hf2.trans p2 hf2.onew);exact ⟨_,q1,f1.trans q2 (fun b hb=> .inl ((own_of_mu m1 b).1 hb)),p4.of_mu0⟩
   cases hr:cf f args' Hp.empty with
   |fail=>rw [hr] at h;simp at h
   | ret v H'=>
     rw [hr] at h hc;refine (hc (by simp) κ1.bare w xs w1.bare (show GOK E κ1.bare from fun g=>(hg.fr f1) g) hl' ha').mono fun e w' he=> ?_
     cases e with
     |outgrown=>exact he.elim
     |panicked chain=>obtain ⟨v1,H1,κ1,e1,_⟩:=he;simp at e1
     | returned x=>
       obtain ⟨v2,H2,κ2,e1,hw2,hf2,hv2⟩:=he;simp only [FRes.ret.injEq] at e1;obtain ⟨rfl,rfl⟩:=e1;simp only at h⊢;split
       · rename_i v3 H3 hp;obtain ⟨κ3,q1,q2,q3⟩:=back' hw2 hf2 hv2 hp;exact ⟨_,_,κ3,by simp only [fV_eq],q1,q2,q3⟩
       · rename_i hp;rw [hp] at h;simp at h
   | pan v H'=>
     rw [hr] at h hc;refine (hc (by simp) κ1.bare w xs w1.bare (show GOK E κ1.bare from fun g=>(hg.fr f1) g) hl' ha').mono fun e w' he=> ?_
     cases e with
     |outgrown=>exact he.elim
     |returned x=>obtain ⟨v1,H1,κ1,e1,_⟩:=he;simp at e1
     | panicked chain=>
       obtain ⟨v2,H2,κ2,e1,hw2,hf2,x,rest,rfl,hrest,hv2⟩:=he;simp only [FRes.pan.injEq] at e1;obtain ⟨rfl,rfl⟩:=e1;simp only at h⊢;split
       · rename_i v3 H3 hp;obtain ⟨κ3,q1,q2,q3⟩:=back' hw2 hf2 hv2 hp;exact ⟨_,_,κ3,by simp only [fV_eq],q1,q2,x,rest,rfl,hrest,q3⟩
       · rename_i hp;rw [hp] at h;simp at h
theorem doCall_ok (hcf: ∀f args H,CallOK E P f args H (cf f args H)) {f:Nat} {args:List Val} {xs:Array Value} {β:Nat→Option Nat} (hw:WR κ H w) (hg:GOK E κ) (hl:args.length=xs.size)
  (ha: ∀(i:Nat) (v:Val) (x:Value),args[i]? =some v→xs[i]? =some x→OV κ β tm v x) (h:doCall E cf f args H tm≠ .fail):
  InvOK P f xs w (OEndR κ w tm (doCall E cf f args H tm)):=by
 unfold doCall at h⊢;split at h
 case h_2=>simp at h
 rename_i hn;have ha': ∀(i:Nat) (v:Val) (x:Value),args[i]? =some v→xs[i]? =some x→VK κ v x:=fun i v x hv hx=>(ha i v x hv hx).toVK (List.all_eq_true.1 hn v (List.mem_of_getElem? hv));split at h
 · exact doPure_ok hcf hw hg hl ha' h
 · exact doPlain_ok hcf hw hg hl ha' h
end
section
variable (E:Env) (loc:Nat→Bool) (κ0:Kr) (w0:World) (D:Kr→Prop)
structure St (κ:Kr) (H:Hp) (w:World) (β:Nat→Option Nat) (tm:List Val) (ts:Array Value):Prop where
  wr:WR κ H w
  gok:GOK E κ
  tr:TR loc κ w β tm ts
  fr:Fr κ0.own κ0 κ w0 w
  lb: ∀s b,β s=some b→w0.heap.size≤b
  dk:D κ
  dm: ∀own κ κ' w w',D κ→Fr own κ κ' w w'→D κ'
def OutR (κ:Kr) (w:World) (β:Nat→Option Nat) (tm:List Val) (dst:Option Nat):Val→Value→Prop
 | .lv st cs,x=> ∃d b,dst=some d∧loc d=true∧(∀st' cs',tm[d]? =some (.lv st' cs')→st'<st)∧x= .pointer (some ⟨b,0,none⟩)∧LocR κ w b cs∧b<w.heap.size∧ ¬κ.own b∧(∀o,κ.F b o=none)∧κ.M b=none∧
  (∀s,β s≠some b)∧w0.heap.size≤b
 |v,x=>OV κ β tm v x
def Done (dst:Option Nat) (ts:Array Value) (res:ORes) (x:Value) (w':World):Prop:=
 ∃v tm' H' κ' β',res= .ok v tm' H'∧St E loc κ0 w0 D κ' H' w' β' tm' ts∧OutR loc w0 κ' w' β' tm' dst v x
def Panics (tm:List Val) (ts:Array Value) (β:Nat→Option Nat) (res:ORes) (chain:List PanicEntry) (w':World):Prop:=
 ∃v H' κ',res= .pan v H'∧St E loc κ0 w0 D κ' H' w' β tm ts∧ChainR κ' v chain
def OpOK (P:Program) (dst:Option Nat) (β:Nat→Option Nat) (tm:List Val) (ts:Array Value) (res:ORes):Result Next→Prop
 | .ok (.value x) w'=>Done E loc κ0 w0 D dst ts res x w'
 | .ok .skip w'=>Done E loc κ0 w0 D dst ts res undef w'
 | .ok (.enter g ys) w'=>Calls P g ys w' fun
  | .returned x,w''=>Done E loc κ0 w0 D dst ts res x w''
  | .panicked chain,w''=>Panics E loc κ0 w0 D tm ts β res chain w''
  | .outgrown,_=>False
 | .halt (.panic v) w'=>Panics E loc κ0 w0 D tm ts β res [{v,recovered:=false}] w'
 |_=>False
end
section
variable {E:Env} {P:Program} (hE:EnvOK E P) {loc:Nat→Bool} {κ0 κ:Kr} {w0 w:World} {D:Kr→Prop} {β:Nat→Option Nat} {tm:List Val} {H:Hp} {ts:Array Value} {dst:Option Nat}
theorem OutR.of_OV {v:Val} {x:Value} (h:OV κ β tm v x):OutR loc w0 κ w β tm dst v x:=by cases v<;>first|exact h|exact h.elim
theorem St.step {κ':Kr} {H':Hp} {w':World} (h:St E loc κ0 w0 D κ H w β tm ts) (hw:WR κ' H' w') (hf:Fr κ.own κ κ' w w'):St E loc κ0 w0 D κ' H' w' β tm ts:=
 ⟨hw,h.gok.fr hf,h.tr.fr hf,h.fr.trans hf h.fr.onew,h.lb,h.dm _ _ _ _ _ h.dk hf,h.dm⟩
theorem ex_v {s:Sem Value} {x:Value} {w':World} (h:s.run P w= .ok x w'):(do pure (.value (←s)):Sem Next).run P w= .ok (.value x) w':=
 (bind_ok h).trans (Sem.run_pure _ _ _)
theorem ex_u {s:Sem Unit} {w':World} (h:s.run P w= .ok () w'):(do s;pure .skip:Sem Next).run P w= .ok .skip w':=
 (bind_ok h).trans (Sem.run_pure _ _ _)
theorem op_value (st:St E loc κ0 w0 D κ H w β tm ts) {r:Option Val} {m:Sem Next} {s:Sem Value} (hm:m=(do pure (.value (←s)))) (h: ∀v,r=some v→ ∃y,s.run P w= .ok y w∧OV κ β tm v y) (hres:okV r tm H≠ .fail):
  OpOK E loc κ0 w0 D P dst β tm ts (okV r tm H) (m.run P w):=by
 cases r with
 |none=>exact absurd rfl hres
 | some v=>
   obtain ⟨y,h1,h2⟩:=h v rfl;rw [hm,ex_v h1];exact ⟨v,tm,H,κ,β,by simp [okV],st,.of_OV h2⟩
theorem op_heap (st:St E loc κ0 w0 D κ H w β tm ts) {m:Sem Next} {s:Sem Value} (hm:m=(do pure (.value (←s)))) {res:ORes}
  (h: ∃v H' κ' w' y,res= .ok v tm H'∧s.run P w= .ok y w'∧WR κ' H' w'∧Fr κ.own κ κ' w w'∧VK κ' v y):
  OpOK E loc κ0 w0 D P dst β tm ts res (m.run P w):=by
 obtain ⟨v,H',κ',w',y,h1,h2,h3,h4,h5⟩:=h;rw [hm,ex_v h2];exact ⟨v,tm,H',κ',β,h1,st.step h3 h4,.of_OV (OV.of_VK h5)⟩
theorem okVH_heap (st:St E loc κ0 w0 D κ H w β tm ts) {m:Sem Next} {s:Sem Value} (hm:m=(do pure (.value (←s)))) {r:Option (Val×Hp)}
  (h: ∀v H',r=some (v,H')→ ∃κ' w' y,s.run P w= .ok y w'∧WR κ' H' w'∧Fr κ.own κ κ' w w'∧VK κ' v y) (hres:okVH r tm≠ .fail):
  OpOK E loc κ0 w0 D P dst β tm ts (okVH r tm) (m.run P w):=by
 cases r with
 |none=>exact absurd rfl hres
 | some p=>
   obtain ⟨v,H'⟩:=p;obtain ⟨κ',w',y,h1,h2,h3,h4⟩:=h v H' rfl;exact op_heap st hm ⟨v,H',κ',w',y,rfl,h1,h2,h3,h4⟩
theorem run_storeAt {t:Nat} {i:TypeInfo} (hi:P.info? t=some i) {b off:Nat} {y:Value} {w':World} (hs:y.cells.size=i.size) (h:(storeCells ⟨b,off,none⟩ y.cells.toList).run P w= .ok () w'):
  (Instr.storeAt t (.pointer (some ⟨b,off,none⟩)) y).run P w= .ok () w':=by
 refine (bind_ok (a:=(⟨b,off,none⟩:Addr)) (w':=w) rfl).trans ?_;refine (bind_ok (run_size' hi)).trans ?_;exact (ite_neg (by simp [hs])).trans h
include hE in
theorem op_store (st:St E loc κ0 w0 D κ H w β tm ts) {t:Nat} {p u:Val} {x y:Value} (hp:OV κ β tm p x) (hu:OV κ β tm u y) (hres:storeP E t p u tm H≠ .fail):
  ∃w' tm' H',(Instr.storeAt t x y).run P w= .ok () w'∧storeP E t p u tm H= .ok (.tup []) tm' H'∧St E loc κ0 w0 D κ H' w' β tm' ts:=by
 unfold storeP at hres⊢;split at hres
 case h_2=>exact absurd rfl hres
 rename_i n hn;obtain ⟨i,hi,rfl⟩:=size_ok hE hn;unfold storeV at hres⊢;split at hres
 case isFalse=>exact absurd rfl hres
 rename_i hc;obtain ⟨⟨c1,c2⟩,c3⟩:=cells_ok hu hc.2;have hsz:y.cells.size=i.size:=by rw [←c1];exact hc.1
 rw [if_pos hc];split at hres
 · rename_i id gen off lim
   cases hr:storeH id gen off lim i.size u.cells tm H with
   |fail=>exact absurd hr hres
   |pan v H'=>unfold storeH at hr;split at hr<;>(try split at hr)<;>(try split at hr)<;>simp at hr
   | ok v tm' H'=>
     simp only [OV] at hp;obtain ⟨rfl,rfl,b,o,rfl,g1,g2,g3⟩:=storeH_ok (P:=P) (loc:=loc) (β:=β) st.wr hp ⟨c1,c2⟩ c3 hc.1 hr;exact ⟨_,_,_,run_storeAt hi hsz g1,rfl,st.step g2 g3⟩
 · rename_i slot stp off
   cases hr:storeL slot stp off u.cells tm H with
   |fail=>exact absurd hr hres
   |pan v H'=>unfold storeL at hr;split at hr<;>(try split at hr)<;>(try split at hr)<;>simp at hr
   | ok v tm' H'=>
     obtain ⟨rfl,rfl,b,rfl,g1,g2,g3,g4,g5⟩:=storeL_ok (P:=P) st.tr st.wr hp ⟨c1,c2⟩ c3 hr;refine ⟨_,_,_,run_storeAt hi hsz g1,rfl,g2,st.gok,g3,?_,st.lb,st.dk,st.dm⟩;obtain ⟨r1,r2,r3,r4⟩:=setCells_rest b y.cells.toList off w;have f1:Fr (fun b'=>b'=b∨κ.own b') κ κ w (w.setCells b off y.cells.toList):=
      ⟨by rw [r1];exact Nat.le_refl _,fun b' _ hn=>g5 b' (fun e=>hn (.inl e)),fun _ _ _ h=>h,fun _ _ _ h=> .inl h,fun _ _ h=>h,fun _ _ h=> .inl h,fun _ h=> .inl (.inr h),fun _ _ _ h=>h,r2,r3,r4⟩
     refine st.fr.trans f1 ?_;rintro b' (rfl|h)
     · exact .inr (st.lb _ _ g4)
     · exact st.fr.onew _ h
 · exact absurd rfl hres
theorem op_alloc (st:St E loc κ0 w0 D κ H w β tm ts) {m:Sem Next} {s:Sem Value} (hm:m=(do pure (.value (←s)))) {z:Option Val} {lo:Bool} (hlo: ∀d,dst=some d→lo=true→loc d=true) {el:Nat}
  (h: ∀z',z=some z'→ ∃y:Value,s.run P w= .ok (.pointer (some ⟨w.heap.size,0,none⟩)) (w.alloc (.cells y.cells el))∧OV κ β tm z' y) (hres:opAlloc lo dst el z tm H≠ .fail):
  OpOK E loc κ0 w0 D P dst β tm ts (opAlloc lo dst el z tm H) (m.run P w):=by
 unfold opAlloc at hres⊢;split at hres
 case h_2=>exact absurd rfl hres
 rename_i z' d;obtain ⟨y,hrun,hz⟩:=h z' rfl;split at hres
 case h_2=>exact absurd rfl hres
 rename_i hok;obtain ⟨hcr,hone⟩:=cells_ok hz hok;rw [hm,ex_v hrun];split at hres
 ·
  have hl:=hlo d rfl rfl;have hlr:LocR κ (w.alloc (.cells y.cells el)) w.heap.size z'.cells:=
   ⟨y.cells,el,0,0,by rw [alloc_heap,if_pos rfl],hcr.1.symm,hcr.2,fun o _=>by omega⟩
  have st':=st.step (st.wr.alloc (.cells y.cells el)) (Fr.alloc (.cells y.cells el));have hfresh: ∀s',β s'≠some w.heap.size:=fun s' e=>by have:=(st.tr.bfree _ _ e).1;omega
  have hown: ¬κ.own w.heap.size:=by rintro ⟨i,g,C,L,e⟩;have:=st.wr.blk _ _ _ _ _ e;omega
  have fin: ∀k,(∀st' cs',tm[d]? =some (.lv st' cs')→st'<k)→
    OpOK E loc κ0 w0 D P (some d) β tm ts (okV (some (.lv k z'.cells)) tm H) (.ok (.value (.pointer (some ⟨w.heap.size,0,none⟩))) (w.alloc (.cells y.cells el))):=by
   intro k hk;refine ⟨.lv k z'.cells,tm,H,κ,β,by simp [okV],st',d,w.heap.size,rfl,hl,hk,rfl,hlr,by simp,hown,fun o=>Kr.none_new st.wr o,Kr.noneM_new st.wr,hfresh,st.fr.size⟩
  unfold newLocal;have hgt:=getT_eq tm d;split
  · rename_i s' c' hg;refine fin (s'+1) (fun st' cs' e=> ?_);rw [hgt,e] at hg;simp only [Option.getD_some,Val.lv.injEq] at hg;omega
  · rename_i hg;refine fin 0 (fun st' cs' e=> ?_);rw [hgt,e] at hg;exact absurd rfl (hg st' cs')
 · cases hr:newBox (genOf el) z'.cells tm H with
   |fail=>exact absurd hr hres
   |pan v H'=>simp [newBox] at hr
   | ok v tm' H'=>
     obtain ⟨rfl,κ',g1,g2,g3⟩:=newBox_ok (el:=el) st.wr hcr (fun t ht=>by rw [tyN_genOf] at ht;exact Nat.succ.inj ht) hr;exact ⟨v,tm',H',κ',β,rfl,st.step g1 g2,.of_OV (OV.of_VK g3)⟩
end
section
variable {E:Env} {P:Program} (hE:EnvOK E P) {loc:Nat→Bool} {κ0 κ:Kr} {w0 w:World} {D:Kr→Prop} {β:Nat→Option Nat} {tm:List Val} {H:Hp} {ts:Array Value} {dst:Option Nat} {cf:CallF}
theorem opds_ok {a:Act} (hop: ∀x,OV κ β tm (opd E tm x) (a.eval x)) (xs:Array Operand):
  (xs.toList.map (opd E tm)).length=(xs.map a.eval).size∧ ∀(i:Nat) (v:Val) (x:Value),(xs.toList.map (opd E tm))[i]? =some v→(xs.map a.eval)[i]? =some x→OV κ β tm v x:=by
 refine ⟨by simp,fun i v x hv hx=> ?_⟩;simp only [List.getElem?_map,Option.map_eq_some_iff] at hv;rw [Array.getElem?_map,Option.map_eq_some_iff] at hx;obtain ⟨r,hr,rfl⟩:=hv;obtain ⟨r',hr',rfl⟩:=hx;rw [Array.getElem?_toList,hr'] at hr;simp only [Option.some.injEq] at hr;subst hr;exact hop _
theorem inv_op (st:St E loc κ0 w0 D κ H w β tm ts) {f:Nat} {xs:Array Value} {res:ORes} (h:InvOK P f xs w (OEndR κ w tm res)):OpOK E loc κ0 w0 D P dst β tm ts res ((callFunc f xs).run P w):=by
 have ret: ∀x w',OEndR κ w tm res (.returned x) w'→Done E loc κ0 w0 D dst ts res x w':=by rintro x w' ⟨v,H',κ',h1,h2,h3,h4⟩;exact ⟨v,tm,H',κ',β,h1,st.step h2 h3,.of_OV (OV.of_VK h4)⟩
 rcases h with ⟨g,ys,h1,h2⟩|⟨x,w',h1,h2⟩
 · rw [h1];refine h2.mono fun e w' he=> ?_
   cases e with
   |outgrown=>exact he.elim
   |returned x=>exact ret _ _ he
   | panicked chain=>
     obtain ⟨v,H',κ',h1,h2,h3,h4⟩:=he;exact ⟨v,H',κ',h1,st.step h2 h3,h4⟩
 · rw [h1];exact ret _ _ h2
theorem op_done (st:St E loc κ0 w0 D κ H w β tm ts) {m:Sem Next} {x:Value} (hm:m.run P w= .ok (.value x) w) {v:Val} (hv:OV κ β tm v x):
  OpOK E loc κ0 w0 D P dst β tm ts (.ok v tm H) (m.run P w):=by
 rw [hm];exact ⟨v,tm,H,κ,β,rfl,st,.of_OV hv⟩
theorem maxL_ok (k:IntKind): ∀(l:List Val) (a:Int) (ys:List Value) (v:Val),l.length=ys.length→(∀(i:Nat) (v:Val) (x:Value),l[i]? =some v→ys[i]? =some x→OV κ β tm v x)→
  maxL k a l=some v→ ∃z:Value,(ys.foldlM Builtin.max2 (.int k a)).run P w= .ok z w∧VK κ v z:=by
 intro l
 induction l with
 | nil=>
   intro a ys v hl _ h
   match ys,hl with
   | [],_=>
     simp only [maxL,Option.some.injEq] at h;subst h;exact ⟨_,Sem.run_pure _ _ _,.int _ _⟩
 | cons u l ih=>
   intro a ys v hl hv h
   match ys,hl with
   | y ::ys,hl=>
     have h0:=hv 0 u y rfl rfl;have hr:=fun i v x (h1:l[i]? =some v) (h2:ys[i]? =some x)=>hv (i+1) v x (by simpa using h1) (by simpa using h2);unfold maxL at h;split at h
     · rename_i heq;cases heq
     · rename_i a' _ _ k' b l' heq;cases heq;split at h
       case isFalse=>cases h
       rename_i e;subst e;simp only [OV] at h0;cases h0;rw [List.foldlM_cons];split at h
       · rename_i hc;obtain ⟨z,z1,z2⟩:=ih b ys v (by simpa using hl) hr h;refine ⟨z,?_,z2⟩;refine (bind_ok (a:= .int k b) (w':=w) ?_).trans z1;simp only [Builtin.max2,if_pos hc];exact Sem.run_pure _ _ _
       · rename_i hc;obtain ⟨z,z1,z2⟩:=ih a' ys v (by simpa using hl) hr h;refine ⟨z,?_,z2⟩;refine (bind_ok (a:= .int k a') (w':=w) ?_).trans z1;simp only [Builtin.max2,if_neg hc];exact Sem.run_pure _ _ _
     · cases h
theorem minL_ok (k:IntKind): ∀(l:List Val) (a:Int) (ys:List Value) (v:Val),l.length=ys.length→(∀(i:Nat) (v:Val) (x:Value),l[i]? =some v→ys[i]? =some x→OV κ β tm v x)→
  minL k a l=some v→ ∃z:Value,(ys.foldlM Builtin.min2 (.int k a)).run P w= .ok z w∧VK κ v z:=by
 intro l
 induction l with
 | nil=>
   intro a ys v hl _ h
   match ys,hl with
   | [],_=>
     simp only [minL,Option.some.injEq] at h;subst h;exact ⟨_,Sem.run_pure _ _ _,.int _ _⟩
 | cons u l ih=>
   intro a ys v hl hv h
   match ys,hl with
   | y ::ys,hl=>
     have h0:=hv 0 u y rfl rfl;have hr:=fun i v x (h1:l[i]? =some v) (h2:ys[i]? =some x)=>hv (i+1) v x (by simpa using h1) (by simpa using h2);unfold minL at h;split at h
     · rename_i heq;cases heq
     · rename_i a' _ _ k' b l' heq;cases heq;split at h
       case isFalse=>cases h
       rename_i e;subst e;simp only [OV] at h0;cases h0;rw [List.foldlM_cons];split at h
       · rename_i hc;obtain ⟨z,z1,z2⟩:=ih b ys v (by simpa using hl) hr h;refine ⟨z,?_,z2⟩;refine (bind_ok (a:= .int k b) (w':=w) ?_).trans z1;simp only [Builtin.min2,if_pos hc];exact Sem.run_pure _ _ _
       · rename_i hc;obtain ⟨z,z1,z2⟩:=ih a' ys v (by simpa using hl) hr h;refine ⟨z,?_,z2⟩;refine (bind_ok (a:= .int k a') (w':=w) ?_).trans z1;simp only [Builtin.min2,if_neg hc];exact Sem.run_pure _ _ _
     · cases h
include hE in
theorem builtin_ok (st:St E loc κ0 w0 D κ H w β tm ts) {b:Builtin} {ats:Array Nat} {ty:Nat} {cs:Array Bool} {args:List Val} {xs:Array Value} (hl:args.length=xs.size)
  (ha: ∀(i:Nat) (v:Val) (x:Value),args[i]? =some v→xs[i]? =some x→OV κ β tm v x) (hres:opBuiltin E b ats.toList args tm H≠ .fail):
  OpOK E loc κ0 w0 D P dst β tm ts (opBuiltin E b ats.toList args tm H) ((builtin b ats ty cs xs).run P w):=by
 have one: ∀ {v:Val},args= [v]→ ∃x,xs= #[x]∧OV κ β tm v x:=by
  rintro v rfl;have h1:xs.size=1:=by rw [←hl];rfl
  obtain ⟨l⟩:=xs
  match l,h1 with
  | [x],_=>exact ⟨x,rfl,ha 0 v x rfl rfl⟩
 have two: ∀ {v u:Val},args= [v,u]→ ∃x y,xs= #[x,y]∧OV κ β tm v x∧OV κ β tm u y:=by
  rintro v u rfl;have h1:xs.size=2:=by rw [←hl];rfl
  obtain ⟨l⟩:=xs
  match l,h1 with
  | [x,y],_=>exact ⟨x,y,rfl,ha 0 v x rfl rfl,ha 1 u y rfl rfl⟩
 have cons: ∀ {v:Val} {l:List Val},args=v::l→ ∃x ys,xs=(x::ys).toArray∧OV κ β tm v x∧l.length=ys.length∧(∀(i:Nat) (v:Val) (x:Value),l[i]? =some v→ys[i]? =some x→OV κ β tm v x):=by
  rintro v l rfl;obtain ⟨m⟩:=xs
  match m,hl with
  |x::ys,hl=>exact ⟨x,ys,rfl,ha 0 v x rfl rfl,by simpa using hl,fun i v x hv hx=>ha (i+1) v x (by simpa using hv) (by simpa using hx)⟩
 have lst: ∀ {l:List Nat},ats.toList=l→ats=l.toArray:=by rintro l rfl;simp
 unfold opBuiltin at hres⊢;split at hres
 ·
  split at hres
  case h_2=>exact absurd rfl hres
  rename_i v;obtain ⟨x,rfl,hx⟩:=one rfl;unfold opPanic at hres⊢;split at hres
  case h_2=>exact absurd rfl hres
  rename_i t u;simp only [OV] at hx;have hx':=hx
  cases hx with
  | iface _ _ y hu=>
    have e:(builtin .panic ats ty cs #[.iface t y]).run P w= .halt (.panic (.iface t y)) w:=rfl;rw [e];exact ⟨_,H,κ,rfl,st,_,[],rfl,by simp,hx'⟩
 · rename_i hb;unfold builtinP at hres⊢;split at hres
   · rename_i t x hts;obtain ⟨y,rfl,hy⟩:=one rfl;rw [lst hts];refine op_value st rfl (fun v hv=> ?_) hres;obtain ⟨z,z1,z2⟩:=lenP_ok hE (ty:=ty) st.wr hy hv;exact ⟨z,z1,OV.of_VK z2⟩
   · rename_i t x hts;obtain ⟨y,rfl,hy⟩:=one rfl;rw [lst hts];refine op_value st rfl (fun v hv=> ?_) hres;obtain ⟨z,z1,z2⟩:=capP_ok hE (ty:=ty) hy hv;exact ⟨z,z1,OV.of_VK z2⟩
   · rename_i t1 t2 s x hts;obtain ⟨y,z,rfl,hy,hz⟩:=two rfl;rw [lst hts];exact okVH_heap st rfl (fun v H' hv=>appendP_ok hE st.wr hy hz hv) hres
   · rename_i t1 tr s x hts;obtain ⟨y,z,rfl,hy,hz⟩:=two rfl;refine okVH_heap st rfl (fun v H' hv=> ?_) hres;obtain ⟨w',r,g1,g2,g3,g4⟩:=copyP_ok hE (ats:=ats) (t1:=t1) (ty:=ty) (by rw [lst hts];rfl) st.wr hy hz hv;exact ⟨κ,w',r,g1,g2,g3,g4⟩
   · rename_i t x hts;obtain ⟨y,rfl,hy⟩:=one rfl;refine okVH_heap st rfl (fun v H' hv=> ?_) hres;obtain ⟨w',r,g1,g2,g3,g4⟩:=clearP_ok hE (ats:=ats) (t:=t) (ty:=ty) (by rw [lst hts];rfl) st.wr hy hv;exact ⟨κ,w',r,g1,g2,g3,g4⟩
   · rename_i x _;obtain ⟨y,rfl,hy⟩:=one rfl;refine op_value st rfl (fun v hv=> ?_) hres;obtain ⟨z,z1,z2⟩:=sliceDataP_ok (P:=P) (w:=w) (at_:=ats) (ty:=ty) hy hv;exact ⟨z,z1,OV.of_VK z2⟩
   · rename_i tp tr p n hts;obtain ⟨y,z,rfl,hy,hz⟩:=two rfl;refine okVH_heap st rfl (fun v H' hv=> ?_) hres;obtain ⟨w',r,g1,g2,g3,g4⟩:=unsafeStrP_ok hE (t2:=0) (at_:=ats) (tp:=tp) (ty:=ty) st.wr (by rw [lst hts];rfl) hy hz hv;exact ⟨κ,w',r,g1,g2,g3,g4⟩
   · rename_i k a l;obtain ⟨y,ys,rfl,hy,hl',hys⟩:=cons rfl;simp only [OV] at hy;cases hy;refine op_value st rfl (fun v hv=> ?_) hres;obtain ⟨z,z1,z2⟩:=minL_ok (P:=P) (κ:=κ) (w:=w) (tm:=tm) (β:=β) k l a ys v hl' hys hv;exact ⟨z,z1,OV.of_VK z2⟩
   · rename_i k a l;obtain ⟨y,ys,rfl,hy,hl',hys⟩:=cons rfl;simp only [OV] at hy;cases hy;refine op_value st rfl (fun v hv=> ?_) hres;obtain ⟨z,z1,z2⟩:=maxL_ok (P:=P) (κ:=κ) (w:=w) (tm:=tm) (β:=β) k l a ys v hl' hys hv;exact ⟨z,z1,OV.of_VK z2⟩
   · exact absurd rfl hres
include hE in
theorem evalOp_ok (hcf: ∀f args H,CallOK E P f args H (cf f args H)) {a:Act} {fid:Nat} (hloc:loc=E.loc fid) {o:Oper} (hdst:dst=o.dst) (st:St E loc κ0 w0 D κ H w β tm a.tmps)
  (hres:evalOp E cf fid o tm H≠ .fail):OpOK E loc κ0 w0 D P dst β tm a.tmps (evalOp E cf fid o tm H) ((execOp a.eval o).run P w):=by
 have hop: ∀x,OV κ β tm (opd E tm x) (a.eval x):=opd_ok st.tr st.gok;have hlo: ∀d,dst=some d→locO E fid o.dst=true→loc d=true:=by rintro d rfl h;rw [←hdst] at h;rw [hloc];exact h
 have hopt: ∀x:Option Operand,BR κ β tm (x.map (opd E tm)) (x.map a.eval):=by
  intro x
  cases x with
  |none=>trivial
  |some x=>exact hop x
 have mv: ∀x:Operand,okV (some (opd E tm x)) tm H≠ .fail→OpOK E loc κ0 w0 D P dst β tm a.tmps (okV (some (opd E tm x)) tm H) ((pure (.value (a.eval x)):Sem Next).run P w):=by intro x _;rw [show okV (some (opd E tm x)) tm H= .ok (opd E tm x) tm H by simp [okV]];exact op_done st (Sem.run_pure _ _ _) (hop x)
 unfold evalOp at hres⊢;unfold execOp
 cases ho:o.op with
 |move x=>simp only [ho] at hres⊢;exact mv x hres
 |assign x=>simp only [ho] at hres⊢;exact mv x hres
 | pick c x y=>
   simp only [ho] at hres⊢;have hc:=hop c;unfold opPick at hres⊢;split at hres
   · rename_i e;rw [e] at hc;simp only [OV] at hc;generalize a.eval c=cv at hc⊢;cases hc;exact mv x hres
   · rename_i e;rw [e] at hc;simp only [OV] at hc;generalize a.eval c=cv at hc⊢;cases hc;exact mv y hres
   · exact absurd rfl hres
 | alloc el=>
   simp only [ho] at hres⊢;rw [←hdst] at hres⊢;refine op_alloc st rfl (fun d hd h=>hlo d hd (by rw [←hdst];exact h)) (el:=el) (fun z hz=> ?_) hres;obtain ⟨i,y,hi,hy,hr⟩:=zero_ok hE hz;refine ⟨y,?_,OV.of_VK (hr _ _ _)⟩;refine (bind_ok (run_zero' hi hy)).trans ?_;refine (bind_ok (a:=⟨w.heap.size,0,none⟩) (w':=w.alloc (.cells y.cells el)) ?_).trans (Sem.run_pure _ _ _);simp only [newVar,newRow,Sem.run_bind,run_newObj,Result.andThen_ok,Sem.run_pure,World.alloc_eq]
 | box el x=>
   simp only [ho] at hres⊢;rw [←hdst] at hres⊢;refine op_alloc st rfl (fun d hd h=>hlo d hd (by rw [←hdst];exact h)) (el:=el) (fun z hz=> ?_) hres;simp only [Option.some.injEq] at hz;subst hz;refine ⟨a.eval x,?_,hop x⟩;refine (bind_ok (a:=⟨w.heap.size,0,none⟩) (w':=w.alloc (.cells (a.eval x).cells el)) ?_).trans (Sem.run_pure _ _ _);simp only [newVar,newRow,Sem.run_bind,run_newObj,Result.andThen_ok,Sem.run_pure,World.alloc_eq]
 | build t parts=>
   simp only [ho] at hres⊢;refine op_value st rfl (fun v hv=> ?_) hres;obtain ⟨p1,p2⟩:=parts_map hop parts;obtain ⟨z,z1,z2⟩:=buildP_ok hE (w:=w) p1 p2 (fun z hz=>(zero_good hE hz).1) hv;exact ⟨z,z1,OV.of_VK z2⟩
 | buildSlice t len parts=>
   simp only [ho] at hres⊢;refine okVH_heap st rfl (fun v H' hv=> ?_) hres;obtain ⟨p1,p2⟩:=parts_map hop parts;exact buildSliceP_ok hE st.wr p1 p2 hv
 | load t x=>
   simp only [ho] at hres⊢;refine op_value st rfl (fun v hv=> ?_) hres;obtain ⟨z,z1,z2⟩:=loadP_ok hE st.wr st.tr (hop x) hv;exact ⟨z,z1,OV.of_VK z2⟩
 | store t x y=>
   simp only [ho] at hres⊢;obtain ⟨w',tm',H',g1,g2,g3⟩:=op_store hE st (hop x) (hop y) hres;rw [ex_u g1,g2];exact ⟨_,tm',H',κ,β,rfl,g3,.of_OV (OV.of_VK (.tup [] #[] rfl (by simp)))⟩
 | nilCheck x=>
   simp only [ho] at hres⊢;have hx:=hop x;unfold opNilCheck at hres⊢;split at hres
   · exact absurd rfl hres
   · exact absurd rfl hres
   · exact absurd rfl hres
   · exact absurd rfl hres
   · rename_i f fa fc e;rw [e] at hx;simp only [OV] at hx;generalize a.eval x=xv at hx⊢;have hx':=hx;cases hx;exact ⟨_,tm,H,κ,β,by simp [okV],st,.of_OV (OV.of_VK hx')⟩
   · exact absurd rfl hres
   · rename_i n1 n2 n3 n6 n4 n5;rw [show okV (some (opd E tm x)) tm H= .ok (opd E tm x) tm H by simp [okV]];refine op_done st ?_ hx;generalize opd E tm x=u at hx n1 n2 n3 n4 n5 n6;generalize a.eval x=xv at hx⊢
     cases u with
     |lp s st' off=>obtain ⟨⟨b,rfl,_⟩,_⟩:=hx;rfl
     |lv=>exact hx.elim
     |bad=>exact absurd rfl n6
     |_=>simp only [OV] at hx;cases hx<;>first|rfl|exact absurd rfl n1|exact absurd rfl n2|exact absurd rfl n3|exact absurd rfl (n5 _ _ _)
 | binOp op t x y p=>
   simp only [ho] at hres⊢;refine op_value st rfl (fun v hv=> ?_) hres;obtain ⟨z,z1,z2⟩:=binP_ok hE (w:=w) x y (hop x) (hop y) hv;exact ⟨z,z1,OV.of_VK z2⟩
 | unOp op t x=>
   simp only [ho] at hres⊢;refine op_value st rfl (fun v hv=> ?_) hres;obtain ⟨z,z1,z2⟩:=unP_ok (P:=P) (w:=w) (hop x) hv;exact ⟨z,z1,OV.of_VK z2⟩
 | convert s d x=>
   simp only [ho] at hres⊢;refine op_value st rfl (fun v hv=> ?_) hres;obtain ⟨z,z1,z2⟩:=convertP_ok hE st.wr (hop x) hv;exact ⟨z,z1,OV.of_VK z2⟩
 | makeInterface t x=>
   simp only [ho] at hres⊢;unfold opMakeIface at hres⊢;split at hres
   · exact absurd rfl hres
   · rename_i d hd1 hd;have hu:=und_ok hE hd;split at hres
     · rename_i hn;simp only [fV_eq,hn,if_true];refine op_done st (ex_v ?_) (OV.of_VK (.iface t _ _ ((hop x).toVK hn)));refine (bind_ok (run_underlying' hu)).trans ?_;cases d<;>first|rfl|exact absurd rfl (hd1 _)
     · exact absurd rfl hres
   · exact absurd rfl hres
 | makeMap t r=>
   simp only [ho] at hres⊢;unfold opMakeMapO at hres⊢;split at hres
   · cases hr:opMakeMap tm H with
     |fail=>exact absurd hr hres
     |pan v H'=>simp [opMakeMap] at hr
     | ok v tm' H'=>
       obtain ⟨rfl,κ',w',y,g1,g2,g3,g4⟩:=opMakeMap_ok (P:=P) (t:=t) st.wr hr;exact op_heap st rfl ⟨v,H',κ',w',y,rfl,g1,g2,g3,g4⟩
   · exact absurd rfl hres
 | makeSlice t l c=>
   simp only [ho] at hres⊢
   cases hr:opMakeSlice E t (opd E tm l) (opd E tm c) tm H with
   |fail=>exact absurd hr hres
   |pan v H'=>unfold opMakeSlice at hr;split at hr<;>(try split at hr)<;>(try split at hr)<;>simp at hr
   | ok v tm' H'=>
     obtain ⟨rfl,κ',w',y,g1,g2,g3,g4⟩:=opMakeSlice_ok hE st.wr (hop l) (hop c) hr;exact op_heap st rfl ⟨v,H',κ',w',y,rfl,g1,g2,g3,g4⟩
 | slice t x l h m=>
   simp only [ho] at hres⊢;unfold opSlice at hres⊢;split at hres
   · exact absurd rfl hres
   · exact absurd rfl hres
   · rename_i q1 q2;refine op_value st rfl (fun v hv=> ?_) hres;have hv': ∃z,(Instr.slice t (a.eval x) (l.map a.eval) (h.map a.eval) (m.map a.eval)).run P w= .ok z w∧VK κ v z:=by
      unfold orV at hv;split at hv
      · rename_i v' hv';simp only [Option.some.injEq] at hv;subst hv;exact sliceP_ok hE (w:=w) (hop x) (hopt l) (hopt h) (hopt m) hv'
      · exact sliceMore_ok hE (w:=w) st.wr (hop x) (hopt l) (hopt h) (hopt m) hv
     obtain ⟨z,z1,z2⟩:=hv';refine ⟨z,?_,OV.of_VK z2⟩
     cases hd:und E t with
     |none=>simp [orV,sliceP,sliceMore,hd] at hv
     | some d=>
       refine (bind_ok (run_underlying' (und_ok hE hd))).trans ?_;rw [hd] at q1;cases d<;>first|exact z1|exact absurd rfl (q1 _ _)
 | fieldAddr s x f=>
   simp only [ho] at hres⊢;exact op_value st rfl (fun v hv=>fieldAddrP_ok hE (hop x) hv) hres
 | field t x f=>
   simp only [ho] at hres⊢;exact op_value st rfl (fun v hv=>fieldP_ok hE (hop x) hv) hres
 | indexAddr t x i=>
   simp only [ho] at hres⊢;exact op_value st rfl (fun v hv=>indexAddrP_ok hE (hop x) (hop i) hv) hres
 | index t x i=>
   simp only [ho] at hres⊢;exact op_value st rfl (fun v hv=>indexP_ok hE (hop x) (hop i) hv) hres
 | lookup t m k ok=>
   simp only [ho] at hres⊢;refine op_value st rfl (fun v hv=> ?_) hres;obtain ⟨z,z1,z2⟩:=lookupP_ok hE st.wr (hop m) (hop k) hv;exact ⟨z,z1,OV.of_VK z2⟩
 | mapUpdate t m k v=>
   simp only [ho] at hres⊢
   cases hr:opMapUpdate E t (opd E tm m) (opd E tm k) (opd E tm v) tm H with
   |fail=>exact absurd hr hres
   |pan v H'=>unfold opMapUpdate at hr;split at hr<;>(try split at hr)<;>simp at hr
   | ok u tm' H'=>
     obtain ⟨rfl,rfl,w',g1,g2,g3⟩:=opMapUpdate_ok hE st.wr (hop m) (hop k) (hop v) hr;rw [ex_u g1];exact ⟨_,_,H',κ,β,rfl,st.step g2 g3,.of_OV (OV.of_VK (.tup [] #[] rfl (by simp)))⟩
 | insert t m k v=>
   simp only [ho] at hres⊢
   cases hr:opMapUpdate E t (opd E tm m) (opd E tm k) (opd E tm v) tm H with
   |fail=>exact absurd hr hres
   |pan v H'=>unfold opMapUpdate at hr;split at hr<;>(try split at hr)<;>simp at hr
   | ok u tm' H'=>
     obtain ⟨rfl,rfl,w',g1,g2,g3⟩:=opMapUpdate_ok hE st.wr (hop m) (hop k) (hop v) hr;rw [ex_u g1];exact ⟨_,_,H',κ,β,rfl,st.step g2 g3,.of_OV (OV.of_VK (.tup [] #[] rfl (by simp)))⟩
 | range t x=>
   simp only [ho] at hres⊢
   cases hd:und E t with
   |none=>rw [hd] at hres;exact absurd rfl hres
   | some d=>
     rw [hd] at hres
     cases hr:opRange (some d) (opd E tm x) tm H with
     |fail=>exact absurd hr hres
     |pan v H'=>unfold opRange at hr;split at hr<;>simp at hr
     | ok v tm' H'=>
       obtain ⟨rfl,κ',w',y,g1,g2,g3,g4⟩:=opRange_ok (und_ok hE hd) st.wr (hop x) hr;exact op_heap st rfl ⟨v,H',κ',w',y,rfl,g1,g2,g3,g4⟩
 | next x s=>
   simp only [ho] at hres⊢;unfold opNextO at hres⊢;split at hres
   · cases hr:opNext (opd E tm x) tm H with
     |fail=>exact absurd hr hres
     |pan v H'=>unfold opNext nextIn at hr;split at hr<;>(try split at hr)<;>(try split at hr)<;>simp at hr
     | ok v tm' H'=>
       obtain ⟨e,w',y,g1,g2,g3,g4⟩:=opNext_ok (ty:=o.type) st.wr (hop x) hr;exact op_heap st rfl ⟨v,H',κ,w',y,by rw [e],g1,g2,g3,g4⟩
   · exact absurd rfl hres
 | typeAssert x xt t ok=>
   simp only [ho] at hres⊢;refine op_value st rfl (fun v hv=> ?_) hres;obtain ⟨z,z1,z2⟩:=assertP_ok hE (w:=w) (hop x) hv;exact ⟨z,z1,OV.of_VK z2⟩
 | extract x i=>
   simp only [ho] at hres⊢;have hx:=hop x;unfold opExtract at hres⊢;split at hres
   · rename_i vs e;rw [e] at hx;simp only [OV] at hx;generalize a.eval x=xv at hx⊢
     cases hx with
     | tup _ xs h1 h2=>
       refine op_value st rfl (fun v hv=> ?_) hres;have hi:i<xs.size:=by rw [←h1];exact (List.getElem?_eq_some_iff.1 hv).1
       have hxi:xs[i]? =some xs[i]:=by simp [hi]
       refine ⟨xs[i],?_,OV.of_VK (h2 i v _ hv hxi)⟩;simp only [Instr.extract,hxi,Sem.run_pure]
   · exact absurd rfl hres
 | panic x=>
   simp only [ho] at hres⊢;have hx:=hop x;unfold opPanic at hres⊢;split at hres
   · rename_i t u e;rw [e] at hx;simp only [OV] at hx;generalize a.eval x=xv at hx⊢;have hx':=hx
     cases hx with
     | iface _ _ y hu=>
       exact ⟨_,H,κ,rfl,st,_,[],rfl,by simp,hx'⟩
   · exact absurd rfl hres
 | makeFunc f xs ys=>
   simp only [ho] at hres⊢;obtain ⟨x1,x2⟩:=opds_ok hop xs;obtain ⟨y1,y2⟩:=opds_ok hop ys;unfold opMakeFn at hres⊢;split at hres
   case h_2=>exact absurd rfl hres
   rename_i f;unfold opMakeFunc at hres⊢;have hn:((xs.toList.map (opd E tm)).all noLoc&&(ys.toList.map (opd E tm)).all noLoc)=true:=by
    split at hres
    · assumption
    · exact absurd rfl hres
   rw [if_pos hn] at hres⊢;simp only [Bool.and_eq_true] at hn;have hv:VK κ (.fn (.func f) (xs.toList.map (opd E tm)) (ys.toList.map (opd E tm))) (.func (.func f) (xs.map a.eval) (ys.map a.eval)):=
    .fn _ _ _ _ _ x1 y1 (fun i v x h1 h2=>(x2 i v x h1 h2).toVK (List.all_eq_true.1 hn.1 v (List.mem_of_getElem? h1))) (fun i v x h1 h2=>(y2 i v x h1 h2).toVK (List.all_eq_true.1 hn.2 v (List.mem_of_getElem? h1)))
   have hrun:(Instr.makeFunc (.func f) (xs.map a.eval) (ys.map a.eval)).run P w= .ok (.func (.func f) (xs.map a.eval) (ys.map a.eval)) w:=Sem.run_pure _ _ _;by_cases hz:E.frz f=true
   · rw [if_pos hz] at hres⊢;refine okVH_heap st rfl (fun v H' hp=> ?_) hres;obtain ⟨κ',p1,p2,p3,p4⟩:=pub_ok _ _ _ _ _ hp κ w _ st.wr hv;exact ⟨κ',w,_,hrun,p1,p2,p4.of_mu0⟩
   · rw [if_neg hz] at hres⊢;exact op_value st rfl (fun v hv'=>by simp only [Option.some.injEq] at hv';subst hv';exact ⟨_,hrun,OV.of_VK hv⟩) hres
 | call c =>
   simp only [ho] at hres⊢;obtain ⟨x1,x2⟩:=opds_ok hop c.args;unfold opCall at hres⊢;unfold resolve
   cases hc:c.callee with
   |invoke r n=>rw [hc] at hres;exact absurd rfl hres
   | builtin b=>
     rw [hc] at hres;simp only at hres⊢;have e: ∀cs:Array Bool,(do let d←(pure {target:=Target.builtin b c.argTypes o.type cs,args:=c.args.map a.eval}:Sem Deferred);invoke d.target d.args:Sem Next).run P w=(builtin b c.argTypes o.type cs (c.args.map a.eval)).run P w:=by intro cs;refine (bind_ok (Sem.run_pure _ _ _)).trans rfl
     rw [e];exact builtin_ok hE st x1 x2 hres
   | value f=>
     rw [hc] at hres;simp only at hres⊢;have hf:=hop f;unfold opCallV at hres⊢;split at hres
     · rename_i g first cap e
       rw [e] at hf;simp only [OV] at hf;generalize a.eval f=fv at hf⊢
       cases hf with
       | fn _ _ _ fs ys h1 h2 h3 h4=>
         simp only [fL_eq] at hres⊢;have app: ∀ {l m:List Val} {xs ys:Array Value},l.length=xs.size→m.length=ys.size→(∀(i:Nat) (v:Val) (x:Value),l[i]? =some v→xs[i]? =some x→OV κ β tm v x)→(∀(i:Nat) (v:Val) (x:Value),m[i]? =some v→ys[i]? =some x→OV κ β tm v x)→
           (l++m).length=(xs++ys).size∧ ∀(i:Nat) (v:Val) (x:Value),(l++m)[i]? =some v→(xs++ys)[i]? =some x→OV κ β tm v x:=by
          intro l m xs ys e1 e2 q1 q2;refine ⟨by simp [e1,e2],fun i v x hv hx=> ?_⟩;rw [List.getElem?_append] at hv;rw [Array.getElem?_append] at hx;rw [e1] at hv;split at hv
          · rename_i hc;rw [if_pos hc] at hx;exact q1 _ _ _ hv hx
          · rename_i hc;rw [if_neg hc] at hx;exact q2 _ _ _ hv hx
         obtain ⟨p1,p2⟩:=app x1 h2 x2 (fun i v x hv hx=>OV.of_VK (h4 i v x hv hx));obtain ⟨r1,r2⟩:=app h1 p1 (fun i v x hv hx=>OV.of_VK (h3 i v x hv hx)) p2;have he:(do let d←Deferred.ofValue (.func (.func g) fs ys) (c.args.map a.eval);invoke d.target d.args:Sem Next).run P w=(callFunc g (fs++(c.args.map a.eval++ys))).run P w:=by refine (bind_ok (a:=({target:= .fn (.func g) ys,args:=fs++c.args.map a.eval}:Deferred)) (w':=w) (Sem.run_pure _ _ _)).trans ?_;show (callFunc g ((fs++c.args.map a.eval)++ys)).run P w=_;rw [Array.append_assoc]
         rw [he];exact inv_op st (doCall_ok hcf st.wr st.gok r1 r2 hres)
     · exact absurd rfl hres
 |_=>simp only [ho] at hres⊢;exact absurd rfl hres
end
section
variable {E:Env} {P:Program} (hE:EnvOK E P) {loc:Nat→Bool} {κ0 κ:Kr} {w0 w:World} {D:Kr→Prop} {β:Nat→Option Nat} {tm:List Val} {H:Hp} {dst:Option Nat} {cf:CallF}
theorem setT_out (tm:List Val) (d:Nat) (v:Val) (h:tm.length≤d):setT tm d v=tm:=by
 induction tm generalizing d with
 |nil=>rfl
 | cons x l ih=>
   cases d with
   |zero=>simp at h
   |succ d=>simp only [setT];rw [ih d (by simpa using h)]
theorem put_ok {ts:Array Value} (st:St E loc κ0 w0 D κ H w β tm ts) {v:Val} {x:Value} (ho:OutR loc w0 κ w β tm dst v x) {fid:Nat} (hloc:loc=E.loc fid) {tm':List Val} (h:putR E fid dst v tm=some tm'):
  ∃β',St E loc κ0 w0 D κ H w β' tm' (dst.elim ts (ts.setIfInBounds · x)):=by
 unfold putR at h
 cases dst with
 |none=>simp only [Option.some.injEq] at h;subst h;exact ⟨β,st⟩
 | some d=>
   simp only [Option.elim_some] at h⊢;split at h
   · rename_i hs;simp only [fL_eq,Option.some.injEq] at h;subst h;rw [←hloc] at hs;by_cases hv: ∃k cs,v= .lv k cs
     · obtain ⟨k,cs,rfl⟩:=hv;obtain ⟨d',b,e,hl,hk,rfl,hb,hbl,h1,h2,h3,h4,h5⟩:=ho;simp only [Option.some.injEq] at e;subst e;by_cases hd:d<tm.length
       · refine ⟨_,st.wr,st.gok,st.tr.putLocal hl hd hk hb hbl h1 h2 h3 h4,st.fr,fun s b' e=> ?_,st.dk,st.dm⟩;split at e
         · simp only [Option.some.injEq] at e;subst e;exact h5
         · exact st.lb _ _ e
       · rw [setT_out _ _ _ (by omega)];have:ts.setIfInBounds d (.pointer (some ⟨b,0,none⟩))=ts:=by have:=st.tr.len;exact Array.setIfInBounds_eq_of_size_le (by omega)
         rw [this];exact ⟨β,st⟩
     · have ho':OV κ β tm v x:=by cases v<;>first|exact ho|exact absurd ⟨_,_,rfl⟩ hv
       exact ⟨β,st.wr,st.gok,st.tr.put ho' hs,st.fr,st.lb,st.dk,st.dm⟩
   · simp at h
def DR (κ:Kr):List (Nat×List Val)→List Deferred→Prop
 | [],[]=>True
 |(f,args)::ds,d::ds'=>(∃cap,d.target= .fn (.func f) cap∧args.length=(d.args++cap).size∧ ∀(i:Nat) (v:Val) (x:Value),args[i]? =some v→(d.args++cap)[i]? =some x→VK κ v x)∧DR κ ds ds'
 |_,_=>False
theorem DR.fr {κ':Kr} {own:Nat→Prop} {w w':World} (f:Fr own κ κ' w w'): ∀(ds:List (Nat×List Val)) (ds':List Deferred),DR κ ds ds'→DR κ' ds ds':=by
 intro ds
 induction ds with
 |nil=>intro ds' h;cases ds'<;>exact h
 | cons p ds ih=>
   intro ds' h
   cases ds' with
   |nil=>exact h
   | cons d ds'=>
     obtain ⟨⟨cap,h1,h2,h3⟩,h4⟩:=h;exact ⟨⟨cap,h1,h2,fun i v x hv hx=>(h3 i v x hv hx).fr f⟩,ih _ h4⟩
def StD (E:Env) (loc:Nat→Bool) (κ0:Kr) (w0:World) (κ:Kr) (H:Hp) (w:World) (β:Nat→Option Nat) (tm:List Val) (ds:List (Nat×List Val)) (a:Act):Prop:=
 St E loc κ0 w0 (fun κ=>DR κ ds a.defers) κ H w β tm a.tmps
def PostC (E:Env) (loc:Nat→Bool) (κ0:Kr) (w0:World):CRes→Exit→Act→World→Prop
 | .normal tm H ds,e,a,w=>e= .normal∧ ∃κ β,StD E loc κ0 w0 κ H w β tm ds a
 | .exit id tm H ds,e,a,w=>e= .exit id∧ ∃κ β,StD E loc κ0 w0 κ H w β tm ds a
 | .ret tm H ds,e,a,w=>e= .ret∧ ∃κ β,StD E loc κ0 w0 κ H w β tm ds a
 | .pan v tm H ds,e,a,w=> ∃chain,e= .panic chain∧ ∃κ β,StD E loc κ0 w0 κ H w β tm ds a∧ChainR κ v chain
 | .fail,_,_,_=>True
theorem wanted_ok {ops:Array Oper} {ts:Array Value} (ht:TR loc κ w β tm ts) {o:Oper} {r:Bool} (h:wantedP ops tm o=some r):Region.wanted o (yielded ops ts)=r:=by
 unfold wantedP at h;unfold Region.wanted;split at h
 · rename_i e;rw [e];simpa using h
 · rename_i j want e;rw [e];simp only;unfold yielded;split at h
   · rename_i o' ho;rw [ho];split at h
     · rename_i d hd;simp only [Option.bind_some,hd];rw [getT_eq] at h;by_cases hlt:d<tm.length
       · have hs:d<ts.size:=by rw [←ht.len];exact hlt
         have hv:=ht.val d tm[d] ts[d] (by simp [hlt]) (by simp [hs]);rw [show tm[d]? =some tm[d] by simp [hlt],Option.getD_some] at h;rw [show ts[d]? =some ts[d] by simp [hs]];generalize tm[d]=u at h hv;generalize ts[d]=y at hv⊢;unfold guardV at h;split at h
         · cases hv;simp only [Option.some.injEq] at h;subst h;cases want<;>rename_i b<;>cases b<;>rfl
         · cases hv;simp only [Option.some.injEq] at h;subst h;rfl
         · simp at h
       · have hs: ¬d<ts.size:=by rw [←ht.len];exact hlt
         rw [show tm[d]? =none by simp [hlt],Option.getD_none] at h;rw [show ts[d]? =none by simp [hs]];simp only [guardV,Option.some.injEq] at h;subst h;rfl
     · rename_i hd;simp only [Option.bind_some,hd,Option.some.injEq] at h⊢;subst h;rfl
   · rename_i ho;rw [ho];simp only [Option.some.injEq] at h;subst h;rfl
end
section
variable {E:Env} {P:Program} (hE:EnvOK E P) {loc:Nat→Bool} {κ0 κ:Kr} {w0 w:World} {D:Kr→Prop} {β:Nat→Option Nat} {tm:List Val} {H:Hp} {dst:Option Nat} {cf:CallF}
theorem put_tmps (a:Act) (d:Option Nat) (x:Value):(a.put d x).tmps=d.elim a.tmps (a.tmps.setIfInBounds · x):=by cases d<;>rfl
theorem put_defers (a:Act) (d:Option Nat) (x:Value):(a.put d x).defers=a.defers:=by cases d<;>rfl
theorem upon_ok {a:Act} {o:Oper} {res:ORes} {next:Act→World→Prop} {Q:Exit→Act→World→Prop} {r:Result Next} (h:OpOK E loc κ0 w0 D P o.dst β tm a.tmps res r)
  (hn: ∀x w',Done E loc κ0 w0 D o.dst a.tmps res x w'→next (a.put o.dst x) w') (hp: ∀chain w',Panics E loc κ0 w0 D tm a.tmps β res chain w'→Q (.panic chain) a w'):o.upon P a next Q r:=by
 unfold OpOK at h;split at h
 · exact hn _ _ h
 · exact hn _ _ h
 · refine Calls.mono h fun e w' he=> ?_
   cases e with
   |returned x=>exact hn _ _ he
   |panicked chain=>exact hp _ _ he
   |outgrown=>exact he.elim
 · exact hp _ _ h
 · exact h.elim
theorem evalOps_plain {fid:Nat} {ops:Array Oper} {o:Oper} {rest:List Oper} {ds:List (Nat×List Val)} (hnd: ∀c,o.op≠ .defer c) (hw:wantedP ops tm o=some true):
  evalOps E cf fid ops (o::rest) tm H ds=(match evalOp E cf fid o tm H with
            | .ok v tm' H'=>match putR E fid o.dst v tm' with
              |some tm''=>evalOps E cf fid ops rest tm'' H' ds
              |none=> .fail
            | .pan v H'=> .pan v tm H' ds
            | .fail=> .fail):=by
 simp only [evalOps,hw];cases h:o.op<;>first|rfl|exact absurd h (hnd _)
include hE in
theorem evalOps_ok (hcf: ∀f args H,CallOK E P f args H (cf f args H)) {fid:Nat} (hloc:loc=E.loc fid) {ops:Array Oper} {Q:Exit→Act→World→Prop}:
  ∀ (l:List Nat) (κ:Kr) (w:World) (β:Nat→Option Nat) (tm:List Val) (H:Hp) (ds:List (Nat×List Val)) (a:Act),StD E loc κ0 w0 κ H w β tm ds a→
    evalOps E cf fid ops (l.filterMap (ops[·]?)) tm H ds≠ .fail→(∀e a w,PostC E loc κ0 w0 (evalOps E cf fid ops (l.filterMap (ops[·]?)) tm H ds) e a w→Q e a w)→wpOps P ops Q l a w:=by
 intro l
 induction l with
 | nil=>
   intro κ w β tm H ds a st _ hQ;exact hQ _ _ _ ⟨rfl,κ,β,st⟩
 | cons i l ih =>
   intro κ w β tm H ds a st hres hQ;simp only [wpOps]
   cases ho:ops[i]? with
   | none=>
     simp only [List.filterMap_cons,ho] at hres hQ;exact ih κ w β tm H ds a st hres hQ
   | some o =>
     simp only [List.filterMap_cons,ho] at hres hQ
     cases hw:wantedP ops tm o with
     |none=>simp only [evalOps,hw] at hres;exact absurd rfl hres
     | some r =>
       have hwm:=wanted_ok st.tr hw
       cases r with
       | false=>
         simp only [evalOps,hw] at hres hQ;dsimp only at hres hQ⊢;rw [hwm,if_neg (by simp)]
         cases hp:putR E fid o.dst (.tup []) tm with
         |none=>rw [hp] at hres;exact absurd rfl hres
         | some tm'=>
           rw [hp] at hres hQ;obtain ⟨β',st'⟩:=put_ok st (OutR.of_OV (OV.of_VK (.tup [] #[] rfl (by simp)))) hloc hp;refine ih κ w β' tm' H ds (a.put o.dst undef) ?_ hres hQ;unfold StD;rw [put_tmps,put_defers];exact st'
       | true =>
         dsimp only at hres hQ⊢;rw [hwm,if_pos rfl];left
         have plain: ∀(res:CRes),res=(match evalOp E cf fid o tm H with
           | .ok v tm' H'=>match putR E fid o.dst v tm' with
             |some tm''=>evalOps E cf fid ops (l.filterMap (ops[·]?)) tm'' H' ds
             |none=> .fail
           | .pan v H'=> .pan v tm H' ds
           | .fail=> .fail)→res≠ .fail→(∀e a w,PostC E loc κ0 w0 res e a w→Q e a w)→o.wp P a w (wpOps P ops Q l) Q:=by
          intro res hr hres hQ;subst hr;have hev:evalOp E cf fid o tm H≠ .fail:=by intro e;rw [e] at hres;exact absurd rfl hres
          have hop:=evalOp_ok hE hcf hloc (dst:=o.dst) rfl st hev;refine upon_ok hop (fun x w' hdn=> ?_) (fun chain w' hpn=> ?_)
          · obtain ⟨v,tm',H',κ',β',e1,st',ho'⟩:=hdn;rw [e1] at hres hQ;dsimp only at hres hQ
            cases hp:putR E fid o.dst v tm' with
            |none=>rw [hp] at hres;exact absurd rfl hres
            | some tm''=>
              rw [hp] at hres hQ;obtain ⟨β'',st''⟩:=put_ok st' ho' hloc hp;refine ih κ' w' β'' tm'' H' ds (a.put o.dst x) ?_ hres hQ;unfold StD;rw [put_tmps,put_defers];exact st''
          · obtain ⟨v,H',κ',e1,st',hch⟩:=hpn;rw [e1] at hQ;exact hQ _ _ _ ⟨chain,rfl,κ',β,st',hch⟩
         by_cases hnd: ∀c,o.op≠ .defer c
         · exact plain _ (evalOps_plain hnd hw) hres hQ
         · obtain ⟨c,hc⟩:=Classical.not_forall.1 hnd;have hc:=Classical.not_not.1 hc;simp only [evalOps,hw,hc] at hres hQ;have hop: ∀x,OV κ β tm (opd E tm x) (a.eval x):=opd_ok st.tr st.gok;obtain ⟨x1,x2⟩:=opds_ok hop c.args
           cases hcal:c.callee with
           |builtin b=>rw [hcal] at hres;exact absurd rfl hres
           |invoke r n=>rw [hcal] at hres;exact absurd rfl hres
           | value f=>
             rw [hcal] at hres hQ;dsimp only at hres hQ;have hf:=hop f;split at hres
             case h_2=>exact absurd rfl hres
             rename_i g cap hfe;rw [hfe] at hf hQ;simp only [OV] at hf
             cases hfv:a.eval f with
             | func fn fs ys=>
               rw [hfv] at hf
               cases hf with
               | fn _ _ _ _ _ h1 h2 h3 h4=>
                 have hfs:fs= #[]:=by apply Array.eq_empty_of_size_eq_zero;rw [←h1];rfl
                 subst hfs;split at hres
                 case isFalse=>exact absurd rfl hres
                 rename_i hnl;dsimp only at hQ;rw [if_pos hnl] at hQ
                 cases hp:putR E fid o.dst (.tup []) tm with
                 |none=>rw [hp] at hres;exact absurd rfl hres
                 | some tm'=>
                   rw [hp] at hres hQ;simp only [fL_eq] at hres hQ;have hrun:(execOp a.eval o).run P w= .ok (.defer {target:= .fn (.func g) ys,args:= #[]++c.args.map a.eval}) w:=by unfold execOp;simp only [hc,resolve,hcal,hfv,Deferred.ofValue];rfl
                   unfold Oper.wp;rw [hrun,Oper.upon_defer];obtain ⟨β',st'⟩:=put_ok st (OutR.of_OV (OV.of_VK (.tup [] #[] rfl (by simp)))) hloc hp;refine ih κ w β' tm' H _ _ ?_ hres hQ;unfold StD;rw [put_tmps,put_defers];refine ⟨st'.wr,st'.gok,st'.tr,st'.fr,st'.lb,⟨⟨ys,rfl,by simp [h2],fun i v x hv hx=> ?_⟩,st.dk⟩,fun own κ κ' w w' hd hf=>DR.fr hf _ _ hd⟩;have hvn:=List.all_eq_true.1 hnl v (List.mem_of_getElem? hv);rw [List.getElem?_append] at hv;rw [Array.empty_append,Array.getElem?_append] at hx;rw [x1] at hv;split at hv
                   · rename_i hlt;rw [if_pos hlt] at hx;exact (x2 _ _ _ hv hx).toVK hvn
                   · rename_i hlt;rw [if_neg hlt] at hx;exact h4 _ _ _ hv hx
             |_=>rw [hfv] at hf;cases hf
end
theorem ids_below {F:Fz} {M:Mz} {μ:Mu} {n:Nat} {v:Val} {x:Value} (h:VR F M μ v x) (hμ: ∀i g y,μ i g=some y→i<n):
  ∀(F':Fz) (M':Mz) (μ':Mu) (x':Value),VR F' M' μ' v x'→VR F' M' (below μ' n) v x':=by
 induction h with
 |bad x=>intro F' M' μ' x' _;exact .bad _
 |bool b=>intro F' M' μ' x' h;cases h;exact .bool b
 |int k m=>intro F' M' μ' x' h;cases h;exact .int k m
 |str s a b _ _=>intro F' M' μ' x' h;cases h with|str s' _ _ h1 h2=>exact .str s' _ _ h1 h2
 | agg cs xs h1 h2 ih=>
   intro F' M' μ' x' h
   cases h with
   | agg _ ys g1 g2=>
     refine .agg cs ys g1 fun i v y hv hy=> ?_;have hi:i<xs.size:=by rw [←h1];exact (List.getElem?_eq_some_iff.1 hv).1
     exact ih i v xs[i] hv (by simp [hi]) hμ _ _ _ _ (g2 i v y hv hy)
 | tup cs xs h1 h2 ih=>
   intro F' M' μ' x' h
   cases h with
   | tup _ ys g1 g2=>
     refine .tup cs ys g1 fun i v y hv hy=> ?_;have hi:i<xs.size:=by rw [←h1];exact (List.getElem?_eq_some_iff.1 hv).1
     exact ih i v xs[i] hv (by simp [hi]) hμ _ _ _ _ (g2 i v y hv hy)
 |nilp=>intro F' M' μ' x' h;cases h;exact .nilp
 | ptr id gen off lim b C L h1 h2 h3=>
   intro F' M' μ' x' h;cases h with|ptr _ _ _ _ b' C' L' g1 g2 g3=>exact .ptr id gen off lim b' C' L' (by rw [below_lt (hμ _ _ _ h1)];exact g1) g2 g3
 |fptr cs off b o X _ _=>intro F' M' μ' x' h;cases h with|fptr _ _ b' o' X' g1 g2=>exact .fptr cs off b' o' X' g1 g2
 |nilsl=>intro F' M' μ' x' h;cases h;exact .nilsl
 |sl rows clip a cap k b o X _ _ _ _ _ _ _=>intro F' M' μ' x' h;cases h with|sl _ _ a' cap' k' b' o' X' g1 g2 g3 g4 g5 g6 g7=>exact .sl rows clip a' cap' k' b' o' X' g1 g2 g3 g4 g5 g6 g7
 | ref id gen off k len clip b C L cap h1 _ _ _ _ _ _=>
   intro F' M' μ' x' h;cases h with|ref _ _ _ _ _ _ b' C' L' cap' g1 g2 g3 g4 g5 g6 g7=>exact .ref id gen off k len clip b' C' L' cap' (by rw [below_lt (hμ _ _ _ h1)];exact g1) g2 g3 g4 g5 g6 g7
 |nilmap=>intro F' M' μ' x' h;cases h;exact .nilmap
 |map id b h1=>intro F' M' μ' x' h;cases h with|map _ b' g1=>exact .map id b' (by rw [below_lt (hμ _ _ _ h1)];exact g1)
 |fmap ks vs b es clock _ _ _ _ _=>intro F' M' μ' x' h;cases h with|fmap _ _ b' es' clock' g1 g2 g3 g4 g5=>exact .fmap ks vs b' es' clock' g1 g2 g3 g4 g5
 |nilfn=>intro F' M' μ' x' h;cases h;exact .nilfn
 | fn f first cap xs ys h1 h2 h3 h4 ih1 ih2=>
   intro F' M' μ' x' h
   cases h with
   | fn _ _ _ xs' ys' g1 g2 g3 g4=>
     refine .fn f first cap xs' ys' g1 g2 (fun i v y hv hy=> ?_) fun i v y hv hy=> ?_
     · have hi:i<xs.size:=by rw [←h1];exact (List.getElem?_eq_some_iff.1 hv).1
       exact ih1 i v xs[i] hv (by simp [hi]) hμ _ _ _ _ (g3 i v y hv hy)
     · have hi:i<ys.size:=by rw [←h2];exact (List.getElem?_eq_some_iff.1 hv).1
       exact ih2 i v ys[i] hv (by simp [hi]) hμ _ _ _ _ (g4 i v y hv hy)
 |nili=>intro F' M' μ' x' h;cases h;exact .nili
 |iface t v x _ ih=>intro F' M' μ' x' h;cases h with|iface _ _ y g=>exact .iface t v y (ih hμ _ _ _ _ g)
 |it id b h1=>intro F' M' μ' x' h;cases h with|it _ b' g1=>exact .it id b' (by rw [below_lt (hμ _ _ _ h1)];exact g1)
def Idb (n:Nat) (v:Val):Prop:= ∀(F:Fz) (M:Mz) (μ:Mu) (x:Value),VR F M μ v x→VR F M (below μ n) v x
def ObIdb (n:Nat):Obj→Prop
 | .cells _ _ _ cs=> ∀(i:Nat) (v:Val),cs[i]? =some v→Idb n v
 | .map _ ks vs=>(∀(i:Nat) (v:Val),ks[i]? =some v→Idb n v)∧ ∀(i:Nat) (v:Val),vs[i]? =some v→Idb n v
 |_=>True
theorem WR.mask {κ:Kr} {H Hf:Hp} {w:World} {n:Nat} (hw:WR κ Hf w) (hl:H.l.length=H.n) (hn:n≤H.n) (hget: ∀id o,H.get id=some o→id<n→Hf.get id=some o)
  (hrs: ∀id o,H.get id=some o→n≤id→o= .rsv) (hib: ∀id o,H.get id=some o→ObIdb n o):WR {κ with μ:=below κ.μ n} H w:=by
 refine ⟨hw.frz,hw.mps,hw.mmap,hl,fun id o h=> ?_,fun id g y h=>Nat.lt_of_lt_of_le (below_some h).1 hn,fun id g b C L h=>hw.blk _ _ _ _ _ (below_some h).2,
  fun id g b C L id' g' C' L' h h'=>hw.sep _ _ _ _ _ _ _ _ _ (below_some h).2 (below_some h').2⟩
 by_cases hid:id<n
 · have h0:=hw.obj _ _ (hget _ _ h hid);have hb:=hib _ _ h
   cases o with
   | cells g d r cs=>
     obtain ⟨b,C,h1⟩:=h0;refine ⟨b,C,by show below _ _ _ _=_;rw [below_lt hid];exact h1.at_,h1.room,h1.sle,h1.free,fun i v h2 h3=>let ⟨x,h4⟩:=h1.gh i v h2 h3;⟨x,hb i v h3 _ _ _ _ h4⟩,fun g' b' C' L' hd hm=> ?_,h1.wr,fun g' hg=>by show below _ _ _ _=_;rw [below_lt hid];exact h1.last _ hg,h1.dle,h1.ety⟩;obtain ⟨h3,h4⟩:=h1.cont g' b' C' L' hd (below_some hm).2;refine ⟨h3,fun i u hs hi hu=> ?_⟩;obtain ⟨y,hy1,hy2⟩:=h4 i u hs hi hu;exact ⟨y,hy1,hb i u hu _ _ _ _ hy2⟩
   | map frz ks vs=>
     obtain ⟨b,es,clock,h1⟩:=h0;exact ⟨b,es,clock,by show below _ _ _ _=_;rw [below_lt hid];exact h1.at_,h1.lies,h1.nk,h1.nv,fun i u e hu he=>hb.1 i u hu _ _ _ _ (h1.keys i u e hu he),fun i u e hu he=>hb.2 i u hu _ _ _ _ (h1.vals i u e hu he),h1.free⟩
   | iter len num pos=>
     obtain ⟨b,s,h1⟩:=h0;exact ⟨b,s,by show below _ _ _ _=_;rw [below_lt hid];exact h1.at_,h1.lies,h1.size,h1.num,h1.free⟩
   |gone=>trivial
   | rsv=>
     intro g;show below _ _ _ _=_;rw [below_lt hid];exact h0 g
 · have:=hrs _ _ h (by omega);subst this;intro g;show below _ _ _ _=_;unfold below;rw [if_neg hid]
theorem WR.idb {κ:Kr} {H:Hp} {w:World} (hw:WR κ H w) {id:Nat} {o:Obj} (h:H.get id=some o):ObIdb H.n o:=by
 have hd: ∀i g y,κ.μ i g=some y→i<H.n:=hw.dom;have h0:=hw.obj _ _ h
 cases o with
 | cells g d r cs=>
   obtain ⟨b,C,h1⟩:=h0;intro i v hv;have hi:i<cs.length:=(List.getElem?_eq_some_iff.1 hv).1;obtain ⟨x,hx⟩: ∃x,VK κ v x:=by
    by_cases hs:i<C.s
    · exact h1.gh i v hs hv
    · obtain ⟨x,_,hx⟩:=(h1.cont g b C cs.length h1.dle h1.at_).2 i v (by omega) hi hv;exact ⟨x,hx⟩
   exact ids_below hx hd
 | map frz ks vs=>
   obtain ⟨b,es,clock,h1⟩:=h0;refine ⟨fun i v hv=> ?_,fun i v hv=> ?_⟩
   · have hi:i<es.size:=by rw [←h1.nk];exact (List.getElem?_eq_some_iff.1 hv).1
     exact fun F M μ x hx=>ids_below (h1.keys i v es[i] hv (by simp [hi])) hd F M μ x hx
   · have hi:i<es.size:=by rw [←h1.nv];exact (List.getElem?_eq_some_iff.1 hv).1
     exact fun F M μ x hx=>ids_below (h1.vals i v es[i] hv (by simp [hi])) hd F M μ x hx
 |_=>trivial
def mixU (μ1 μ:Mu) (n m:Nat):Mu:=fun i g=>if n≤i∧i<n+m then μ i g else μ1 i g
theorem WR.unmask {κ κ1:Kr} {Hf H1 Hf1:Hp} {w w1:World} {n m:Nat} (hw:WR κ Hf w) (hn:Hf.n=n+m) (hw1:WR κ1 H1 w1) (hf:Fr {κ with μ:=below κ.μ n}.own {κ with μ:=below κ.μ n} κ1 w w1)
  (hl:Hf1.l.length=Hf1.n) (hn1:Hf1.n=H1.n) (hle:n+m≤H1.n) (hrs: ∀j,j<m→H1.get (n+j)=some .rsv)
  (hin: ∀id o,Hf1.get id=some o→(id<n∨n+m≤id)→H1.get id=some o) (hres: ∀id o,Hf1.get id=some o→n≤id→id<n+m→Hf.get id=some o):
  WR {κ1 with μ:=mixU κ1.μ κ.μ n m} Hf1 w1∧Fr κ.own κ {κ1 with μ:=mixU κ1.μ κ.μ n m} w w1:=by
 have hno1: ∀i g,n≤i→i<n+m→κ1.μ i g=none:=fun i g h1 h2=>by have:=hw1.obj _ _ (hrs (i-n) (by omega));rw [show n+(i-n)=i by omega] at this;exact this g
 have hlow: ∀i g y,κ.μ i g=some y→(i<n∨n≤i∧i<n+m):=fun i g y h=>by have:=hw.dom _ _ _ h;omega
 have hu1: ∀i g y,κ1.μ i g=some y→mixU κ1.μ κ.μ n m i g=some y:=by
  intro i g y h;unfold mixU;rw [if_neg]
  · exact h
  · rintro ⟨h1,h2⟩;rw [hno1 i g h1 h2] at h;cases h
 have hu0: ∀i g y,κ.μ i g=some y→mixU κ1.μ κ.μ n m i g=some y:=by
  intro i g y h;unfold mixU;split
  · exact h
  · rename_i hc;exact hf.uext _ _ _ (by show below _ _ _ _=_;rw [below_lt (by have:=hlow _ _ _ h;omega)];exact h)
 have hcase: ∀i g y,mixU κ1.μ κ.μ n m i g=some y→(n≤i∧i<n+m∧κ.μ i g=some y)∨(¬(n≤i∧i<n+m)∧κ1.μ i g=some y):=by
  intro i g y h;unfold mixU at h;split at h
  · rename_i hc;exact .inl ⟨hc.1,hc.2,h⟩
  · rename_i hc;exact .inr ⟨hc,h⟩
 have hnown: ∀i g b C L,n≤i→κ.μ i g=some (b,C,L)→ ¬Kr.own {κ with μ:=below κ.μ n} b:=by rintro i g b C L hi h ⟨i',g',C',L',h'⟩;have h2:=below_some h';have:=(hw.sep _ _ _ _ _ _ _ _ _ h h2.2).1;omega
 have hkeep: ∀i g b C L,n≤i→κ.μ i g=some (b,C,L)→w1.heap[b]? =w.heap[b]? :=fun i g b C L hi h=>hf.keep b (hw.blk _ _ _ _ _ h) (hnown i g b C L hi h);have hnew1: ∀i g b C L,n≤i→κ.μ i g=some (b,C,L)→ ¬κ1.own b:=by
  intro i g b C L hi h ho;rcases hf.onew b ho with h1|h1
  · exact hnown i g b C L hi h h1
  · have:=hw.blk _ _ _ _ _ h;omega
 refine ⟨⟨hw1.frz,hw1.mps,hw1.mmap,hl,fun id o h=> ?_,fun id g y h=> ?_,fun id g b C L h=> ?_,?_⟩,?_⟩
 · by_cases hc:n≤id∧id<n+m
   · refine (hw.obj _ _ (hres _ _ h hc.1 hc.2)).carry (fun b o v h=>hf.fext b o v h) (fun b v h=>hf.mext b v h) hu0 (fun g=> ?_) (fun g b C L hm=>hkeep id g b C L hc.1 hm) (fun g b C L hm o hn'=> ?_) (fun g b C L hm hn'=> ?_)
     · show mixU _ _ _ _ _ _=_;unfold mixU;rw [if_pos hc]
     · cases hF:κ1.F b o with
       |none=>rfl
       | some v=>
         rcases hf.fnew _ _ _ hF with h1|h1|h1
         · rw [show κ.F b o=some v from h1] at hn';cases hn'
         · exact absurd h1 (hnown id g b C L hc.1 hm)
         · have:=hw.blk _ _ _ _ _ hm;omega
     · cases hM:κ1.M b with
       |none=>rfl
       | some v=>
         rcases hf.mnew _ _ hM with h1|h1|h1
         · rw [show κ.M b=some v from h1] at hn';cases hn'
         · exact absurd h1 (hnown id g b C L hc.1 hm)
         · have:=hw.blk _ _ _ _ _ hm;omega
   · refine (hw1.obj _ _ (hin _ _ h (by omega))).carry (fun _ _ _ h=>h) (fun _ _ h=>h) hu1 (fun g=> ?_) (fun g b C L hm=>rfl) (fun _ _ _ _ _ _ h=>h) (fun _ _ _ _ _ h=>h);show mixU _ _ _ _ _ _=_;unfold mixU;rw [if_neg hc]
 · rcases hcase _ _ _ h with ⟨h1,h2,h3⟩|⟨h1,h2⟩
   · omega
   · have:=hw1.dom _ _ _ h2;omega
 · rcases hcase _ _ _ h with ⟨h1,h2,h3⟩|⟨h1,h2⟩
   · exact Nat.lt_of_lt_of_le (hw.blk _ _ _ _ _ h3) hf.size
   · exact hw1.blk _ _ _ _ _ h2
 · intro i g b C L i' g' C' L' h h';rcases hcase _ _ _ h with ⟨h1,h2,h3⟩|⟨h1,h2⟩
   · rcases hcase _ _ _ h' with ⟨k1,k2,k3⟩|⟨k1,k2⟩
     · exact hw.sep _ _ _ _ _ _ _ _ _ h3 k3
     · exact absurd ⟨_,_,_,_,k2⟩ (hnew1 i g b C L h1 h3)
   · rcases hcase _ _ _ h' with ⟨k1,k2',k3⟩|⟨k1,k2⟩
     · exact absurd ⟨_,_,_,_,h2⟩ (hnew1 i' g' b C' L' k1 k3)
     · exact hw1.sep _ _ _ _ _ _ _ _ _ h2 k2
 · have hob: ∀b,Kr.own {κ with μ:=below κ.μ n} b→κ.own b:=fun b ⟨i,g,C,L,h⟩=>⟨i,g,C,L,(below_some h).2⟩;refine ⟨hf.size,fun b hb hn'=>hf.keep b hb (fun h=>hn' (hob b h)),hf.fext,fun b o v h=>(hf.fnew b o v h).imp (fun h=>h) (fun h=>h.imp (hob b) fun h=>h),hf.mext,
    fun b o h=>(hf.mnew b o h).imp (fun h=>h) (fun h=>h.imp (hob b) fun h=>h),?_,hu0,hf.os,hf.output,hf.tape⟩
   rintro b ⟨i,g,C,L,h⟩;rcases hcase _ _ _ h with ⟨h1,h2,h3⟩|⟨h1,h2⟩
   · exact .inl ⟨_,_,_,_,h3⟩
   · exact (hf.onew b ⟨_,_,_,_,h2⟩).imp (hob b) fun h=>h
theorem fillX_len: ∀(X:List Val) (n:Nat) (H:Hp),H.l.length=H.n→(fillX n X H).l.length=(fillX n X H).n∧(fillX n X H).n=H.n
 | [],n,H,h=>⟨h,rfl⟩
 | x::X,n,H,h=>by
   simp only [fillX];split
   · exact fillX_len X (n+1) H h
   · obtain ⟨h1,h2⟩:=fillX_len X (n+1) (H.set n (unX x)) (Hp.set_len _ _ _ h);exact ⟨h1,h2.trans (Hp.set_n _ _ _)⟩
theorem fillX_get: ∀(X:List Val) (n:Nat) (H:Hp),H.l.length=H.n→n+X.length≤H.n→ ∀id,(fillX n X H).get id=match X[id-n]? with
   |some x=>if n≤id then (match unX x with| .rsv=>H.get id|o=>some o) else H.get id
   |none=>H.get id
 | [],n,H,h,hn,id=>by simp [fillX]
 | x ::X,n,H,h,hn,id=>by
   simp only [List.length_cons] at hn;simp only [fillX]
   have key: ∀H':Hp,H'.l.length=H'.n→H'.n=H.n→(∀j,j≠n→H'.get j=H.get j)→(fillX (n+1) X H').get id=match (x::X)[id-n]? with
     |some y=>if n≤id then (if id=n then H'.get n else match unX y with| .rsv=>H.get id|o=>some o) else H.get id
     |none=>H.get id:=by
    intro H' h1 h2 h3;rw [fillX_get X (n+1) H' h1 (by omega) id];rcases Nat.lt_trichotomy id n with hlt|rfl|hgt
    · rw [show id-(n+1)=0 by omega,show id-n=0 by omega,h3 id (by omega)];simp only [List.getElem?_cons_zero];rw [if_neg (by omega)];split
      · rw [if_neg (by omega)]
      · rfl
    · simp only [Nat.sub_self,List.getElem?_cons_zero,Nat.le_refl,if_true];split
      · rw [if_neg (by omega)]
      · rfl
    · rw [show id-n=(id-(n+1))+1 by omega,List.getElem?_cons_succ,h3 id (by omega)];split
      · rw [if_pos (by omega),if_pos (by omega),if_neg (by omega)]
      · rfl
   have fin: ∀H':Hp,H'.l.length=H'.n→H'.n=H.n→(∀j,j≠n→H'.get j=H.get j)→H'.get n=(match unX x with| .rsv=>H.get n|o=>some o)→(fillX (n+1) X H').get id=match (x::X)[id-n]? with
     |some y=>if n≤id then (match unX y with| .rsv=>H.get id|o=>some o) else H.get id
     |none=>H.get id:=by
    intro H' h1 h2 h3 h4;rw [key H' h1 h2 h3];by_cases e:id=n
    · subst e;simp only [Nat.sub_self,List.getElem?_cons_zero,Nat.le_refl,if_true];exact h4
    · split
      · rw [if_neg e]
      · rfl
   split
   · rename_i e;exact fin H h rfl (fun _ _=>rfl) (by rw [e])
   · rename_i o hne;refine fin _ (Hp.set_len _ _ _ h) (Hp.set_n _ _ _) (fun j hj=>by rw [Hp.get_set _ h _ _ (by omega),if_neg hj]) ?_;rw [Hp.get_set _ h _ _ (by omega),if_pos rfl];split
     · rename_i e;exact absurd e (by simpa using hne)
     · rfl
theorem Hp.ext_get {H H':Hp} (h:H.l.length=H.n) (h':H'.l.length=H'.n) (hn:H.n=H'.n) (hg: ∀id,H.get id=H'.get id):H=H':=by
 obtain ⟨n,l⟩:=H;obtain ⟨n',l'⟩:=H';simp only at h h' hn;subst hn;congr 1;refine List.ext_getElem? fun i=> ?_;by_cases hi:i<n
 · have:=hg (n-1-i);unfold Hp.get at this;simp only at this;rw [if_pos (by omega),if_pos (by omega),show n-1-(n-1-i)=i by omega] at this;exact this
 · rw [List.getElem?_eq_none (by omega),List.getElem?_eq_none (by omega)]
section
variable {n0:Nat} {X:List Val} {Hc:Hp}
theorem fill_ext (hl:Hc.l.length=Hc.n) (hn:n0+X.length≤Hc.n) (hrs: ∀j,j<X.length→Hc.get (n0+j)=some .rsv) {id:Nat} {o:Obj} (h:Hc.get id=some o) (ho:o≠ .rsv):
  (fillX n0 X Hc).get id=some o:=by
 rw [fillX_get X n0 Hc hl hn];split
 · rename_i x hx;split
   · rename_i hle;have hlt:id-n0<X.length:=(List.getElem?_eq_some_iff.1 hx).1;have:=hrs (id-n0) hlt;rw [show n0+(id-n0)=id by omega,h] at this;simp only [Option.some.injEq] at this;exact absurd this ho
   · exact h
 · exact h
theorem fill_low (hl:Hc.l.length=Hc.n) (hn:n0+X.length≤Hc.n) {id:Nat} (h:id<n0∨n0+X.length≤id):(fillX n0 X Hc).get id=Hc.get id:=by
 rw [fillX_get X n0 Hc hl hn];split
 · rename_i x hx;rw [if_neg];intro hle;have hlt:id-n0<X.length:=(List.getElem?_eq_some_iff.1 hx).1;omega
 · rfl
theorem fill_unset (hl:Hc.l.length=Hc.n) (hn:n0+X.length≤Hc.n) (hrs: ∀j,j<X.length→Hc.get (n0+j)=some .rsv) {j:Nat} (hj:j<X.length) (hu:unX (getT X j)= .rsv):
  (fillX n0 X Hc).get (n0+j)=some .rsv:=by
 rw [fillX_get X n0 Hc hl hn,show n0+j-n0=j by omega];rw [getT_eq] at hu
 cases hx:X[j]? with
 |none=>exact hrs j hj
 | some x=>
   rw [hx] at hu;simp only [Option.getD_some] at hu;simp only;rw [if_pos (by omega),hu];exact hrs j hj
theorem fill_set (hl:Hc.l.length=Hc.n) (hn:n0+X.length≤Hc.n) {j:Nat} (hj:j<X.length) {c:Val} (hc:unX c≠ .rsv):
  fillX n0 (setT X j c) Hc=(fillX n0 X Hc).set (n0+j) (unX c):=by
 obtain ⟨l1,l2⟩:=fillX_len X n0 Hc hl;obtain ⟨k1,k2⟩:=fillX_len (setT X j c) n0 Hc hl;refine Hp.ext_get k1 (Hp.set_len _ _ _ l1) (by rw [k2,Hp.set_n,l2]) fun id=> ?_;rw [Hp.get_set _ l1 _ _ (by rw [l2];omega),fillX_get _ n0 Hc hl (by rw [setT_length];exact hn),fillX_get X n0 Hc hl hn];by_cases e:id=n0+j
 · subst e;have hx:(setT X j c)[n0+j-n0]? =some c:=by rw [setT_get,show n0+j-n0=j by omega,if_pos ⟨rfl,hj⟩]
   rw [hx,if_pos rfl];simp only;rw [if_pos (by omega)]
 · rw [if_neg e];by_cases hle:n0≤id
   · have hx:(setT X j c)[id-n0]? =X[id-n0]? :=by rw [setT_get,if_neg (by omega)]
     rw [hx]
   · simp only [if_neg hle];cases (setT X j c)[id-n0]? <;>cases X[id-n0]? <;>rfl
theorem WR.idbn {κ:Kr} {H:Hp} {w:World} (hw:WR κ H w) {n:Nat} (hd: ∀i g y,κ.μ i g=some y→i<n) {id:Nat} {o:Obj} (h:H.get id=some o):ObIdb n o:=by
 have h0:=hw.obj _ _ h
 cases o with
 | cells g d r cs=>
   obtain ⟨b,C,h1⟩:=h0;intro i v hv;have hi:i<cs.length:=(List.getElem?_eq_some_iff.1 hv).1;obtain ⟨x,hx⟩: ∃x,VK κ v x:=by
    by_cases hs:i<C.s
    · exact h1.gh i v hs hv
    · obtain ⟨x,_,hx⟩:=(h1.cont g b C cs.length h1.dle h1.at_).2 i v (by omega) hi hv;exact ⟨x,hx⟩
   exact ids_below hx hd
 | map frz ks vs=>
   obtain ⟨b,es,clock,h1⟩:=h0;refine ⟨fun i v hv=> ?_,fun i v hv=> ?_⟩
   · have hi:i<es.size:=by rw [←h1.nk];exact (List.getElem?_eq_some_iff.1 hv).1
     exact fun F M μ x hx=>ids_below (h1.keys i v es[i] hv (by simp [hi])) hd F M μ x hx
   · have hi:i<es.size:=by rw [←h1.nv];exact (List.getElem?_eq_some_iff.1 hv).1
     exact fun F M μ x hx=>ids_below (h1.vals i v es[i] hv (by simp [hi])) hd F M μ x hx
 |_=>trivial
end
section
variable {E:Env} {P:Program} (hE:EnvOK E P) {loc:Nat→Bool} {κ0 κ:Kr} {w0 w:World} {D:Kr→Prop} {β:Nat→Option Nat} {tm:List Val} {H:Hp} {cf:CallF}
include hE in
theorem makeAt_ok {a:Act} {fid:Nat} {o:Oper} (st:St E loc κ0 w0 D κ H w β tm a.tmps) {id:Nat} (hid:H.get id=some .rsv) {v c:Val} (h:makeAt E fid o tm id=some (v,c)):
  ∃κ' w' x,(execOp a.eval o).run P w= .ok (.value x) w'∧WR κ' (H.set id (unX c)) w'∧Fr κ.own κ κ' w w'∧VK κ' v x∧unX c≠ .rsv:=by
 have hop: ∀x,OV κ β tm (opd E tm x) (a.eval x):=opd_ok st.tr st.gok;unfold makeAt at h;unfold execOp
 cases ho:o.op with
 | makeSlice t l q=>
   simp only [ho] at h⊢
   cases hr:opMakeSlice E t (opd E tm l) (opd E tm q) tm ⟨id,[]⟩ with
   |fail=>rw [hr] at h;cases h
   |pan v H'=>rw [hr] at h;cases h
   | ok u tm' H'=>
     rw [hr] at h;obtain ⟨rfl,cs,k,len,B,el,cap,rfl,rfl,hrun,hB,hk,hlk,hck,hle⟩:=makeSlice_run hE (w:=w) (hop l) (hop q) hr;simp only [Hp.push,Option.some.injEq,Prod.mk.injEq] at h;obtain ⟨rfl,rfl⟩:=h;obtain ⟨g1,g2,g3⟩:=new_cells_at st.wr hid cs B el (by rw [hB.1];exact Nat.le_refl _) hB.2;exact ⟨_,_,_,ex_v hrun,g1,g2,.ref _ _ _ _ _ _ _ _ _ _ g3 (by simpa using hlk) hk (fun h=>by cases h) (fun _=>by simp only;rw [hck];omega) hle (Nat.zero_le _),by simp [unX]⟩
 | makeMap t r=>
   simp only [ho] at h⊢
   cases r with
   |some r=>cases h
   | none=>
     simp only [Option.some.injEq,Prod.mk.injEq] at h;obtain ⟨rfl,rfl⟩:=h;obtain ⟨g1,g2,g3⟩:=new_obj_at st.wr hid (.map false [] []) (.map #[] 0) 0 0
      ⟨w.heap.size, #[],0,by simp [Kr.addU],by rw [alloc_heap,if_pos rfl],rfl,rfl,by simp,by simp,fun _=>(Kr.noneM_new st.wr:κ.M w.heap.size=none)⟩
     exact ⟨_,_,_,ex_v (s:=Instr.makeMap t none) (by simp [Instr.makeMap]),g1,g2,.map _ _ g3,by simp [unX]⟩
 | box el x=>
   simp only [ho] at h⊢;split at h
   case h_2=>cases h
   rename_i hloc hok;simp only [Option.some.injEq,Prod.mk.injEq] at h;obtain ⟨rfl,rfl⟩:=h;obtain ⟨hcr,hone⟩:=cells_ok (hop x) hok;obtain ⟨g1,g2,g3⟩:=new_cells_at st.wr hid _ (a.eval x).cells el (by rw [hcr.1];exact Nat.le_refl _) hcr.2;refine ⟨_,_,_,?_,g1,g2,.ptr _ _ _ _ _ _ _ g3 (Nat.le_refl _) (Nat.zero_le _),by simp [unX]⟩;refine ex_v ((bind_ok (a:=⟨w.heap.size,0,none⟩) (w':=w.alloc (.cells (a.eval x).cells el)) ?_).trans (Sem.run_pure _ _ _));simp only [newVar,newRow,Sem.run_bind,run_newObj,Result.andThen_ok,Sem.run_pure,World.alloc_eq]
 |_=>simp only [ho] at h;cases h
end
def lastB (q:Nat→Bool):Nat→Nat
 |0=>0
 |k+1=>if q k then k+1 else lastB q k
theorem lastB_congr {q q':Nat→Bool}: ∀ {n:Nat},(∀j,j<n→q j=q' j)→lastB q n=lastB q' n
 |0,_=>rfl
 |n+1,h=>by simp only [lastB];rw [h n (Nat.lt_succ_self n),lastB_congr fun j hj=>h j (Nat.lt_succ_of_lt hj)]
theorem lastB_below (q:Nat→Bool) (i:Nat): ∀ {n:Nat},i≤n→lastB (fun k=>decide (k<i)&&q k) n=lastB q i
 | 0, h => by have:i=0:=by omega
              subst this;rfl
 | n+1,h=>by
   by_cases e:i=n+1
   · subst e;exact lastB_congr fun j hj=>by simp [hj]
   · simp only [lastB];rw [if_neg (by simp;omega),lastB_below q i (by omega)]
theorem lastB_top {q:Nat→Bool} {i:Nat}: ∀ {n:Nat},i<n→q i=true→(∀j,i<j→j<n→q j=false)→lastB q n=i+1
 |0,h,_,_=>by omega
 | n+1,h,hq,hj=>by
   simp only [lastB];by_cases e:i=n
   · subst e;rw [if_pos hq]
   · rw [if_neg (by rw [hj n (by omega) (by omega)];simp),lastB_top (by omega) hq fun j h1 h2=>hj j h1 (by omega)]
theorem lastB_spec (q:Nat→Bool): ∀n,lastB q n=0∧(∀j,j<n→q j=false)∨ ∃j,j<n∧q j=true∧lastB q n=j+1∧ ∀k,j<k→k<n→q k=false
 |0=> .inl ⟨rfl,fun j h=>by omega⟩
 | n + 1=>by
   simp only [lastB]
   cases hq:q n with
   |true=>exact .inr ⟨n,by omega,hq,by simp,fun k h1 h2=>by omega⟩
   | false=>
     rw [if_neg (by simp)];rcases lastB_spec q n with ⟨h1,h2⟩|⟨j,h1,h2,h3,h4⟩
     · refine .inl ⟨h1,fun j hj=> ?_⟩;by_cases e:j=n
       · subst e;exact hq
       · exact h2 j (by omega)
     · refine .inr ⟨j,by omega,h2,h3,fun k k1 k2=> ?_⟩;by_cases e:k=n
       · subst e;exact hq
       · exact h4 k k1 (by omega)
inductive Kd where
  |free
  |heap
  |read (ks:List Nat)
  deriving Inhabited
def Kd.isHeap:Kd→Bool
 | .heap=>true
 |_=>false
structure Runs (n len:Nat) (f:Nat→RS→Option RS) (σ:Nat→RS) (R W:Nat→List Nat) (kd:Nat→Kd) (bef:Nat→Nat→Bool):Prop where
  len0:(σ 0).1.length=len
  low: ∀i j,bef i j=true→i<j
  loc: ∀i,i<n→ ∀tm H,tm.length=len→(∀s,s∈R i→tm[s]? =(σ i).1[s]?)→
    (match kd i with| .free=>True| .heap=>H=(σ i).2| .read ks=> ∃k,k∈ks∧H=(σ k).2)→
    ∃tm',f i (tm,H)=some (tm',if (kd i).isHeap then (σ (i+1)).2 else H)∧tm'.length=len∧(∀s,s∈W i→tm'[s]? =(σ (i+1)).1[s]?)∧ ∀s,s∉W i→tm'[s]? =tm[s]?
  txt: ∀i,i<n→(∀s,s∉W i→(σ (i+1)).1[s]? =(σ i).1[s]?)∧((kd i).isHeap=false→(σ (i+1)).2=(σ i).2)
  ww: ∀i j s,i<j→j<n→s∈W i→s∈W j→bef i j=true
  wr: ∀i j s,i<j→j<n→s∈W i→s∈R j→bef i j=true
  rw_: ∀i j s,i<j→j<n→s∈R i→s∈W j→bef i j=true
  hh: ∀i j,i<j→j<n→(kd i).isHeap=true→(kd j).isHeap=true→bef i j=true
  rd: ∀i ks,i<n→kd i= .read ks→
    (0∈ks∨ ∃j,(kd j).isHeap=true∧bef j i=true)∧ ∀j,j<n→(kd j).isHeap=true→j+1∈ks∨bef i j=true∨ ∃j',j<j'∧j'<n∧(kd j').isHeap=true∧bef j' i=true
section
variable {n len:Nat} {f:Nat→RS→Option RS} {σ:Nat→RS} {R W:Nat→List Nat} {kd:Nat→Kd} {bef:Nat→Nat→Bool}
def qW (W:Nat→List Nat) (s:Nat) (k:Nat):Bool:=decide (s∈W k)
def qH (kd:Nat→Kd) (k:Nat):Bool:=(kd k).isHeap
structure Stands (n len:Nat) (σ:Nat→RS) (W:Nat→List Nat) (kd:Nat→Kd) (p:Nat→Bool) (s:RS):Prop where
  len:s.1.length=len
  slot: ∀t,s.1[t]? =(σ (lastB (fun k=>p k&&qW W t k) n)).1[t]?
  heap:s.2=(σ (lastB (fun k=>p k&&qH kd k) n)).2
theorem Runs.text_slot (h:Runs n len f σ R W kd bef) (s:Nat): ∀i,i≤n→(σ (lastB (qW W s) i)).1[s]? =(σ i).1[s]?
 |0,_=>rfl
 | i +1,hi=>by
   simp only [lastB]
   cases hq:qW W s i with
   |true=>simp
   | false=>
     rw [if_neg (by simp),h.text_slot s i (by omega),(h.txt i (by omega)).1 s (by simpa [qW] using hq)]
theorem Runs.text_heap (h:Runs n len f σ R W kd bef): ∀i,i≤n→(σ (lastB (qH kd) i)).2=(σ i).2
 |0,_=>rfl
 | i +1,hi=>by
   simp only [lastB]
   cases hq:qH kd i with
   |true=>simp
   | false=>
     rw [if_neg (by simp),h.text_heap i (by omega),(h.txt i (by omega)).2 hq]
theorem Runs.step (h:Runs n len f σ R W kd bef) {p:Nat→Bool} {s:RS} (hs:Stands n len σ W kd p s) {i:Nat} (hi:i<n) (hp:p i=false)
  (hpre: ∀j,bef j i=true→p j=true) (hdn: ∀j k,p k=true→bef j k=true→p j=true):
  ∃s',f i s=some s'∧Stands n len σ W kd (fun k=>p k||decide (k=i)) s':=by
 obtain ⟨tm,H⟩:=s;have up: ∀j,bef i j=true→p j=false:=fun j hj=>by
  cases hpj:p j with
  |false=>rfl
  |true=>rw [hdn i j hpj hj] at hp;cases hp
 have hR: ∀t,t∈R i→tm[t]? =(σ i).1[t]? :=by
  intro t ht;have h1:=hs.slot t;simp only at h1;rw [h1,←h.text_slot t i (by omega),←lastB_below (n:=n) (qW W t) i (by omega)];congr 2;refine congrArg σ (lastB_congr fun k hk=> ?_)
  cases hq:qW W t k with
  |false=>simp
  | true=>
    simp only [Bool.and_true];have hw:t∈W k:=by simpa [qW] using hq
    rcases Nat.lt_trichotomy k i with hlt|he|hgt
    · rw [hpre k (h.wr k i t hlt hi hw ht)];simp [hlt]
    · subst he;rw [hp];simp
    · rw [up k (h.rw_ i k t hgt hk ht hw)];simp;omega
 have hH:match kd i with| .free=>True| .heap=>H=(σ i).2| .read ks=> ∃k,k∈ks∧H=(σ k).2:=by
  have h1:=hs.heap;simp only at h1
  cases hk:kd i with
  |free=>trivial
  | heap=>
    simp only;rw [h1,←h.text_heap i (by omega),←lastB_below (n:=n) (qH kd) i (by omega)];refine congrArg (fun x=>(σ x).2) (lastB_congr fun k hk'=> ?_)
    cases hq:qH kd k with
    |false=>simp
    | true=>
      simp only [Bool.and_true];have hih:(kd i).isHeap=true:=by rw [hk];rfl
      rcases Nat.lt_trichotomy k i with hlt|he|hgt
      · rw [hpre k (h.hh k i hlt hi hq hih)];simp [hlt]
      · subst he;rw [hp];simp
      · rw [up k (h.hh i k hgt hk' hih hq)];simp;omega
  | read ks=>
    simp only;obtain ⟨r1,r2⟩:=h.rd i ks hi hk;rcases lastB_spec (fun k=>p k&&qH kd k) n with ⟨e1,e2⟩|⟨j,j1,j2,j3,j4⟩
    · rcases r1 with r1|⟨j,j1,j2⟩
      · exact ⟨0,r1,by rw [h1,e1]⟩
      · have:=e2 j (Nat.lt_trans (h.low _ _ j2) hi);simp only [hpre j j2,Bool.true_and] at this;rw [show qH kd j=true from j1] at this;cases this
    · simp only [Bool.and_eq_true] at j2;rcases r2 j j1 j2.2 with r|r|⟨j',k1,k2,k3,k4⟩
      · exact ⟨j+1,r,by rw [h1,j3]⟩
      · rw [up j r] at j2;cases j2.1
      · have:=j4 j' k1 k2;simp only [hpre j' k4,Bool.true_and] at this;rw [show qH kd j'=true from k3] at this;cases this
 obtain ⟨tm',e1,e2,e3,e4⟩:=h.loc i hi tm H hs.len hR hH;refine ⟨_,e1,e2,fun t=> ?_,?_⟩
 · simp only;by_cases ht:t∈W i
   · rw [e3 t ht];congr 2;refine congrArg σ (Eq.symm (lastB_top hi ?_ fun j j1 j2=> ?_))
     · simp [qW,ht]
     · cases hq:qW W t j with
       |false=>simp
       | true=>
         have hw:t∈W j:=by simpa [qW] using hq
         rw [up j (h.ww i j t j1 j2 ht hw)];simp;omega
   · rw [e4 t ht];have h1:=hs.slot t;simp only at h1;rw [h1];congr 2;refine congrArg σ (lastB_congr fun k hk=> ?_);by_cases e:k=i
     · subst e;simp [qW,ht]
     · simp [e]
 · simp only
   cases hh:(kd i).isHeap with
   | true=>
     simp only [if_true];refine congrArg (fun x=>(σ x).2) (Eq.symm (lastB_top hi ?_ fun j j1 j2=> ?_))
     · simp [qH,hh]
     · cases hq:qH kd j with
       |false=>simp
       |true=>rw [up j (h.hh i j j1 j2 hh hq)];simp;omega
   | false=>
     simp only [Bool.false_eq_true,if_false];have h1:=hs.heap;simp only at h1;rw [h1];refine congrArg (fun x=>(σ x).2) (lastB_congr fun k hk=> ?_);by_cases e:k=i
     · subst e;simp [qH,hh]
     · simp [e]
theorem Runs.start (h:Runs n len f σ R W kd bef):Stands n len σ W kd (fun _=>false) (σ 0):=by
 have z: ∀(q:Nat→Bool) m,lastB (fun k=>false&&q k) m=0:=by
  intro q m
  induction m with
  |zero=>rfl
  |succ m ih=>simp only [lastB,Bool.false_and,Bool.false_eq_true,if_false];simpa using ih
 exact ⟨h.len0,fun t=>by rw [z],by rw [z]⟩
theorem Runs.lens (h:Runs n len f σ R W kd bef) {p:Nat→Bool} {s:RS} (hs:Stands n len σ W kd p s) (hall: ∀k,k<n→p k=true):s=σ n:=by obtain ⟨tm,H⟩:=s;have h1:=hs.heap;simp only at h1;rw [lastB_congr (q':=qH kd) (fun k hk=>by simp [hall k hk]),h.text_heap n (Nat.le_refl _)] at h1;refine Prod.ext ?_ h1;refine List.ext_getElem? fun t=> ?_;have h2:=hs.slot t;simp only at h2;rw [lastB_congr (q':=qW W t) (fun k hk=>by simp [hall k hk]),h.text_slot t n (Nat.le_refl _)] at h2;exact h2
end
def runL (f:Nat→RS→Option RS):List Nat→RS→Option RS
 | [],s=>some s
 | i::l,s=>match f i s with
   |some s'=>runL f l s'
   |none=>none
structure Preds (ops:Array Oper) (bef:Nat→Nat→Bool):Prop where
  edge: ∀i o e,ops[i]? =some o→e∈o.after→Region.binds .any e=true→e.on<i
  gen: ∀i j,bef j i=true→j<i∧ ∃o e,ops[i]? =some o∧e∈o.after∧Region.binds .any e=true∧(e.on=j∨bef j e.on=true)
theorem cnt_le' (q r:Nat→Bool) (hqr: ∀k,q k=true→r k=true): ∀(l:List Nat),(l.filter q).length≤(l.filter r).length:=by
 intro l
 induction l with
 |nil=>exact Nat.le_refl _
 | cons x l ih=>
   rw [List.filter_cons,List.filter_cons]
   cases hq:q x with
   |true=>rw [hqr x hq];simpa using ih
   | false=>
     cases hr:r x with
     |true=>simp only [Bool.false_eq_true,if_false,if_true,List.length_cons];omega
     |false=>simpa using ih
theorem cnt_lt' (q r:Nat→Bool) (hqr: ∀k,q k=true→r k=true) (i:Nat) (hq:q i=false) (hr:r i=true): ∀(l:List Nat),i∈l→(l.filter q).length<(l.filter r).length:=by
 intro l
 induction l with
 |nil=>intro h;simp at h
 | cons x l ih=>
   intro h;rw [List.filter_cons,List.filter_cons];by_cases e:x=i
   · subst e;rw [hq,hr];have:=cnt_le' q r hqr l;simp only [Bool.false_eq_true,if_false,if_true,List.length_cons];omega
   · have hm:i∈l:=by
      cases h with
      |head=>exact absurd rfl e
      |tail _ h=>exact h
     have:=ih hm
     cases hq':q x with
     |true=>rw [hqr x hq'];simpa using this
     | false=>
       cases hr':r x with
       |true=>simp only [Bool.false_eq_true,if_false,if_true,List.length_cons];omega
       |false=>simpa using this
theorem cnt_lt (p:Nat→Bool) (i:Nat) (hp:p i=false) (l:List Nat) (hi:i∈l):(l.filter fun k=> !(p k||decide (k=i))).length<(l.filter fun k=> !p k).length:=
 cnt_lt' _ _ (fun k h=>by simp at h⊢;exact h.1) i (by simp) (by simp [hp]) l hi
section
variable {n len:Nat} {f:Nat→RS→Option RS} {σ:Nat→RS} {R W:Nat→List Nat} {kd:Nat→Kd} {bef:Nat→Nat→Bool} {ops:Array Oper}
theorem Preds.down (hP:Preds ops bef) {p:Nat→Bool} (hc: ∀i o e,p i=true→ops[i]? =some o→e∈o.after→Region.binds .any e=true→p e.on=true):
  ∀k j,p k=true→bef j k=true→p j=true:=by
 intro k
 induction k using Nat.strongRecOn with
 | _ k ih=>
   intro j hk hj;obtain ⟨_,o,e,h1,h2,h3,h4⟩:=hP.gen k j hj;have h5:=hc k o e hk h1 h2 h3;rcases h4 with h4|h4
   · subst h4;exact h5
   · exact ih e.on (hP.edge _ _ _ h1 h2 h3) j h5 h4
theorem getD_ff {listed:Array Bool} {k:Nat} (h:k<listed.size):listed.getD k true=listed.getD k false:=by simp [Array.getD,h]
theorem getD_set {listed:Array Bool} {i k:Nat} (hi:i<listed.size):(listed.setIfInBounds i true).getD k false=(listed.getD k false||decide (k=i)):=by
 by_cases e:k=i
 · subst e;simp [Array.getD,hi]
 · have:i≠k:=fun h=>e h.symm;simp only [Array.getD_eq_getD_getElem?,Array.getElem?_setIfInBounds_ne this,e,decide_false,Bool.or_false]
theorem Runs.go (h:Runs ops.size len f σ R W kd bef) (hP:Preds ops bef): ∀(fuel t:Nat) (listed:Array Bool) (s:RS),listed.size=ops.size→
  Stands ops.size len σ W kd (fun k=>listed.getD k false) s→(∀i o e,listed.getD i false=true→ops[i]? =some o→e∈o.after→Region.binds .any e=true→listed.getD e.on false=true)→
  ((List.range ops.size).filter fun k=> !listed.getD k false).length≤fuel→
  runL f (Region.linearise.go .any ops fuel t listed []) s=some (σ ops.size):=by
 have nolist: ∀(listed:Array Bool) (s:RS),listed.size=ops.size→Stands ops.size len σ W kd (fun k=>listed.getD k false) s→
   (∀k,k<ops.size→listed.getD k false=true)→some s=some (σ ops.size):=by
  intro listed s _ hs hall;rw [h.lens hs hall]
 intro fuel
 induction fuel with
 | zero=>
   intro t listed s hsz hs hc hf;simp only [Region.linearise.go,List.reverse_nil,runL];refine nolist listed s hsz hs fun k hk=> ?_;have:((List.range ops.size).filter fun k=> !listed.getD k false)= []:=List.eq_nil_of_length_eq_zero (by omega);have:=List.filter_eq_nil_iff.1 this k (by simpa using hk);simpa using this
 | succ fuel ih=>
   intro t listed s hsz hs hc hf;simp only [Region.linearise.go]
   change runL f (match (Region.ready .any ops listed)[t%(Region.ready .any ops listed).length]? with
    |some i=>Region.linearise.go .any ops fuel (t/(Region.ready .any ops listed).length) (listed.setIfInBounds i true) [i]
    |none=> [].reverse) s=_
   cases hi:(Region.ready .any ops listed)[t%(Region.ready .any ops listed).length]? with
   | none=>
     have hnil:Region.ready .any ops listed= []:=by
      cases hr:Region.ready .any ops listed with
      |nil=>rfl
      | cons x xs=>
        rw [hr] at hi;have hlt:t%(x::xs).length<(x::xs).length:=Nat.mod_lt _ (by simp);simp at hi;simp at hlt;omega
     simp only [List.reverse_nil,runL];refine nolist listed s hsz hs ?_;intro k
     induction k using Nat.strongRecOn with
     | _ k ihk=>
       intro hk
       cases hl:listed.getD k false with
       |true=>rfl
       | false=>
         exfalso;have hm:k∈Region.ready .any ops listed:=by refine mem_ready.2 ⟨by rw [getD_ff (by omega)];exact hl,ops[k],by simp [hk],fun e he hb=> ?_⟩;have hlow:=hP.edge k ops[k] e (by simp [hk]) he hb;exact ihk e.on hlow (by omega)
         rw [hnil] at hm;cases hm
   | some i=>
     simp only;rw [linearise_go_acc,List.reverse_singleton,List.singleton_append];have hm:=List.mem_of_getElem? hi;obtain ⟨hun,o,ho,hall⟩:=mem_ready.1 hm;have hlt:i<ops.size:=(Array.getElem?_eq_some_iff.1 ho).1;rw [getD_ff (by omega)] at hun;have hdn:=hP.down hc;have hpre: ∀j,bef j i=true→listed.getD j false=true:=by
      intro j hj;obtain ⟨_,o',e,h1,h2,h3,h4⟩:=hP.gen i j hj;rw [ho] at h1;cases h1;have h5:=hall e h2 h3;rcases h4 with h4|h4
      · subst h4;exact h5
      · exact hdn _ _ h5 h4
     obtain ⟨s',e1,e2⟩:=h.step hs hlt hun hpre (fun j k hk hj=>hdn k j hk hj);simp only [runL,e1];refine ih _ _ s' (by simpa using hsz) ?_ ?_ ?_
     · have:(fun k=>(listed.setIfInBounds i true).getD k false)=fun k=>listed.getD k false||decide (k=i):=funext fun k=>getD_set (by omega);rw [this];exact e2
     · intro j o' e hj ho' he hb;rw [getD_set (by omega)] at hj⊢;simp only [Bool.or_eq_true,decide_eq_true_eq] at hj⊢;rcases hj with hj|hj
       · exact .inl (hc j o' e hj ho' he hb)
       · subst hj;rw [ho] at ho';cases ho';exact .inl (hall e he hb)
     · have:=cnt_lt (fun k=>listed.getD k false) i hun (List.range ops.size) (by simpa using hlt);have e3:((List.range ops.size).filter fun k=> !(listed.setIfInBounds i true).getD k false)=(List.range ops.size).filter fun k=> !(listed.getD k false||decide (k=i)):=
        List.filter_congr fun k _=>by rw [getD_set (by omega)]
       rw [e3];omega
theorem Runs.any (h:Runs ops.size len f σ R W kd bef) (hP:Preds ops bef) (t:Nat):runL f (Region.schedule true ops t) (σ 0)=some (σ ops.size):=by
 have hz: ∀k,(Array.replicate ops.size false).getD k false=false:=by intro k;simp only [Array.getD_eq_getD_getElem?,Array.getElem?_replicate];split<;>rfl
 simp only [Region.schedule,Bool.true_or,if_true,Region.linearise];refine h.go hP _ _ _ _ (by simp) ?_ (fun i o e hi=>by rw [hz] at hi;cases hi) ?_
 · rw [show (fun k=>(Array.replicate ops.size false).getD k false)=fun _=>false from funext hz];exact h.start
 · refine Nat.le_trans (List.length_filter_le _ _) (by simp)
end
end Go.PV
