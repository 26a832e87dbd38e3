/- A part of the proof: KB5, GW1, GW2, SZ2, GW3, GW4, GW5, GW6, GT4, GW7, GW8, GW9, GW10, GW11, GW12, GW13, GW14, KD1, KD2, WB7. -/
import Derived.Deep.DeepHandedRow
import Derived.Deep.DeepLaidRun
import Derived.Deep.DeepWitnessRowRef
import Derived.LaidLaws
import Derived.Test.YtmjfdiohjflnnaaGreatDoorRows
import Derived.Test.YtmjfdiohjflnnaaGreatDoorP04
import Derived.Test.YtmjfdiohjflnnaaGreatDoorP07
import Derived.Test.YtmjfdiohjflnnaaGreatDoorP09
import Derived.Test.YtmjfdiohjflnnaaGreatDoorP10
import Derived.Test.YtmjfdiohjflnnaaGreatDoorP11
set_option linter.all false
namespace Go.PV
open Go Go.Proofs Go.Proofs.Tryz Go.ChangeShapes Go.WideShapes Go.ChangeAt Go.RowKit
open Go.Proofs.YtmjfdiohjflnnaaGreatDoor (Rows.spaceWaysRow Rows.spaceWaysSpec)
set_option maxRecDepth 100000
def whiteZ:List Int:= [9,13,1,32,133,101,160,5760,5600,8192,8202,1,8232,8233,1,8239,8287,48,12288,12288,1]
noncomputable def laidWorld (os:Os):World:=
 let N:=(World.settled prog os).heap.size;let w0:=World.holding prog os ⟨#[Go.Obj.cells (whiteZ.map fun z=>Value.int .u16 z).toArray 505,Go.Obj.cells #[.slice (some ⟨N,0,none⟩) 7 7,.slice none 0 0,.int .i64 2] 502], #[],[]⟩;let put (h:Array Go.Obj) (g:Nat) (cs:Array Value):Array Go.Obj:=h.modify g fun
  |Go.Obj.cells _ t frozen=>Go.Obj.cells cs t frozen
  |o=>o
 {w0 with heap:=put (put (put (put (put w0.heap 1 (zs1.map (Value.int .u8)).toArray) 2 (zs2.map (Value.int .u64)).toArray) 3 #[.pointer (some ⟨N+1,0,none⟩)]) 4 (zs4.map (Value.int .u8)).toArray) 5 (zs5.map (Value.int .u8)).toArray}
theorem laid_met (os:Os) (args:Array Value):laidMet prog Rows.spaceWaysRow.laid ((laidWorld os).forCall (fun _ _=>0) ⟨#[],args,[]⟩).memory:=
 laidMet_of_run3 10 (by kernel_rfl) (by kernel_rfl) (by kernel_rfl)
open Go Go.Proofs.Tryz
set_option maxRecDepth 100000
section
variable (pr:Nat→Option (List Val→Hp→FRes)) (lf:Nat)
theorem c34 (hp:pr 34=none) (k:Nat) (ss es:Val) (sr er:List (List Val)) (i:Int) (H:Hp) (hs:IsSl ss sr) (he:IsSl es er):
  EV pr lf (k+1) 34 [.agg [ss,es],.int .i64 i] H= .ret (.bool (decide (0≤i)&&decide (i<er.length))) H:=by
 unfold EV;rw [evalFn_S (E1 pr) okd lf k 34 12 _ H f34 _ hp (fns_34 pr) rfl rfl]
 cases h0:decide (i≥0) with
 | true=>
   have h1:decide (0≤i)=true:=h0;simp only [go_sem,hs.opdV,he.opdV,hs.okCell,he.okCell,he.len,h0,h1]
 | false=>
   have h1:decide (0≤i)=false:=h0;simp only [go_sem,hs.opdV,he.opdV,hs.okCell,he.okCell,he.len,h0,h1]
def IsI (x:Val) (l:List Int):Prop:=IsSl x (l.map iR)
theorem c11 (hp:pr 11=none) (k:Nat) (x y:Val) (l m:List Int) (H:Hp) (hx:IsI x l) (hy:IsI y m) (hl:l.length<4611686018427387904) (hlf:l.length<lf) (hm:m.length<4611686018427387904):
  EV pr lf (k+1) 11 [x,y] H= .ret (.bool (decide (l=m))) H:=by
 unfold EV;have hx:IsSl x (l.map iR):=hx;have hy:IsSl y (m.map iR):=hy;rw [evalFn_S (E1 pr) okd lf k 11 24 _ H f11 _ hp (fns_11 pr) rfl rfl]
 cases hc:((l.length:Int) !=(m.length:Int)) with
 | true=>
   have hne:decide (l=m)=false:=decide_eq_false fun e=>by simp [e] at hc
   simp only [go_sem,hx.opdV,hy.opdV,hx.len,hy.len,List.length_map,hc,hne]
 |false=>
 have hlm0:(l.length:Int)=m.length:=by simpa using hc
 have hlm:l.length=m.length:=by omega
 simp only [go_sem,hx.opdV,hy.opdV,hx.len,hy.len,List.length_map,hc];generalize hL:loopC _ _ _ _ _ _ _ _ _ _=L;let Q (L:CRes):Prop:=(∃tm,L= .exit 0 tm H []∧tm.length=26∧l=m)∨(∃tm,L= .ret tm H []∧getT tm 4= .bool false∧l≠m);have hQ:Q L:=by
  subst hL;refine loop_up _ Q
   (fun j tm H1=>tm.length=26∧getT tm 0=x∧getT tm 1=y∧getT tm 12= .int .i64 l.length∧getT tm 13= .int .i64 j∧H1=H∧l.take j=m.take j)
   l.length ?_ lf 0 _ _ (Nat.zero_le _) (by omega) (by simp [go_sem])
  rintro j tm H1 hj ⟨hl1,h0,h1,h12,h13,rfl,ht⟩;generalize hB:evalCode _ _ _ _ _ _ tm H1 []=R;by_cases hjn:j<l.length
  · have hlt:decide ((j:Int)<(l.length:Int))=true:=by simp;omega
    have hw:IntKind.i64.wrap ((j:Int)+1)=((j+1:Nat):Int):=by rw [wrap64 _ (by omega) (by omega)];rfl
    have hf:(l.map iR)[j]? =some [.int .i64 (gi l j)]:=by rw [List.getElem?_map,gi_some hjn];rfl
    have hg:(m.map iR)[j]? =some [.int .i64 (gi m j)]:=by rw [List.getElem?_map,gi_some (by omega)];rfl
    cases hc2:(gi l j !=gi m j) with
    | true=>
      simp only [go_sem,hl1,h0,h1,h12,h13,hx.opdV,hy.opdV,hlt,hw,hx.ix (k:=1) hf rfl,hy.ix (k:=1) hg rfl,hc2] at hB;subst hB;refine .inr ⟨rfl,.inr ⟨_,rfl,by simp only [go_sem,hl1],fun e=> ?_⟩⟩;rw [e] at hc2;simp at hc2
    | false=>
      simp only [go_sem,hl1,h0,h1,h12,h13,hx.opdV,hy.opdV,hlt,hw,hx.ix (k:=1) hf rfl,hy.ix (k:=1) hg rfl,hc2] at hB;subst hB;refine .inl ⟨_,_,rfl,hjn,?_⟩;have htk:l.take (j+1)=m.take (j+1):=by rw [List.take_add_one,List.take_add_one,ht,gi_some hjn,gi_some (show j<m.length by omega),show gi l j=gi m j by simpa using hc2]
      simp only [go_sem,hl1,h0,h1,h12,htk]
  · have hj2:j=l.length:=by omega
    subst hj2;rw [List.take_length,hlm,List.take_length] at ht;have hlt:decide ((l.length:Int)<(l.length:Int))=false:=by simp
    simp only [go_sem,hl1,h12,h13,hlt] at hB;subst hB;refine .inr ⟨rfl,.inl ⟨_,rfl,?_,ht⟩⟩;simp only [go_sem,hl1]
 rcases hQ with ⟨tm,rfl,hl1,ha⟩|⟨tm,rfl,h4,ha⟩
 · simp only [go_sem,hl1,decide_eq_true ha]
 · simp only [go_sem,h4,decide_eq_false ha]
def finL (adj:List (List (List Val))) (x:Nat):List Int:=((List.range x).filter fun k=>decide (((adj[k]?).getD []).length=0)).map Int.ofNat
theorem finL_succ (adj:List (List (List Val))) (x:Nat):finL adj (x+1)=if decide (((adj[x]?).getD []).length=0)=true then finL adj x++ [(x:Int)] else finL adj x:=by
 unfold finL;rw [List.range_succ,List.filter_append,List.map_append];cases h:decide (((adj[x]?).getD []).length=0)
 · rw [if_neg (by simp)];simp only [List.filter_cons,List.filter_nil,h,Bool.false_eq_true,if_false,List.map_nil,List.append_nil]
 · rw [if_pos rfl];simp only [List.filter_cons,List.filter_nil,h,if_true,List.map_cons,List.map_nil];rfl
theorem finL_len (adj:List (List (List Val))) (x:Nat):(finL adj x).length≤x:=by unfold finL;rw [List.length_map];exact Nat.le_trans (List.length_filter_le _ _) (by simp)
theorem c7 (hp:noPr pr) (hpf:pr 7=none) (k:Nat) (ss es:Val) (sr er:List (List Val)) (adj:List (List (List Val))) (H:Hp) (g:Gph lf ss es sr er adj):
  ∃ H' v e,EV pr lf (k+5) 7 [.agg [ss,es]] H= .ret (.tup [v,.int .i64 e]) H'∧Ext H H'∧
    ((shapeB sr.length adj=false∧e=2∧v= .nilsl)∨(shapeB sr.length adj=true∧e=0∧MV H.n H' v (finL adj er.length))):=by
 have g':=g;obtain ⟨hs,he,hg,hsl,hn,hm,hrow,hbig⟩:=g;unfold EV;rw [evalFn_S (E1 pr) okd lf (k+4) 7 26 _ H f7 _ hpf (fns_7 pr) rfl rfl];obtain ⟨H1,h1,e1⟩:=c9 pr lf (hp 9 (by decide)) (hp 30 (by decide)) (hp 55 (by decide)) (hp 31 (by decide)) k ss es sr er adj H hs he hg hsl hn (fun l hl=>(hrow l hl).2);have e2:=Ext.gc e1 (.bool (shapeB sr.length adj));generalize hG:gc H.n (.bool (shapeB sr.length adj)) H1=H2 at*
 cases hsh:shapeB sr.length adj with
 | false=>
   rw [hsh] at h1 hG;simp only [go_sem,hs.opdV,hs.okCell,he.okCell,h1,hG];exact ⟨_,_,_,rfl,e2,.inl ⟨rfl,rfl⟩⟩
 |true=>
 rw [hsh] at h1 hG;obtain ⟨hn0,hn4,hal,hto⟩:=shape_of hsh;simp only [go_sem,hs.opdV,hs.okCell,he.okCell,he.opdV,he.len,h1,hG];generalize hL:loopC _ _ _ _ _ _ _ _ _ _=L;let Q (L:CRes):Prop:= ∃tm H' v,L= .exit 0 tm H' []∧tm.length=27∧getT tm 4=v∧MV H.n H' v (finL adj er.length)∧H2.n≤H'.n∧(∀i,i<H.n→H'.get i=H2.get i);have hQ:Q L:=by
  subst hL;refine loop_up _ Q (fun x tm H1=>tm.length=27∧getT tm 11=es∧getT tm 12= .int .i64 er.length∧getT tm 13= .int .i64 x∧ ∃v,getT tm 4=v∧MV H.n H1 v (finL adj x)∧H2.n≤H1.n∧(∀i,i<H.n→H1.get i=H2.get i))
   er.length ?_ lf 0 _ _ (Nat.zero_le _) (by omega) ?_
  · rintro x tm H1 hx ⟨hl,h11,h12,h13,v,h4,hm1,hn1,hk1⟩;generalize hB:evalCode _ _ _ _ _ _ tm H1 []=R;by_cases hxn:x<er.length
    · obtain ⟨r,hr0⟩: ∃r,er[x]? =some r:=⟨er[x],by simp [hxn]⟩;obtain ⟨y,rows,rfl,hadj,hy,hys,hee⟩:=hg.row x r hr0;have hlt:decide ((x:Int)<(er.length:Int))=true:=by simp;omega
      have hw:IntKind.i64.wrap ((x:Int)+1)=((x+1:Nat):Int):=by rw [wrap64 _ (by have:=hg.small;omega) (by have:=hg.small;omega)];rfl
      have hrl:=finL_len adj x;have hsc:=finL_succ adj x;rw [hadj] at hsc;obtain ⟨v',H',happ,hm2,hn2,hk2⟩:=hm1.append (x:Int) (by have:=e2.1;omega) (by have:=hg.len;omega)
      cases hc:((rows.length:Int)==0) with
      | true=>
        rw [if_pos (by simpa using hc)] at hsc;simp only [go_sem,hl,h4,h11,h12,h13,hlt,hw,he.opdV,hy.opdV,hy.len,he.ix (k:=1) hr0 rfl,hc,hm1.opdV,bs28,app28,happ] at hB;subst hB;refine .inl ⟨_,_,rfl,hxn,?_⟩;simp only [go_sem,hl,h11,h12];exact ⟨_,hm2.opdV _,by rw [hsc];exact hm2,by omega,fun i hi=>by rw [hk2 i hi,hk1 i hi]⟩
      | false=>
        rw [if_neg (by simpa using hc)] at hsc;simp only [go_sem,hl,h11,h12,h13,hlt,hw,he.opdV,hy.opdV,hy.len,he.ix (k:=1) hr0 rfl,hc] at hB;subst hB;refine .inl ⟨_,_,rfl,hxn,?_⟩;simp only [go_sem,hl,h11,h12];exact ⟨v,h4,by rw [hsc];exact hm1,hn1,hk1⟩
    · have hx2:x=er.length:=by omega
      subst hx2;have hlt:decide ((er.length:Int)<(er.length:Int))=false:=by simp
      simp only [go_sem,hl,h12,h13,hlt] at hB;subst hB;refine .inr ⟨rfl,_,_,v,rfl,?_,?_,hm1,hn1,hk1⟩
      · simp only [go_sem,hl]
      · simp only [go_sem,hl,h4]
  · simp only [go_sem];refine ⟨rfl,_,rfl,.inl ⟨rfl,rfl⟩,fun _ _=>trivial⟩
 obtain ⟨tm,H4,v,rfl,hl,h4,hm4,hn4',hk4⟩:=hQ;simp only [go_sem,hl,h4,hm4.opdV,hm4.noLoc];refine ⟨_,_,_,rfl,⟨?_,fun i hi=> ?_⟩,.inr ⟨rfl,hm4⟩⟩
 · have:=e2.1;omega
 · have:=e2.1;rw [hk4 i hi,e2.2 i hi]
theorem c8 (hp:noPr pr) (hpf:pr 8=none) (k:Nat) (ss es:Val) (sr er:List (List Val)) (adj:List (List (List Val))) (H:Hp) (g:Gph lf ss es sr er adj):
  ∃ H' v e,EV pr lf (k+5) 8 [.agg [ss,es]] H= .ret (.tup [v,.int .i64 e]) H'∧Ext H H'∧
    ((shapeB sr.length adj=false∧e=2∧v= .nilsl)∨(shapeB sr.length adj=true∧e=0∧MV H.n H' v (finL adj er.length))):=by
 have g':=g;obtain ⟨hs,he,hg,hsl,hn,hm,hrow,hbig⟩:=g;unfold EV;rw [evalFn_S (E1 pr) okd lf (k+4) 8 26 _ H f8 _ hpf (fns_8 pr) rfl rfl];obtain ⟨H1,h1,e1⟩: ∃H1,EV pr lf (k+4) 10 [.agg [ss,es]] H= .ret (.bool (shapeB sr.length adj)) H1∧Ext H H1:=⟨H,c10 pr lf hp (k+3) ss es sr er adj H g',Ext.refl _⟩;have e2:=Ext.gc e1 (.bool (shapeB sr.length adj));generalize hG:gc H.n (.bool (shapeB sr.length adj)) H1=H2 at*
 cases hsh:shapeB sr.length adj with
 | false=>
   rw [hsh] at h1 hG;simp only [go_sem,hs.opdV,hs.okCell,he.okCell,h1,hG];exact ⟨_,_,_,rfl,e2,.inl ⟨rfl,rfl⟩⟩
 |true=>
 rw [hsh] at h1 hG;obtain ⟨hn0,hn4,hal,hto⟩:=shape_of hsh;simp only [go_sem,hs.opdV,hs.okCell,he.okCell,he.opdV,he.len,h1,hG];generalize hL:loopC _ _ _ _ _ _ _ _ _ _=L;let Q (L:CRes):Prop:= ∃tm H' v,L= .exit 0 tm H' []∧tm.length=27∧getT tm 4=v∧MV H.n H' v (finL adj er.length)∧H2.n≤H'.n∧(∀i,i<H.n→H'.get i=H2.get i);have hQ:Q L:=by
  subst hL;refine loop_up _ Q (fun x tm H1=>tm.length=27∧getT tm 11=es∧getT tm 12= .int .i64 er.length∧getT tm 13= .int .i64 x∧ ∃v,getT tm 4=v∧MV H.n H1 v (finL adj x)∧H2.n≤H1.n∧(∀i,i<H.n→H1.get i=H2.get i))
   er.length ?_ lf 0 _ _ (Nat.zero_le _) (by omega) ?_
  · rintro x tm H1 hx ⟨hl,h11,h12,h13,v,h4,hm1,hn1,hk1⟩;generalize hB:evalCode _ _ _ _ _ _ tm H1 []=R;by_cases hxn:x<er.length
    · obtain ⟨r,hr0⟩: ∃r,er[x]? =some r:=⟨er[x],by simp [hxn]⟩;obtain ⟨y,rows,rfl,hadj,hy,hys,hee⟩:=hg.row x r hr0;have hlt:decide ((x:Int)<(er.length:Int))=true:=by simp;omega
      have hw:IntKind.i64.wrap ((x:Int)+1)=((x+1:Nat):Int):=by rw [wrap64 _ (by have:=hg.small;omega) (by have:=hg.small;omega)];rfl
      have hrl:=finL_len adj x;have hsc:=finL_succ adj x;rw [hadj] at hsc;obtain ⟨v',H',happ,hm2,hn2,hk2⟩:=hm1.append (x:Int) (by have:=e2.1;omega) (by have:=hg.len;omega)
      cases hc:((rows.length:Int)==0) with
      | true=>
        rw [if_pos (by simpa using hc)] at hsc;simp only [go_sem,hl,h4,h11,h12,h13,hlt,hw,he.opdV,hy.opdV,hy.len,he.ix (k:=1) hr0 rfl,hc,hm1.opdV,bs28,app28,happ] at hB;subst hB;refine .inl ⟨_,_,rfl,hxn,?_⟩;simp only [go_sem,hl,h11,h12];exact ⟨_,hm2.opdV _,by rw [hsc];exact hm2,by omega,fun i hi=>by rw [hk2 i hi,hk1 i hi]⟩
      | false=>
        rw [if_neg (by simpa using hc)] at hsc;simp only [go_sem,hl,h11,h12,h13,hlt,hw,he.opdV,hy.opdV,hy.len,he.ix (k:=1) hr0 rfl,hc] at hB;subst hB;refine .inl ⟨_,_,rfl,hxn,?_⟩;simp only [go_sem,hl,h11,h12];exact ⟨v,h4,by rw [hsc];exact hm1,hn1,hk1⟩
    · have hx2:x=er.length:=by omega
      subst hx2;have hlt:decide ((er.length:Int)<(er.length:Int))=false:=by simp
      simp only [go_sem,hl,h12,h13,hlt] at hB;subst hB;refine .inr ⟨rfl,_,_,v,rfl,?_,?_,hm1,hn1,hk1⟩
      · simp only [go_sem,hl]
      · simp only [go_sem,hl,h4]
  · simp only [go_sem];refine ⟨rfl,_,rfl,.inl ⟨rfl,rfl⟩,fun _ _=>trivial⟩
 obtain ⟨tm,H4,v,rfl,hl,h4,hm4,hn4',hk4⟩:=hQ;simp only [go_sem,hl,h4,hm4.opdV,hm4.noLoc];refine ⟨_,_,_,rfl,⟨?_,fun i hi=> ?_⟩,.inr ⟨rfl,hm4⟩⟩
 · have:=e2.1;omega
 · have:=e2.1;rw [hk4 i hi,e2.2 i hi]
end
def Bf (Q:List Int) (x y:Nat):Prop:=Q.idxOf (x:Int)<Q.idxOf (y:Int)
theorem ix_app {Q R:List Int} {a:Int} (h:a∈Q):(Q++R).idxOf a=Q.idxOf a:=by rw [List.idxOf_append,if_pos h]
theorem ix_new {Q:List Int} {a:Int} (h:a∉Q):(Q++ [a]).idxOf a=Q.length:=by rw [List.idxOf_append,if_neg h];simp
theorem Bf.mem {Q x y} (h:Bf Q x y):(x:Int)∈Q:=List.idxOf_lt_length_iff.1 (Nat.lt_of_lt_of_le h List.idxOf_le_length)
theorem Bf.app {Q:List Int} {x y:Nat} {R:List Int} (h:Bf Q x y) (hy:(y:Int)∈Q):Bf (Q++R) x y:=by unfold Bf;rw [ix_app h.mem,ix_app hy];exact h
theorem Bf.new {Q:List Int} {x t:Nat} (hx:(x:Int)∈Q) (ht:(t:Int)∉Q):Bf (Q++ [(t:Int)]) x t:=by unfold Bf;rw [ix_app hx,ix_new ht];exact List.idxOf_lt_length_iff.2 hx
theorem Bf.inv {Q:List Int} {x y t:Nat} (h:Bf (Q++ [(t:Int)]) x y) (ht:(t:Int)∉Q) (hy:(y:Int)∈Q++ [(t:Int)]):(x:Int)∈Q∧(y=t∨(y:Int)∈Q∧Bf Q x y):=by
 by_cases hyQ:(y:Int)∈Q
 · have h1:=h;unfold Bf at h1;rw [ix_app hyQ] at h1;have hxQ:(x:Int)∈Q:=by refine Classical.byContradiction fun hn=> ?_;rw [List.idxOf_append,if_neg hn] at h1;have:=List.idxOf_lt_length_iff.2 hyQ;omega
   rw [ix_app hxQ] at h1;exact ⟨hxQ,.inr ⟨hyQ,h1⟩⟩
 · have hyt:(y:Int)=t:=by simpa [hyQ] using hy
   have:y=t:=by omega
   subst this;refine ⟨?_,.inl rfl⟩;unfold Bf at h;rw [ix_new hyQ] at h;refine Classical.byContradiction fun hn=> ?_;rw [List.idxOf_append,if_neg hn] at h;omega
def Dn (P:List Int) (k:Nat) (q:List Int) (x e:Nat):Prop:=(x:Int)∈P∨(q.head? =some (x:Int)∧e<k)
structure Ord (n i:Nat) (A:Nat→List Nat) (P:List Int) (k:Nat) (s:BS):Prop where
  nd:(P++s.q).Nodup
  fnd: ∀v,v<n→(0≤gi s.fa v↔(v:Int)∈P++s.q)
  rng: ∀x∈P++s.q,∃v:Nat,v<n∧x=v
  dn: ∀x e t:Nat,Dn P k s.q x e→(A x)[e]? =some t→(t:Int)∈P++s.q∧gi s.fa t≤gi s.fa x+1
  fst: ∀v,v<n→0≤gi s.fa v→v≠i→ ∃p e:Nat,p<n∧gi s.fr v=p∧gi s.ed v=e∧(p:Int)∈P++s.q∧ ∀x e' t:Nat,Bf (P++s.q) x p∨(x=p∧e'<e)→(A x)[e']? =some t→Bf (P++s.q) t v
  srt: ∀x y:Nat,(y:Int)∈P++s.q→Bf (P++s.q) x y→gi s.fa x≤gi s.fa y
  bnd: ∀a:Nat,s.q.head? =some (a:Int)→ ∀y:Nat,(y:Int)∈P++s.q→gi s.fa y≤gi s.fa a+1
theorem Ord.headBf {n i A P k s} (h:Ord n i A P k s) {a:Nat} (ha:s.q.head? =some (a:Int)) {x:Nat} (hx:Bf (P++s.q) x a):(x:Int)∈P:=by
 have hnd:=h.nd
 cases hq:s.q with
 |nil=>rw [hq] at ha;cases ha
 | cons b q=>
   rw [hq] at ha hx hnd;cases ha;have haP:(a:Int)∉P:=fun hm=>(List.nodup_append.1 hnd).2.2 _ hm _ (List.mem_cons_self ..) rfl;unfold Bf at hx;rw [List.idxOf_append,List.idxOf_append,if_neg haP] at hx;refine Classical.byContradiction fun hn=> ?_;rw [if_neg hn] at hx;simp at hx;omega
theorem Ord.relax {n i:Nat} {A:Nat→List Nat} {P:List Int} {k a t:Nat} {b:Int} {s:BS} (h:Ord n i A P k s) (hw:WfS n b s) (ha:s.q.head? =some (a:Int)) (ht:(A a)[k]? =some t) (htn:t<n) (hi:0≤gi s.fa i):
  Ord n i A P (k+1) (relax a k s t):=by
 have haQ:(a:Int)∈P++s.q:=List.mem_append_right _ (List.mem_of_mem_head? ha);have han:a<n:=by obtain ⟨v,hv,e⟩:=h.rng _ haQ;omega
 have dn1: ∀x e u:Nat,Dn P (k+1) s.q x e→(A x)[e]? =some u→Dn P k s.q x e∨(x=a∧e=k∧u=t):=by
  intro x e u hd hu;rcases hd with hd|⟨hd,he⟩
  · exact .inl (.inl hd)
  · rw [ha] at hd;have:x=a:=by cases hd;rfl
    subst this;by_cases hek:e=k
    · subst hek;rw [ht] at hu;cases hu;exact .inr ⟨rfl,rfl,rfl⟩
    · exact .inl (.inr ⟨ha,by omega⟩)
 unfold Go.PV.relax;split
 · next hlt =>
   have htQ:(t:Int)∉P++s.q:=fun hm=>by have:=(h.fnd t htn).2 hm;omega
   have hta:t≠a:=fun e=>htQ (e▸haQ);have hti:t≠i:=fun e=>by rw [e] at hlt;omega
   have hg: ∀v,gi (s.fa.set t (gi s.fa a+1)) v=if t=v then gi s.fa a+1 else gi s.fa v:=fun v=>by rw [gi_set,hw.lfa];simp [htn]
   have ha0:0≤gi s.fa a:=(h.fnd a han).2 haQ;have hhd:(s.q++ [(t:Int)]).head? =some (a:Int):=by
    cases hq:s.q with
    |nil=>rw [hq] at ha;cases ha
    |cons b q=>rw [hq] at ha;exact ha
   have hgo: ∀v:Nat,(v:Int)∈P++s.q→gi (s.fa.set t (gi s.fa a+1)) v=gi s.fa v:=fun v hv=>by rw [hg,if_neg];intro e;exact htQ (e▸hv)
   have hdn: ∀x e:Nat,Dn P k (s.q++ [(t:Int)]) x e→Dn P k s.q x e:=fun x e hd=>by
    rcases hd with hd|⟨hd,he⟩
    · exact .inl hd
    · rw [hhd,←ha] at hd;exact .inr ⟨hd,he⟩
   have hdx: ∀x e:Nat,Dn P k s.q x e→(x:Int)∈P++s.q:=fun x e hd=>by
    rcases hd with hd|⟨hd,-⟩
    · exact List.mem_append_left _ hd
    · exact List.mem_append_right _ (List.mem_of_mem_head? hd)
   have hmem: ∀v:Nat,(v:Int)∈(P++s.q)++ [(t:Int)]↔(v:Int)∈P++s.q∨v=t:=fun v=>by
    rw [List.mem_append,List.mem_singleton];constructor
    · rintro (h|h)
      · exact .inl h
      · exact .inr (by omega)
    · rintro (h|h)
      · exact .inl h
      · exact .inr (by omega)
   have key :Ord n i A P (k+1) ⟨s.fr.set t a,s.ed.set t k,s.fa.set t (gi s.fa a+1),s.q++ [(t:Int)]⟩:=by
    refine ⟨?_,?_,?_,?_,?_,?_,?_⟩
    · show (P++(s.q++ [(t:Int)])).Nodup;rw [←List.append_assoc,List.nodup_append];exact ⟨h.nd,by simp,fun x hx y hy e=>by rw [List.mem_singleton] at hy;subst hy;subst e;exact htQ hx⟩
    · intro v hv;show 0≤gi (s.fa.set t (gi s.fa a+1)) v↔(v:Int)∈P++(s.q++ [(t:Int)]);rw [←List.append_assoc,hmem,hg];by_cases e:t=v
      · rw [if_pos e];exact ⟨fun _=> .inr e.symm,fun _=>by omega⟩
      · rw [if_neg e,h.fnd v hv];exact ⟨fun h=> .inl h,fun h=>h.resolve_right fun e'=>e e'.symm⟩
    · intro x hx;change x∈P++(s.q++ [(t:Int)]) at hx;rw [←List.append_assoc,List.mem_append,List.mem_singleton] at hx;rcases hx with hx|hx
      · exact h.rng x hx
      · exact ⟨t,htn,hx⟩
    · intro x e u hd hu;show (u:Int)∈P++(s.q++ [(t:Int)])∧gi (s.fa.set t (gi s.fa a+1)) u≤gi (s.fa.set t (gi s.fa a+1)) x+1;have hd':Dn P (k+1) s.q x e:=by
       rcases hd with hd|⟨hd,he⟩
       · exact .inl hd
       · change (s.q++ [(t:Int)]).head? =some (x:Int) at hd;rw [hhd,←ha] at hd;exact .inr ⟨hd,he⟩
      rw [←List.append_assoc,hmem];rcases dn1 x e u hd' hu with hd|⟨rfl,rfl,rfl⟩
      · obtain ⟨h1,h2⟩:=h.dn x e u hd hu;rw [hgo u h1,hgo x (hdx x e hd)];exact ⟨.inl h1,h2⟩
      · rw [hg,if_pos rfl,hgo _ haQ];exact ⟨.inr rfl,Int.le_refl _⟩
    · intro v hv h0 hvi;change 0≤gi (s.fa.set t (gi s.fa a+1)) v at h0;show∃p e:Nat,p<n∧gi (s.fr.set t a) v=p∧gi (s.ed.set t k) v=e∧(p:Int)∈P++(s.q++ [(t:Int)])∧ ∀x e' t':Nat,Bf (P++(s.q++ [(t:Int)])) x p∨(x=p∧e'<e)→(A x)[e']? =some t'→Bf (P++(s.q++ [(t:Int)])) t' v;rw [←List.append_assoc];by_cases e:t=v
      · subst e;refine ⟨a,k,han,?_,?_,(hmem a).2 (.inl haQ),fun x e' t' hx hu=> ?_⟩
        · rw [gi_set,if_pos ⟨rfl,by rw [hw.lfr];exact htn⟩]
        · rw [gi_set,if_pos ⟨rfl,by rw [hw.led];exact htn⟩]
        · have hd:Dn P k s.q x e':=by
           rcases hx with hx|⟨rfl,he⟩
           · obtain ⟨-,hx|⟨-,hx⟩⟩:=hx.inv htQ ((hmem a).2 (.inl haQ))
             · exact absurd hx.symm hta
             · exact .inl (h.headBf ha hx)
           · exact .inr ⟨ha,he⟩
          exact Bf.new (h.dn x e' t' hd hu).1 htQ
      · rw [hg,if_neg e] at h0;obtain ⟨p,e2,h1,h2,h3,h4,h5⟩:=h.fst v hv h0 hvi;refine ⟨p,e2,h1,?_,?_,(hmem p).2 (.inl h4),fun x e' t' hx hu=> ?_⟩
        · rw [gi_set,if_neg (fun h=>e h.1),h2]
        · rw [gi_set,if_neg (fun h=>e h.1),h3]
        · refine (h5 x e' t' ?_ hu).app ((h.fnd v hv).1 h0);rcases hx with hx|hx
          · obtain ⟨-,hx|⟨-,hx⟩⟩:=hx.inv htQ ((hmem p).2 (.inl h4))
            · exact absurd (hx▸h4) htQ
            · exact .inl hx
          · exact .inr hx
    · intro x y hy hxy;change (y:Int)∈P++(s.q++ [(t:Int)]) at hy;change Bf (P++(s.q++ [(t:Int)])) x y at hxy;rw [←List.append_assoc] at hy hxy;show gi (s.fa.set t (gi s.fa a+1)) x≤gi (s.fa.set t (gi s.fa a+1)) y;obtain ⟨hx,rfl|⟨hyQ,hb⟩⟩:=hxy.inv htQ hy
      · rw [hgo x hx,hg,if_pos rfl];exact h.bnd a ha x hx
      · rw [hgo x hx,hgo y hyQ];exact h.srt x y hyQ hb
    · intro a' ha' y hy;change (s.q++ [(t:Int)]).head? =some (a':Int) at ha';rw [hhd] at ha';have:a'=a:=by cases ha';rfl
      subst this;change (y:Int)∈P++(s.q++ [(t:Int)]) at hy;rw [←List.append_assoc,hmem] at hy;show gi (s.fa.set t (gi s.fa a'+1)) y≤gi (s.fa.set t (gi s.fa a'+1)) a'+1;rw [hgo a' haQ];rcases hy with hy|rfl
      · rw [hgo y hy];exact h.bnd a' ha y hy
      · rw [hg,if_pos rfl];exact Int.le_refl _
   exact key
 · next hlt=>
   have htQ:(t:Int)∈P++s.q:=(h.fnd t htn).1 (by omega);refine ⟨h.nd,h.fnd,h.rng,fun x e u hd hu=> ?_,h.fst,h.srt,h.bnd⟩;rcases dn1 x e u hd hu with hd|⟨rfl,rfl,rfl⟩
   · exact h.dn x e u hd hu
   · exact ⟨htQ,h.bnd _ ha _ htQ⟩
theorem relaxN_head {at':Nat} {ts:List Nat} {s:BS} {a:Int} (ha:s.q.head? =some a): ∀j,(relaxN at' ts j s).q.head? =some a
 |0=>ha
 | j + 1=>by
   have ih:=relaxN_head (at':=at') (ts:=ts) ha j;simp only [relaxN]
   cases ts[j]? with
   |none=>exact ih
   | some t=>
     simp only [Go.PV.relax];split
     · cases hq:(relaxN at' ts j s).q with
       |nil=>rw [hq] at ih;cases ih
       |cons b q=>rw [hq] at ih;exact ih
     · exact ih
theorem relaxN_ord {n i:Nat} {A:Nat→List Nat} {P:List Int} {a:Nat} {b:Int} {s:BS} (h:Ord n i A P 0 s) (hw:WfS n b s) (hp:Par n i A s) (ha:s.q.head? =some (a:Int)) (hA: ∀t∈A a,t<n) (hb: -1≤b): ∀j,j≤(A a).length→Ord n i A P j (relaxN a (A a) j s)
 |0,_=>h
 |j+1,hj=>by have ih:=relaxN_ord h hw hp ha hA hb j (by omega);obtain ⟨h0,h1,h2⟩:=hw.qok a (List.mem_of_mem_head? ha);obtain ⟨hw',-,-,-⟩:=relaxN_wf hw a (A a) hA h2 hb (by omega) j;have hp':=relaxN_par hp hw a hA (by omega) h2 hb j;simp only [relaxN];have ht:(A a)[j]? =some (A a)[j]:=List.getElem?_eq_getElem (by omega);rw [ht];exact ih.relax hw' (relaxN_head ha j) ht (hA _ (List.getElem_mem _)) (by rw [hp'.root];omega)
theorem Ord.pop {n i:Nat} {A:Nat→List Nat} {P:List Int} {k a:Nat} {s:BS} (h:Ord n i A P k s) (ha:s.q.head? =some (a:Int)) (hk:(A a).length≤k):Ord n i A (P++ [(a:Int)]) 0 {s with q:=s.q.tail}:=by
 obtain ⟨q,hq⟩: ∃q,s.q=(a:Int)::q:=by
  cases hq:s.q with
  |nil=>rw [hq] at ha;cases ha
  |cons b q=>rw [hq] at ha;cases ha;exact ⟨q,rfl⟩
 have e:P++ [(a:Int)]++s.q.tail=P++s.q:=by rw [hq];simp
 have hlt: ∀a',s.q.tail.head? =some (a':Int)→(a':Int)∈P++s.q∧Bf (P++s.q) a a'.toNat∧((a'.toNat:Nat):Int)=a':=by
  intro a' ha';have hm:(a':Int)∈s.q.tail:=List.mem_of_mem_head? ha';have hm2:(a':Int)∈P++s.q:=by rw [←e];exact List.mem_append_right _ hm
  obtain ⟨v,-,hv⟩:=h.rng _ hm2;have hvv:((a'.toNat:Nat):Int)=a':=by omega
  refine ⟨hm2,?_,hvv⟩;have hnd:=h.nd;rw [hq] at hnd hm ha';simp only [List.tail_cons] at hm ha';obtain ⟨h1,h2,h3⟩:=List.nodup_append.1 hnd;have haP:(a:Int)∉P:=fun hm=>h3 _ hm _ (List.mem_cons_self ..) rfl;have haP':a'∉P:=fun hm'=>h3 _ hm' _ (List.mem_cons_of_mem _ hm) rfl;have hne:(a:Int)≠a':=fun e=>(List.nodup_cons.1 h2).1 (e▸hm);unfold Bf;rw [hq,hvv,List.idxOf_append,List.idxOf_append,if_neg haP,if_neg haP',List.idxOf_cons,List.idxOf_cons,beq_false_of_ne hne];simp
 refine ⟨by rw [e];exact h.nd,fun v hv=>by rw [e];exact h.fnd v hv,fun x hx=>h.rng x (by rw [←e];exact hx),fun x e' t hd hu=> ?_,fun v hv h0 hvi=>by rw [e];exact h.fst v hv h0 hvi,fun x y hy hb=>by rw [e] at hy hb;exact h.srt x y hy hb,fun a' ha' y hy=> ?_⟩
 · rw [e];refine h.dn x e' t ?_ hu;rcases hd with hd|⟨-,hd⟩
   · rw [List.mem_append,List.mem_singleton] at hd;rcases hd with hd|hd
     · exact .inl hd
     · have:x=a:=by omega
       subst this;refine .inr ⟨ha,?_⟩;have:=(List.getElem?_eq_some_iff.1 hu).1;omega
   · omega
 · rw [e] at hy;obtain ⟨h1,h2,h3⟩:=hlt a' ha';have h4:=h.srt a a' h1 h2;have h5:=h.bnd a ha y hy;show gi s.fa y≤gi s.fa a'+1;omega
theorem iterS_ord {n i:Nat} {A:Nat→List Nat} (hi:i<n) (hA: ∀a,a<n→ ∀t∈A a,t<n): ∀m,∃P,Ord n i A P 0 (iterS A m (bs0 n i))
 | 0 =>by
   refine ⟨[],?_⟩;have hf: ∀v,v<n→(0≤gi ((List.replicate n (-1:Int)).set i 0) v↔v=i):=fun v hv=>by
    rw [gi_set];by_cases e:i=v
    · rw [if_pos ⟨e,by simp;omega⟩];exact ⟨fun _=>e.symm,fun _=>Int.le_refl _⟩
    · rw [if_neg (fun h=>e h.1),gi_rep _ _ _ hv];exact ⟨fun h=>by omega,fun h=>absurd h.symm e⟩
   refine ⟨by simp [bs0,iterS],fun v hv=> ?_,fun x hx=> ?_,fun x e t hd=> ?_,fun v hv h0 hvi=> ?_,fun x y hy hb=> ?_,fun a ha y hy=> ?_⟩
   · show 0≤gi ((List.replicate n (-1)).set i 0) v↔(v:Int)∈ []++ [(i:Int)];rw [hf v hv];simp;omega
   · change x∈ []++ [(i:Int)] at hx;simp at hx;exact ⟨i,hi,hx⟩
   · rcases hd with hd|⟨-,hd⟩
     · cases hd
     · omega
   · exact absurd ((hf v hv).1 h0) hvi
   · have h1:=hb.mem;change (x:Int)∈ []++ [(i:Int)] at h1;change (y:Int)∈ []++ [(i:Int)] at hy;simp at h1 hy;have:x=y:=by omega
     rw [this];exact Int.le_refl _
   · change [(i:Int)].head? =some (a:Int) at ha;change (y:Int)∈ []++ [(i:Int)] at hy;simp at ha hy;have:y=a:=by omega
     rw [this];omega
 | m +1=>by
   obtain ⟨P,ih⟩:=iterS_ord hi hA m;obtain ⟨hp,b,hb,hw⟩:=iterS_par (bs0_par n i hi A) (bs0_wf n i hi) hA (by omega) m;simp only [iterS];generalize iterS A m (bs0 n i)=s at*
   cases hq:s.q with
   | nil=>
     have:stepS A s=s:=by simp [stepS,hq]
     rw [this];exact ⟨P,ih⟩
   | cons a q=>
     obtain ⟨ha0,han,hag⟩:=hw.qok a (by rw [hq];simp);obtain ⟨a,rfl⟩: ∃c:Nat,a=c:=⟨a.toNat,by omega⟩;have hhd:s.q.head? =some (a:Int):=by rw [hq];rfl
     have h1:=relaxN_ord ih hw hp hhd (hA a (by omega)) hb (A a).length (Nat.le_refl _);refine ⟨P++ [(a:Int)],?_⟩;simp only [stepS,hq,Int.toNat_natCast];exact h1.pop (relaxN_head hhd _) (Nat.le_refl _)
structure Dist (n i:Nat) (A:Nat→List Nat) (fa:List Int):Prop where
  len:fa.length=n
  walk: ∀v,v<n→0≤gi fa v→Walk A (gi fa v).toNat i v
  least: ∀m v,Walk A m i v→0≤gi fa v∧gi fa v≤m
theorem Walk.snoc' {A:Nat→List Nat}: ∀(m:Nat) {a d:Nat},Walk A (m+1) a d→ ∃c,Walk A m a c∧d∈A c
 |0,a,d,h=>by obtain ⟨k,hk,h⟩:=h;cases h;exact ⟨a,rfl,hk⟩
 |m+1,a,d,h=>by obtain ⟨k,hk,h⟩:=h;obtain ⟨c,h1,h2⟩:=Walk.snoc' m h;exact ⟨c,⟨k,hk,h1⟩,h2⟩
theorem Walk.lt {n:Nat} {A:Nat→List Nat} (hA: ∀a,a<n→ ∀t∈A a,t<n): ∀(m:Nat) {a d:Nat},a<n→Walk A m a d→d<n
 |0,a,d,h,hw=>by cases hw;exact h
 |m+1,a,d,h,⟨k,hk,hw⟩=>Walk.lt hA m (hA a h k hk) hw
def SrchA (A:Nat→List Nat) (n i:Nat) (s:BS):Prop:= ∃m,s=iterS A m (bs0 n i)∧m≤n∧s.q= []∧WfS n (3000000000000*m) s
theorem SrchA.par {A n i s} (h:SrchA A n i s) (hi:i<n) (hA: ∀a,a<n→ ∀t∈A a,t<n):Par n i A s∧ ∃b,-1≤b∧WfS n b s:=by obtain ⟨m,rfl,-,-,-⟩:=h;exact iterS_par (bs0_par n i hi _) (bs0_wf n i hi) hA (by omega) m
theorem SrchA.dist {A n i s} (h:SrchA A n i s) (hi:i<n) (hA: ∀a,a<n→ ∀t∈A a,t<n):Dist n i A s.fa∧ ∃P,Ord n i A P 0 s∧s.q= []:=by
 obtain ⟨hp,b,hb,hw⟩:=h.par hi hA;obtain ⟨m,rfl,-,hq,-⟩:=h;obtain ⟨P,ho⟩:=iterS_ord hi hA m;generalize iterS A m (bs0 n i)=s at*;refine ⟨⟨hw.lfa,?_,?_⟩,P,ho,hq⟩
 · have key: ∀d v,v<n→gi s.fa v=(d:Nat)→Walk A d i v:=by
    intro d
    induction d with
    | zero=>
      intro v hv h0;by_cases e:v=i
      · exact e.symm
      · obtain ⟨p,e,-,-,-,-,h5,h6⟩:=hp.par v hv (by omega) e;omega
    | succ d ih=>
      intro v hv h0;have e:v≠i:=fun e=>by rw [e,hp.root] at h0;omega
      obtain ⟨p,e,h1,-,-,h4,h5,h6⟩:=hp.par v hv (by omega) e;exact Walk.snoc d (ih p h1 (by omega)) (List.mem_of_getElem? h4)
   exact fun v hv h0=>key _ v hv (by omega)
 · intro m
   induction m with
   |zero=>intro v hv;cases hv;rw [hp.root];omega
   | succ m ih=>
     intro v hv;obtain ⟨c,h1,h2⟩:=hv.snoc';obtain ⟨h3,h4⟩:=ih c h1;have hcn:=Walk.lt hA m hi h1;obtain ⟨e,he,h2⟩:=List.getElem_of_mem h2;have hd:Dn P 0 s.q c e:=by have:=(ho.fnd c hcn).1 h3;rw [hq,List.append_nil] at this;exact .inl this
     obtain ⟨h5,h6⟩:=ho.dn c e v hd (by rw [List.getElem?_eq_getElem he,h2]);have h7:=(ho.fnd v (hA c hcn v (h2▸List.getElem_mem he))).2 h5;exact ⟨h7,by omega⟩
open Go Go.Proofs.Tryz
set_option maxRecDepth 100000
def LV (lo hi:Nat) (H:Hp) (v:Val) (L:List Int):Prop:=
 v= .sl (L.map iR) true∨(v= .nilsl∧L= [])∨ ∃id g d ro,v= .ref id g 0 1 L.length false∧H.get id=some (.cells g d ro (L.map iC))∧lo≤id∧id<hi∧d≤g
theorem LV.len {lo hi H v L} (h:LV lo hi H v L):lenS v=some (.int .i64 L.length):=by
 rcases h with rfl|⟨rfl,rfl⟩|⟨id,g,d,ro,rfl,-⟩
 · simp [lenS]
 · rfl
 · rfl
theorem LV.opdV {lo hi H v L} (h:LV lo hi H v L) (t:Nat):opdV t v=v:=by rcases h with rfl|⟨rfl,rfl⟩|⟨id,g,d,ro,rfl,-⟩<;>rfl
theorem LV.ext {lo hi H H' v L} (h:LV lo hi H v L) (he: ∀i,lo≤i→i<hi→H'.get i=H.get i):LV lo hi H' v L:=by
 rcases h with h|h|⟨id,g,d,ro,rfl,hg,h1,h2,h3⟩
 · exact .inl h
 · exact .inr (.inl h)
 · exact .inr (.inr ⟨id,g,d,ro,rfl,by rw [he id h1 h2,hg],h1,h2,h3⟩)
theorem LV.at_ {lo hi H v L} (h:LV lo hi H v L) {e:Nat} (he:e<L.length): ∃p,ixA 1 v (.int .i64 (e:Nat))=some p∧(∀t,Go.PV.opdV t p=p)∧ ∀tm,loadC 1 false (rowAtP tm H p)=some (.int .i64 (gi L e)):=by
 rcases h with rfl|⟨rfl,rfl⟩|⟨id,g,d,ro,rfl,hg,h1,h2,h3⟩
 · have hf:(L.map iR)[e]? =some [.int .i64 (gi L e)]:=by rw [List.getElem?_map,gi_some he];rfl
   have hx:IsSl (.sl (L.map iR) true) (L.map iR):= .inr ⟨true,rfl⟩;exact ⟨_,hx.ix (k:=1) hf rfl,fun _=>rfl,fun _=>rfl⟩
 · cases he
 · refine ⟨.ptr id g (0+e*1) (0+e*1+1),?_,fun _=>rfl,?_⟩
   · show (if 1=1∧e<L.length then some (Val.ptr id g (0+e*1) (0+e*1+1)) else none)=_;rw [if_pos ⟨rfl,he⟩]
   · have h0:(L.map iC)[e]? =some (iC (gi L e)):=by rw [List.getElem?_map,gi_some he];rfl
     intro tm;simp only [rowAtP_ptr,hg,rowH_cells,if_pos h3,loadC_one,Nat.mul_one,Nat.zero_add,Nat.le_refl,if_true,h0,iC]
theorem MV.toLV {n0 H v q} (h:MV n0 H v q) {lo:Nat} (hl:lo≤n0):LV lo H.n H v q:=by
 rcases h with ⟨rfl,rfl⟩|⟨id,j,d,rfl,hg,h1,h2,h3⟩
 · exact .inr (.inl ⟨rfl,rfl⟩)
 · exact .inr (.inr ⟨id,_,d,0,rfl,hg,by omega,get_lt hg,h2⟩)
def FH (H0 H:Hp) (fa:List Int):Prop:=H0.n+1≤H.n∧H.get H0.n=some (.cells 0 0 0 (fa.map iC))∧ ∀i,i<H0.n→H.get i=H0.get i
structure RdE (H:Hp) (x:Val) (ts:List Nat):Prop where
  len:lenS x=some (.int .i64 ts.length)
  opd: ∀t,opdV t x=x
  at_: ∀e t,ts[e]? =some t→ ∃(p b:Val) (bl:List (List Val)) (a c:Int),ixA 4 x (.int .i64 (e:Nat))=some p∧(∀t,opdV t p=p)∧IsSl b bl∧ ∀H',Ext H H'→ ∀tm,loadC 4 true (rowAtP tm H' p)=some (.agg [.int .i64 a,b,.int .i64 c,.int .i64 (t:Nat)])
structure RdG (H:Hp) (es:Val) (n:Nat) (A:Nat→List Nat):Prop where
  len:lenS es=some (.int .i64 n)
  opd: ∀t,opdV t es=es
  okc:okCell es=true
  at_: ∀a,a<n→ ∃p x,ixA 1 es (.int .i64 (a:Nat))=some p∧(∀t,opdV t p=p)∧(∀H',Ext H H'→ ∀tm,loadC 1 false (rowAtP tm H' p)=some x)∧RdE H x (A a)
theorem RdE.ext {H H' x ts} (h:RdE H x ts) (hE:Ext H H'):RdE H' x ts:=⟨h.len,h.opd,fun e t ht=>by obtain ⟨p,b,bl,a,c,h1,h2,h3,h4⟩:=h.at_ e t ht;exact ⟨p,b,bl,a,c,h1,h2,h3,fun H2 h=>h4 H2 (hE.trans h)⟩⟩
theorem RdG.ext {H H' es n A} (h:RdG H es n A) (hE:Ext H H'):RdG H' es n A:=⟨h.len,h.opd,h.okc,fun a ha=>by obtain ⟨p,x,h1,h2,h3,h4⟩:=h.at_ a ha;exact ⟨p,x,h1,h2,fun H2 h=>h3 H2 (hE.trans h),h4.ext hE⟩⟩
theorem RdG.frz {es:Val} {er:List (List Val)} {adj:List (List (List Val))} (he:IsSl es er) (hg:OkG er adj) (ht: ∀l∈adj,∀e∈l,0≤toE e) (H:Hp):RdG H es er.length (adjN adj):=by
 refine ⟨he.len,he.opdV,he.okCell,fun a ha=> ?_⟩;obtain ⟨y,rows,hr0,hadj,hy,hys,hee⟩:=hg.row a er[a] (List.getElem?_eq_getElem ha);have hr1:er[a]? =some [y]:=by rw [List.getElem?_eq_getElem ha,hr0]
 refine ⟨_,y,he.ix (k:=1) hr1 rfl,fun _=>rfl,fun _ _ _=>rfl,?_⟩;have hts:adjN adj a=rows.map fun e=>(toE e).toNat:=by simp [adjN,hadj]
 rw [hts];refine ⟨by rw [List.length_map];exact hy.len,hy.opdV,fun e t het=> ?_⟩;rw [List.getElem?_map] at het
 cases hr:rows[e]? with
 |none=>rw [hr] at het;cases het
 | some r=>
   rw [hr] at het;have hm:=List.mem_of_getElem? hr;obtain ⟨a1,b1,c1,n1,z,bl,rfl,rfl,hz,-⟩:=hee r hm;have h0:=ht rows (List.mem_of_getElem? hadj) _ hm;have h1:(n1.toNat:Nat)=t:=by simpa [toE] using het
   have h2:n1=t:=by have:0≤n1:=h0;omega
   subst h2;exact ⟨_,b1,bl,a1,c1,hy.ix (k:=4) hr rfl,fun _=>rfl,hz,fun _ _ _=>rfl⟩
section
variable (pr:Nat→Option (List Val→Hp→FRes)) (lf:Nat)
theorem c35 (hp : pr 35=none) (k:Nat) (ss es:Val) (sr:List (List Val)) (n:Nat) (A:Nat→List Nat) (i:Nat) (H:Hp) (hs:IsSl ss sr) (he:RdG H es n A) (hn:n≤400) (hlf:n+1<lf)
  (hi:i<n) (hA: ∀a,a<n→ ∀t∈A a,t<n) (hAl: ∀a,a<n→(A a).length≤3000000000000∧(A a).length<lf):
  ∃H' s,EV pr lf (k+1) 35 [.agg [ss,es],.int .i64 i] H= .ret (.ref H.n 0 0 1 n false) H'∧SrchA A n i s∧FH H H' s.fa:=by
 unfold EV;rw [evalFn_S (E1 pr) okd lf k 35 72 _ H f35 _ hp (fns_35 pr) rfl rfl];have hn2:n≤4294967296:=by omega
 simp only [go_sem,hs.opdV,he.opd,hs.okCell,he.okc,he.len,ms28 pr _ _ _ hn2];generalize hL:loopC _ _ _ _ _ _ _ _ _ _=L;let Q (L:CRes):Prop:= ∃tm H',L= .exit 0 tm H' []∧H'.n=H.n+1∧FH H H' (List.replicate n (-1))∧tm.length=74∧getT tm 1= .int .i64 i∧getT tm 2= .lv 0 [ss,es]∧getT tm 4= .nilsl∧getT tm 5= .ref H.n 0 0 1 n false;have hQ:Q L:=by
  subst hL;refine loop_up _ Q
   (fun j tm H1=>tm.length=74∧getT tm 1= .int .i64 i∧getT tm 2= .lv 0 [ss,es]∧getT tm 4= .nilsl∧getT tm 5= .ref H.n 0 0 1 n false∧
    getT tm 18= .int .i64 n∧getT tm 19= .int .i64 j∧H1.n=H.n+1∧FH H H1 (List.replicate j (-1)++List.replicate (n-j) 0))
   n ?_ lf 0 _ _ (Nat.zero_le _) (by omega) ?_
  · rintro j tm H1 hj ⟨hl,h1,h2,h4,h5,h18,h19,hN,g0,g1,g2⟩;by_cases hjn:j<n
    · have hlt:decide ((j:Int)<(n:Int))=true:=by simp;omega
      have hw:IntKind.i64.wrap ((j:Int)+1)=((j+1:Nat):Int):=by rw [wrap64 _ (by omega) (by omega)];rfl
      have hln:j+(n-j)=n:=by omega
      generalize hB:evalCode _ _ _ _ _ _ tm H1 []=R;simp only [go_sem,hl,h1,h2,h4,h5,h18,h19,hlt,hw,g1,hjn,hln,List.length_append] at hB;subst hB;have hset:(List.map iC (List.replicate j (-1)++List.replicate (n-j) 0)).set j (.int .i64 (-1))=(List.replicate (j+1) (-1)++List.replicate (n-(j+1)) 0).map iC:=by rw [map_set_iC,rep_set n j _ _ hjn]
      refine .inl ⟨_,_,rfl,hjn,?_⟩;unfold FH;simp only [go_sem,hl,h1,h2,h4,h5,h18,hw,hN,hset,g1];exact fun i hi=>by rw [get_set_ne _ _ _ _ (by omega),g2 i hi]
    · have hj2:j=n:=by omega
      subst hj2;generalize hB:evalCode _ _ _ _ _ _ tm H1 []=R;have hlt:decide ((j:Int)<(j:Int))=false:=by simp
      simp only [go_sem,hl,h18,h19,hlt] at hB;subst hB;simp only [Nat.sub_self,List.replicate_zero,List.append_nil] at g1;refine .inr ⟨rfl,_,_,rfl,hN,⟨g0,g1,g2⟩,?_⟩;simp only [go_sem,hl,h1,h2,h4,h5]
  · unfold FH;simp only [go_sem,Nat.sub_zero,List.replicate_zero,List.nil_append,List.map_replicate,iC];exact ⟨rfl,fun i hi=>get_push_old _ _ _ hi⟩
 obtain ⟨tm,H1,rfl,hN,⟨g0,g1,g2⟩,hl,h1,h2,h4,h5⟩:=hQ;have hw0:=bs0_wf n i hi;have hM0:neg (bs0 n i).fa+(bs0 n i).q.length=n:=by
  have h0:neg (List.replicate n (-1:Int))=n:=by simp [neg,List.countP_replicate]
  have:=neg_set (List.replicate n (-1)) i 0 (by simp;exact hi) (by simp [gi,hi]) (by omega);show neg ((List.replicate n (-1:Int)).set i 0)+1=n;omega
 simp only [go_sem,hl,h1,h2,h4,h5,g1,hi,bs28,map_set_iC,List.length_replicate];generalize hL:loopC _ _ _ _ _ _ _ _ _ _=L;let Q (L:CRes):Prop:= ∃tm H' m,L= .exit 2 tm H' []∧m≤n∧(iterS A m (bs0 n i)).q= []∧WfS n (3000000000000*m) (iterS A m (bs0 n i))∧FH H H' (iterS A m (bs0 n i)).fa∧tm.length=74∧getT tm 4= .nilsl∧getT tm 5= .ref H.n 0 0 1 n false;have hQ:Q L:=by
  subst hL;refine loop_up _ Q
   (fun j tm H1=>tm.length=74∧getT tm 2= .lv 0 [ss,es]∧getT tm 4= .nilsl∧getT tm 5= .ref H.n 0 0 1 n false∧ ∃(m:Nat) (s:BS),iterS A m (bs0 n i)=s∧j≤m∧FH H H1 s.fa∧
    WfS n (3000000000000*m) s∧m+(neg s.fa+s.q.length)=n∧LV (H.n+1) H1.n H1 (getT tm 7) s.q)
   n ?_ lf 0 _ _ (Nat.zero_le _) (by omega) ?_
  · rintro j tm H1 hj ⟨hl,h2,h4,h5,m,s,hsm,hjm,⟨g0,g1,g2⟩,hw,hM,hlv⟩;generalize h7:getT tm 7=v at*;generalize hB:evalCode _ _ _ _ _ _ tm H1 []=R;have hlen0:=hlv.len
    cases hq:s.q with
    | nil=>
      rw [hq] at hlen0;have hgt:decide (((0:Nat):Int)>0)=false:=rfl;simp only [go_sem,hl,h7,hlv.opdV,hlen0,List.length_nil,hgt] at hB;subst hB;refine .inr ⟨rfl,_,_,m,rfl,by omega,by rw [hsm,hq],by rw [hsm];exact hw,by rw [hsm];exact ⟨g0,g1,g2⟩,?_⟩;simp only [go_sem,hl,h4,h5]
    | cons a0 q0=>
      have hqlen:0<s.q.length:=by rw [hq];simp
      have hgt:decide ((s.q.length:Int)>0)=true:=by rw [decide_eq_true_eq];omega
      have hql:s.q.length<lf:=by omega
      clear hq;simp only [go_sem,hl,h7,h2,hlv.opdV,hlen0,hgt] at hB;revert hB;generalize hL:loopC _ _ _ _ _ _ _ _ _ _=L;intro hB;generalize hL0:s.q=L0 at*;let Q2 (L:CRes):Prop:= ∃(tm:List Val) (H':Hp) (s':BS),L= .exit 4 tm H' []∧iterS A (m+L0.length) (bs0 n i)=s'∧FH H H' s'.fa∧WfS n (3000000000000*(m+L0.length:Nat)) s'∧m+L0.length+(neg s'.fa+s'.q.length)=n∧
       tm.length=74∧getT tm 2= .lv 0 [ss,es]∧getT tm 4= .nilsl∧getT tm 5= .ref H.n 0 0 1 n false∧MV H1.n H' (getT tm 8) s'.q∧H1.n≤H'.n
      have hQ2:Q2 L:=by
       subst hL;refine loop_up _ Q2
        (fun x tm H2=>tm.length=74∧getT tm 2= .lv 0 [ss,es]∧getT tm 4= .nilsl∧getT tm 5= .ref H.n 0 0 1 n false∧getT tm 34=v∧getT tm 35= .int .i64 L0.length∧getT tm 36= .int .i64 x∧
         ∃(s':BS) (nx:List Int),iterS A (m+x) (bs0 n i)=s'∧s'.q=L0.drop x++nx∧FH H H2 s'.fa∧WfS n (3000000000000*(m+x:Nat)) s'∧m+x+(neg s'.fa+s'.q.length)=n∧
         MV H1.n H2 (getT tm 8) nx∧H1.n≤H2.n∧ ∀i,H.n<i→i<H1.n→H2.get i=H1.get i)
        L0.length ?_ lf 0 _ _ (Nat.zero_le _) (by omega) ?_
       · rintro x tm H2 hx ⟨hl,h2,h4,h5,h34,h35,h36,s',nx,hs',hsq,⟨g0,g1,g2⟩,hw,hM,hmv,hn2,hk2⟩;generalize hB:evalCode _ _ _ _ _ _ tm H2 []=R;have hlv2:=hlv.ext (H':=H2) (fun i h1 h2=>hk2 i (by omega) h2);by_cases hxn:x<L0.length
         · obtain ⟨p,p1,p2,p3⟩:=hlv2.at_ hxn;have hL0x:L0[x]? =some (gi L0 x):=gi_some hxn;have hdrop:L0.drop x=gi L0 x::L0.drop (x+1):=by rw [List.drop_eq_getElem_cons hxn];congr 1;rw [List.getElem?_eq_getElem hxn] at hL0x;exact Option.some.inj hL0x
           rw [hdrop,List.cons_append] at hsq;obtain ⟨ha0,han,hag⟩:=hw.qok (gi L0 x) (by rw [hsq];simp);generalize gi L0 x=aI at*;obtain ⟨a,rfl⟩: ∃t:Nat,aI=t:=⟨aI.toNat,by omega⟩;have hlt:decide ((x:Int)<(L0.length:Int))=true:=by simp;omega
           have hwx:IntKind.i64.wrap ((x:Int)+1)=((x+1:Nat):Int):=by rw [wrap64 _ (by omega) (by omega)];rfl
           have hE2:Ext H H2:=⟨by omega,g2⟩;obtain ⟨pa,y,ha1,ha2,ha3,hy⟩:=he.at_ a (by omega);have ha3:=ha3 H2 hE2;obtain ⟨hrRR,hrlf⟩:=hAl a (by omega);have hAa:=hA a (by omega);simp only [go_sem,hl,h2,h34,h35,h36,hlt,hlv2.opdV,he.opd,hy.opd,hy.len,p1,p2,p3,ha1,ha2,ha3] at hB;revert hB;generalize hL:loopC _ _ _ _ _ _ _ _ _ _=L;intro hB;generalize hts:A a=ts at*;let Q3 (L:CRes):Prop:= ∃(tm:List Val) (H':Hp) (ad:List Int),L= .exit 6 tm H' []∧(relaxN a ts ts.length s').q=s'.q++ad∧FH H H' (relaxN a ts ts.length s').fa∧tm.length=74∧getT tm 2= .lv 0 [ss,es]∧getT tm 4= .nilsl∧
            getT tm 5= .ref H.n 0 0 1 n false∧getT tm 34=v∧getT tm 35= .int .i64 L0.length∧getT tm 36= .int .i64 x∧MV H1.n H' (getT tm 8) (nx++ad)∧H1.n≤H'.n∧ ∀i,H.n<i→i<H1.n→H'.get i=H1.get i
           have hQ3:Q3 L:=by
            subst hL;refine loop_up _ Q3
             (fun e tm H3=>tm.length=74∧getT tm 2= .lv 0 [ss,es]∧getT tm 4= .nilsl∧getT tm 5= .ref H.n 0 0 1 n false∧getT tm 34=v∧getT tm 35= .int .i64 L0.length∧getT tm 36= .int .i64 x∧
              getT tm 10= .int .i64 a∧getT tm 44=y∧getT tm 45= .int .i64 ts.length∧getT tm 46= .int .i64 e∧
              FH H H3 (relaxN a ts e s').fa∧ ∃ad,(relaxN a ts e s').q=s'.q++ad∧MV H1.n H3 (getT tm 8) (nx++ad)∧H1.n≤H3.n∧ ∀i,H.n<i→i<H1.n→H3.get i=H1.get i)
             ts.length ?_ lf 0 _ _ (Nat.zero_le _) (by omega) ?_
            · rintro e tm H3 hj2 ⟨hl,h2,h4,h5,h34,h35,h36,h10,h44,h45,h46,⟨g0,g1,g2⟩,ad,had,hmv,hn3,hk3⟩;generalize hB:evalCode _ _ _ _ _ _ tm H3 []=R;generalize h8:getT tm 8=v8 at*;by_cases hjn:e<ts.length
              · obtain ⟨hw2,hM2,hga,l2,hq2⟩:=relaxN_wf hw a ts hAa (by simpa using hag) (by omega) (by omega) e;obtain ⟨t,hr1⟩: ∃t,ts[e]? =some t:=⟨ts[e],by simp [hjn]⟩;have htn:t<n:=hAa t (List.mem_of_getElem? hr1);obtain ⟨pe,z,bl,a1,c1,he1,he2,hz,he3⟩:=hy.at_ e t hr1;have he3:=he3 H3 ⟨by omega,g2⟩;have hrel:relaxN a ts (e+1) s'=relax a e (relaxN a ts e s') t:=by simp [relaxN,hr1]
                rw [hrel];generalize relaxN a ts e s'=s2 at*;have hlt:decide ((e:Int)<(ts.length:Int))=true:=by simp;omega
                have hwr:IntKind.i64.wrap ((e:Int)+1)=((e+1:Nat):Int):=by rw [wrap64 _ (by omega) (by omega)];rfl
                have hfa:=get_iC (l:=s2.fa) (i:=t) (by rw [hw2.lfa];exact htn);have hfb:=get_iC (l:=s2.fa) (i:=a) (by rw [hw2.lfa];omega);have hbb:gi s2.fa a≤3000000000000*(m+x:Nat)+e:=(hw2.bnd _ (List.mem_of_getElem? (gi_some (by rw [hw2.lfa];omega)))).2;have hwb:IntKind.i64.wrap (gi s2.fa a+1)=gi s2.fa a+1:=by rw [wrap64 _ (by omega) (by omega)]
                have han2:a<n:=by omega
                cases hc:decide (gi s2.fa t<0) with
                | false=>
                  have hc2: ¬gi s2.fa t<0:=by simpa using hc
                  simp only [go_sem,hl,h5,h10,h44,h45,h46,hy.opd,hz.opdV,hz.okCell,hlt,hwr,he1,he2,he3,g1,htn,hfa,hc] at hB;subst hB;refine .inl ⟨_,_,rfl,hjn,?_⟩;rw [show relax a e s2 t=s2 by simp [relax,hc2]];simp only [go_sem,hl,h2,h4,h5,h34,h35,h36,h10,h44,h45,h8,hwr];exact ⟨⟨g0,g1,g2⟩,ad,had,hmv,hn3,hk3⟩
                | true=>
                  have hc2:gi s2.fa t<0:=by simpa using hc
                  have hrx:relax a e s2 t=⟨s2.fr.set t a,s2.ed.set t e,s2.fa.set t (gi s2.fa a+1),s2.q++ [(t:Int)]⟩:=by simp [relax,hc2]
                  generalize hH2:H3.set H.n (.cells 0 0 0 ((s2.fa.set t (gi s2.fa a+1)).map iC))=H4;have hHn:H4.n=H3.n:=by rw [←hH2];simp only [n_set]
                  have hmv4:MV H1.n H4 v8 (nx++ad):=hmv.ext fun i h1 h2=>by rw [←hH2,get_set_ne _ _ _ _ (by omega)]
                  have hadl:(nx++ad).length≤n:=by
                   have e1:s2.q.length=s'.q.length+ad.length:=by rw [had,List.length_append]
                   have e2:s'.q.length=1+((L0.drop (x+1)).length+nx.length):=by rw [hsq];simp;omega
                   rw [List.length_append];omega
                  obtain ⟨v',H',happ,hm2,hn4,hk4⟩:=hmv4.append (t:Int) (by omega) (by omega);simp only [go_sem,hl,h5,h8,h10,h44,h45,h46,hy.opd,hz.opdV,hz.okCell,hmv4.opdV,hlt,hwr,he1,he2,he3,g1,htn,han2,hfa,hfb,hc,hwb,hw2.lfa,map_set_iC,bs28,app28,hH2,happ] at hB;subst hB;refine .inl ⟨_,_,rfl,hjn,?_⟩;rw [hrx];simp only [go_sem,hl,h2,h4,h5,h34,h35,h36,h10,h44,h45,hwr];refine ⟨⟨by omega,by rw [hk4 _ (by omega),←hH2,get_set_same _ _ _ (by rw [g1];rfl)],fun i hi=>by rw [hk4 i (by omega),←hH2,get_set_ne _ _ _ _ (by omega),g2 i hi]⟩,ad++ [(t:Int)],by rw [had,List.append_assoc],?_,by omega,fun i h1 h2=>by rw [hk4 i (by omega),←hH2,get_set_ne _ _ _ _ (by omega),hk3 i h1 h2]⟩;rw [←List.append_assoc,hm2.opdV];exact hm2
              · have hj3:e=ts.length:=by omega
                subst hj3;have hlt:decide ((ts.length:Int)<(ts.length:Int))=false:=by simp
                simp only [go_sem,hl,h45,h46,hlt] at hB;subst hB;refine .inr ⟨rfl,_,_,ad,rfl,had,⟨g0,g1,g2⟩,?_⟩;simp only [go_sem,hl,h2,h4,h5,h34,h35,h36,h8];exact ⟨hmv,hn3,hk3⟩
            · simp only [go_sem,hl,h2,h4,h5,h34,h35,h36,hy.opd];exact ⟨rfl,⟨g0,g1,g2⟩,[],by simp [relaxN],by simpa using hmv,hn2,hk2⟩
           obtain ⟨tm,H4,ad,rfl,had,hfh,hl,h2,h4,h5,h34,h35,h36,hmv4,hn4,hk4⟩:=hQ3;simp only [go_sem,hl,h36,hwx] at hB;subst hB;refine .inl ⟨_,_,rfl,hxn,?_⟩;obtain ⟨hs1,hs2⟩:=stepS_wf hw A (a:Int) _ hsq (fun t ht=>hA _ (by omega) t ht) (by omega);have hst:stepS A s'= {relaxN a ts ts.length s' with q:=(relaxN a ts ts.length s').q.tail}:=by simp only [stepS,hsq,Int.toNat_natCast];rw [hts]
           simp only [go_sem,hl,h2,h4,h5,h34,h35];refine ⟨stepS A s',nx++ad,?_,?_,?_,?_,?_,hmv4,hn4,hk4⟩
           · rw [←Nat.add_assoc,←hs'];rfl
           · rw [hst];show (relaxN a ts ts.length s').q.tail=_;rw [had,hsq];simp
           · rw [hst];exact hfh
           · refine ⟨hs1.lfr,hs1.led,hs1.lfa,hs1.qok,fun z hz=> ?_⟩;have:=hs1.bnd z hz;have hlr:(A (a:Int).toNat).length=ts.length:=by rw [Int.toNat_natCast,hts]
             rw [hlr] at this;have e3:(3000000000000:Int)*((m+(x+1):Nat):Int)=3000000000000*((m+x:Nat):Int)+3000000000000:=by omega
             omega
           · omega
         · have hx2:x=L0.length:=by omega
           subst hx2;have hlt:decide ((L0.length:Int)<(L0.length:Int))=false:=by simp
           simp only [go_sem,hl,h35,h36,hlt] at hB;subst hB;rw [List.drop_length,List.nil_append] at hsq;refine .inr ⟨rfl,_,_,s',rfl,hs',⟨g0,g1,g2⟩,hw,hM,?_⟩;simp only [go_sem,hl,h2,h4,h5];exact ⟨by rw [hsq];exact hmv,hn2⟩
       · simp only [go_sem,hl,h2,h4,h5,hlv.opdV];exact ⟨rfl,s,[],hsm,by simpa using hL0,⟨g0,g1,g2⟩,hw,by rw [hL0];exact hM,.inl ⟨rfl,rfl⟩,fun _ _ _=>trivial⟩
      obtain ⟨tm,H4,s',rfl,hs',⟨g0',g1',g2'⟩,hw',hM',hl,h2,h4,h5,hmv,hn4⟩:=hQ2;simp only [go_sem,hl,hmv.opdV] at hB;subst hB;refine .inl ⟨_,_,rfl,by omega,?_⟩;simp only [go_sem,hl,h2,h4,h5];exact ⟨m+L0.length,s',hs',by omega,⟨g0',g1',g2'⟩,hw',hM',hmv.toLV (by omega)⟩
  · simp only [go_sem,hl,h2,h4,h5];refine ⟨0,bs0 n i,rfl,⟨?_,?_,fun i hi=> ?_⟩,by simpa using hw0,by omega,.inl rfl⟩
    · rw [n_set];omega
    · rw [get_set_same _ _ _ (by rw [g1];rfl)];rfl
    · rw [get_set_ne _ _ _ _ (by omega),g2 i hi]
 obtain ⟨tm,H2,m,rfl,hmn,hq,hw,hfh,hl,h4,h5⟩:=hQ;simp only [go_sem,hl,h4,h5];exact ⟨_,_,rfl,⟨m,rfl,hmn,hq,hw⟩,hfh⟩
end
open Go Go.Proofs.Tryz
set_option maxRecDepth 100000
section
variable (pr:Nat→Option (List Val→Hp→FRes)) (lf:Nat)
theorem cc35 (hp:pr 35=none) (k:Nat) (ss es:Val) (sr:List (List Val)) (n:Nat) (A:Nat→List Nat) (i:Nat) (H:Hp) (hs:IsSl ss sr) (he:RdG H es n A) (hn:n≤400) (hlf:n+1<lf)
  (hi:i<n) (hA: ∀a,a<n→ ∀t∈A a,t<n) (hAl: ∀a,a<n→(A a).length≤3000000000000∧(A a).length<lf):
  ∃H' s,(∀tm,retC (E1 pr) 35 H.n tm (evalFn (E1 pr) okd lf (k+1) 35 [.agg [ss,es],.int .i64 i] H)= .ok (.sl (s.fa.map iR) false) tm H')∧SrchA A n i s∧Ext H H':=by
 obtain ⟨H1,s,h1,hS,g0,g1,g2⟩:=c35 pr lf hp k ss es sr n A i H hs he hn hlf hi hA hAl;have hfl:s.fa.length=n:=by obtain ⟨m,-,-,-,hw⟩:=hS;exact hw.lfa
 have p1:=pub_ref 48 H1 H.n 0 0 0 0 s.fa false g1 (Nat.le_refl _);rw [hfl] at p1;generalize hF:Hp.set H1 _ _=F at p1;have hE:Ext H F:=by rw [←hF];exact Ext.set ⟨by omega,g2⟩ (Nat.le_refl _) _
 refine ⟨gc H.n (.sl (s.fa.map iR) false) F,s,fun tm=> ?_,hS,Ext.gc hE _⟩;rw [show evalFn (E1 pr) okd lf (k+1) 35 [.agg [ss,es],.int .i64 i] H=_ from h1];have hk:(E1 pr).keep 35=false:=by kernel_rfl
 simp only [retC,hk,Bool.false_eq_true,if_false,show depthP=48+2 from rfl,p1]
theorem Gph.far {lf ss es sr er adj} (g:Gph lf ss es sr er adj) (hsh:shapeB sr.length adj=true):er.length=sr.length∧sr.length≤400∧sr.length+1<lf∧(∀a,a<sr.length→ ∀t∈adjN adj a,t<sr.length)∧
  (∀a,a<sr.length→(adjN adj a).length≤3000000000000∧(adjN adj a).length<lf)∧ ∀H,RdG H es sr.length (adjN adj):=by
 obtain ⟨hn0,hn4,hal,hto⟩:=shape_of hsh;have hel:er.length=sr.length:=by rw [g.hg.len,hal]
 have:=g.big;refine ⟨hel,hn4,by omega,fun a _=>adjN_lt hto a,fun a ha=> ?_,fun H=>by rw [←hel];exact RdG.frz g.he g.hg (fun l hl e he=>(hto l hl e he).1) H⟩;unfold adjN;rw [List.length_map]
 cases h:adj[a]? with
 |none=>exact ⟨by simp,by simp;omega⟩
 |some l=>exact g.hrow l (List.mem_of_getElem? h)
theorem indexN_nil {n adj}:indexN n adj []=if shapeB n adj=true then 0 else 2:=rfl
theorem indexN_0 {n adj} {l:List Int} (h:indexN n adj l=0):shapeB n adj=true∧ ∀i∈l,0≤i∧i<n:=by
 unfold indexN at h;split at h
 · next hs=>
   refine ⟨hs,fun i hi=> ?_⟩;split at h
   · cases h
   · next hn=>
     have:=mt (fun h=>List.any_eq_true.2 ⟨i,hi,h⟩) hn;rw [Bool.or_eq_true,decide_eq_true_eq,decide_eq_true_eq] at this;omega
 · cases h
def IsDep (n:Nat) (adj:List (List (List Val))) (e:Nat) (l:List Int):Prop:=(e≠0∧l= [])∨(e=0∧ ∃s,Srch adj n 0 s∧l=s.fa)
def IsRch (n:Nat) (adj:List (List (List Val))) (i:Int) (e:Nat) (l:List Int):Prop:=(e≠0∧l= [])∨(e=0∧ ∃(a:Nat) (s:BS),i=a∧Srch adj n a s∧l=reachL s n)
theorem d17 (hp:noPr pr) (hpf:pr 17=none) (hp35:pr 35=none) (k:Nat) (ss es:Val) (sr er:List (List Val)) (adj:List (List (List Val))) (H:Hp) (g:Gph lf ss es sr er adj):
  ∃H' v l,EV pr lf (k+3) 17 [.agg [ss,es]] H= .ret (.tup [v,.int .i64 (indexN sr.length adj []:Nat)]) H'∧Ext H H'∧((v= .nilsl∧l= [])∨v= .sl (l.map iR) false)∧IsDep sr.length adj (indexN sr.length adj []) l:=by
 have g':=g;obtain ⟨hs,he,hg,hsl,hn,hm,hrow,hbig⟩:=g;unfold EV;rw [evalFn_S (E1 pr) okd lf (k+2) 17 8 _ H f17 _ hpf (fns_17 pr) rfl rfl];have h1:=c10 pr lf hp (k+1) ss es sr er adj H g';rw [indexN_nil]
 cases hsh:shapeB sr.length adj with
 | false=>
   rw [hsh] at h1;simp only [go_sem,hs.opdV,hs.okCell,he.okCell,h1];exact ⟨_,_,[],rfl,Ext.gc (Ext.refl _) _,.inl ⟨rfl,rfl⟩,.inl ⟨by simp,rfl⟩⟩
 |true=>
 rw [hsh] at h1;obtain ⟨e1,e2,e3,e4,e5,e6⟩:=g'.far hsh;have hn0:=(shape_of hsh).1;have ex:=Ext.gc (Ext.refl H) (.bool true);generalize hG:gc H.n (.bool true) H=H2 at*;obtain ⟨H3,s,h3,hS,ex2⟩:=cc35 pr lf hp35 (k+1) ss es sr sr.length (adjN adj) 0 H2 hs (e6 H2) e2 e3 (by omega) e4 e5;simp only [Int.natCast_zero] at h3;simp only [go_sem,hs.opdV,hs.okCell,he.okCell,h1,hG,h3];exact ⟨_,_,s.fa,rfl,ex.trans ex2,.inr rfl,.inr ⟨rfl,s,hS,rfl⟩⟩
theorem d16 (hp:noPr pr) (k:Nat) (ss es:Val) (sr er:List (List Val)) (adj:List (List (List Val))) (H:Hp) (g:Gph lf ss es sr er adj):
  ∃H' v l,EV pr lf (k+5) 16 [.agg [ss,es]] H= .ret (.tup [v,.int .i64 (indexN sr.length adj []:Nat)]) H'∧Ext H H'∧((v= .nilsl∧l= [])∨v= .sl (l.map iR) false)∧IsDep sr.length adj (indexN sr.length adj []) l:=by
 have g':=g;rw [indexN_nil]
 cases hsh:shapeB sr.length adj with
 | false=>
   obtain ⟨hs,he,hg,hsl,hn,hm,hrow,hbig⟩:=g;unfold EV;rw [evalFn_S (E1 pr) okd lf (k+4) 16 9 _ H f16 _ (hp 16 (by decide)) (fns_16 pr) rfl rfl];obtain ⟨H1,h1,e1⟩:=c9 pr lf (hp 9 (by decide)) (hp 30 (by decide)) (hp 55 (by decide)) (hp 31 (by decide)) k ss es sr er adj H hs he hg hsl hn (fun l hl=>(hrow l hl).2);rw [hsh] at h1;simp only [go_sem,hs.opdV,hs.okCell,he.okCell,h1];exact ⟨_,_,[],rfl,Ext.gc e1 _,.inl ⟨rfl,rfl⟩,.inl ⟨by simp,rfl⟩⟩
 | true=>
   obtain ⟨H',s,h1,e1,hS⟩:=c16 pr lf hp k ss es sr er adj H g' hsh;exact ⟨H',_,s.fa,h1,e1,.inr rfl,.inr ⟨rfl,s,hS,rfl⟩⟩
theorem d12 (hp:noPr pr) (k:Nat) (ss es:Val) (sr er:List (List Val)) (adj:List (List (List Val))) (i:Int) (H:Hp) (g:Gph lf ss es sr er adj):
  ∃H' v l,EV pr lf (k+6) 12 [.agg [ss,es],.int .i64 i] H= .ret (.tup [v,.int .i64 (indexN sr.length adj [i]:Nat)]) H'∧Ext H H'∧MV H.n H' v l∧IsRch sr.length adj i (indexN sr.length adj [i]) l:=by
 have g':=g;obtain ⟨hs,he,hg,hsl,hn,hm,hrow,hbig⟩:=g;unfold EV;rw [evalFn_S (E1 pr) okd lf (k+5) 12 33 _ H f12 _ (hp 12 (by decide)) (fns_12 pr) rfl rfl];obtain ⟨H1,h1,e1⟩:=c32 pr lf (hp 32 (by decide)) (hp 9 (by decide)) (hp 30 (by decide)) (hp 55 (by decide)) (hp 31 (by decide)) (hp 56 (by decide)) (hp 97 (by decide)) (hp 57 (by decide)) k ss es (.sl [[.int .i64 i]] true) sr er adj [i] H hs he hg hsl hn (fun l hl=>(hrow l hl).2) (.inr ⟨true,rfl⟩) (by simp;omega) (by simp);have ex:=Ext.gc e1 (.int .i64 (indexN sr.length adj [i]:Nat));generalize hG:gc H.n (.int .i64 (indexN sr.length adj [i]:Nat)) H1=H2 at*
 cases hz:((indexN sr.length adj [i]:Nat):Int) !=0 with
 | true=>
   simp only [go_sem,hs.opdV,hs.okCell,he.okCell,bs28,h1,hG,hz];exact ⟨_,_,[],rfl,ex,.inl ⟨rfl,rfl⟩,.inl ⟨by simpa using hz,rfl⟩⟩
 |false=>
 have hix:indexN sr.length adj [i]=0:=by simpa using hz
 obtain ⟨hsh,hin⟩:=indexN_0 hix;obtain ⟨hi0,hi1⟩:=hin i (by simp);obtain ⟨a,rfl⟩: ∃a:Nat,i=a:=⟨i.toNat,by omega⟩;obtain ⟨hn0,hn4,hal,hto⟩:=shape_of hsh;have hel:er.length=sr.length:=by rw [hg.len,hal]
 obtain ⟨H3,m,h3,hmn,hq3,hw3,ex2⟩:=cc33 pr lf (hp 33 (by decide)) (k+4) ss es sr er a H2 hs he hn4 hm adj hg hel (by omega) (fun l hl=>⟨(hrow l hl).1,(hrow l hl).2,fun e he=>hto l hl e he⟩);have hS:Srch adj sr.length a (iterS (adjN adj) m (bs0 sr.length a)):=⟨m,rfl,hmn,hq3,hw3⟩;clear hw3;generalize iterS (adjN adj) m (bs0 sr.length a)=s at*;have hw3: ∃b,WfS sr.length b s:=by obtain ⟨m,-,-,-,h⟩:=hS;exact ⟨_,h⟩
 obtain ⟨bw,hw3⟩:=hw3;simp only [go_sem,hs.opdV,hs.okCell,he.okCell,bs28,h1,hG,hz,h3,List.length_map,hw3.lfa];generalize hL:loopC _ _ _ _ _ _ _ _ _ _=L;let Q (L:CRes):Prop:= ∃tm H' v,L= .exit 0 tm H' []∧tm.length=35∧getT tm 7=v∧MV H.n H' v (reachL s sr.length)∧H3.n≤H'.n∧(∀i,i<H.n→H'.get i=H3.get i);have hQ:Q L:=by
  subst hL;refine loop_up _ Q (fun x tm H1=>tm.length=35∧getT tm 20= .sl (s.fa.map iR) false∧getT tm 21= .int .i64 sr.length∧getT tm 22= .int .i64 x∧ ∃v,getT tm 7=v∧MV H.n H1 v (reachL s x)∧H3.n≤H1.n∧(∀i,i<H.n→H1.get i=H3.get i))
   sr.length ?_ lf 0 _ _ (Nat.zero_le _) (by omega) ?_
  · rintro x tm H1 hx ⟨hl,h20,h21,h22,v,h7,hm1,hn1,hk1⟩;generalize hB:evalCode _ _ _ _ _ _ tm H1 []=R;by_cases hxn:x<sr.length
    · have hlt:decide ((x:Int)<(sr.length:Int))=true:=by simp;omega
      have hw:IntKind.i64.wrap ((x:Int)+1)=((x+1:Nat):Int):=by rw [wrap64 _ (by omega) (by omega)];rfl
      have hf:(s.fa.map iR)[x]? =some [.int .i64 (gi s.fa x)]:=by rw [List.getElem?_map,gi_some (by rw [hw3.lfa];exact hxn)];rfl
      have hx1:IsSl (.sl (s.fa.map iR) false) (s.fa.map iR):= .inr ⟨false,rfl⟩;have hrl:=reachL_len s x;have hsc:=reachL_succ s x;obtain ⟨v',H',happ,hm2,hn2,hk2⟩:=hm1.append (x:Int) (by have:=ex.1;have:=ex2.1;omega) (by omega)
      cases hc:decide (gi s.fa x≥0) with
      | true=>
        rw [hc,if_pos rfl] at hsc;simp only [go_sem,hl,h7,h20,h21,h22,hlt,hw,hx1.ix (k:=1) hf rfl,hc,hm1.opdV,bs28,app28,happ] at hB;subst hB;refine .inl ⟨_,_,rfl,hxn,?_⟩;simp only [go_sem,hl,h20,h21];exact ⟨_,hm2.opdV _,by rw [hsc];exact hm2,by omega,fun i hi=>by rw [hk2 i hi,hk1 i hi]⟩
      | false=>
        rw [hc,if_neg (by simp)] at hsc;simp only [go_sem,hl,h20,h21,h22,hlt,hw,hx1.ix (k:=1) hf rfl,hc] at hB;subst hB;refine .inl ⟨_,_,rfl,hxn,?_⟩;simp only [go_sem,hl,h20,h21];exact ⟨v,h7,by rw [hsc];exact hm1,hn1,hk1⟩
    · have hx2:x=sr.length:=by omega
      subst hx2;have hlt:decide ((sr.length:Int)<(sr.length:Int))=false:=by simp
      simp only [go_sem,hl,h21,h22,hlt] at hB;subst hB;refine .inr ⟨rfl,_,_,v,rfl,?_,?_,hm1,hn1,hk1⟩
      · simp only [go_sem,hl]
      · simp only [go_sem,hl,h7]
  · simp only [go_sem];refine ⟨rfl,_,rfl,.inl ⟨rfl,rfl⟩,fun _ _=>trivial⟩
 obtain ⟨tm,H4,v,rfl,hl,h7,hm4,hn4',hk4⟩:=hQ;simp only [go_sem,hl,h7,hm4.opdV,hm4.noLoc];refine ⟨_,_,_,by first|rfl|(rw [hix];rfl),⟨?_,fun i hi=> ?_⟩,hm4,.inr ⟨by first|rfl|exact hix,a,s,rfl,hS,rfl⟩⟩
 · have:=ex.1;have:=ex2.1;omega
 · have:=ex.1;rw [hk4 i hi,ex2.2 i (by omega),ex.2 i hi]
theorem d13 (hp:noPr pr) (hpf:pr 13=none) (hp34:pr 34=none) (hp35:pr 35=none) (k:Nat) (ss es:Val) (sr er:List (List Val)) (adj:List (List (List Val))) (i:Int) (H:Hp) (g:Gph lf ss es sr er adj):
  ∃H' v l,EV pr lf (k+3) 13 [.agg [ss,es],.int .i64 i] H= .ret (.tup [v,.int .i64 (indexN sr.length adj [i]:Nat)]) H'∧Ext H H'∧MV H.n H' v l∧IsRch sr.length adj i (indexN sr.length adj [i]) l:=by
 have g':=g;obtain ⟨hs,he,hg,hsl,hn,hm,hrow,hbig⟩:=g;unfold EV;rw [evalFn_S (E1 pr) okd lf (k+2) 13 33 _ H f13 _ hpf (fns_13 pr) rfl rfl];have h1:=c10 pr lf hp (k+1) ss es sr er adj H g';unfold indexN
 cases hsh:shapeB sr.length adj with
 | false=>
   rw [hsh] at h1;simp only [go_sem,hs.opdV,hs.okCell,he.okCell,h1];exact ⟨_,_,[],rfl,Ext.gc (Ext.refl _) _,.inl ⟨rfl,rfl⟩,.inl ⟨by simp,rfl⟩⟩
 |true=>
 rw [hsh] at h1;obtain ⟨f1,f2,f3,f4,f5,f6⟩:=g'.far hsh;have h2:=fun H=>c34 pr lf hp34 (k+1) ss es sr er i H hs he;have ex0:=Ext.gc (Ext.refl H) (.bool true);generalize hG0:gc H.n (.bool true) H=H0 at*;rw [List.any_cons,List.any_nil,Bool.or_false]
 cases hin:(decide (0≤i)&&decide (i<er.length)) with
 | false=>
   have hb:(decide (i<0)||decide ((sr.length:Int)≤i))=true:=by rw [Bool.or_eq_true,decide_eq_true_eq,decide_eq_true_eq];rw [Bool.and_eq_false_iff,decide_eq_false_iff_not,decide_eq_false_iff_not] at hin;omega
   simp only [hin] at h2;simp only [go_sem,hs.opdV,he.opdV,hs.okCell,he.okCell,h1,hG0,h2,hb];exact ⟨_,_,[],rfl,ex0.trans (Ext.gc (Ext.refl _) _),.inl ⟨rfl,rfl⟩,.inl ⟨by simp,rfl⟩⟩
 |true=>
 simp only [hin] at h2;rw [Bool.and_eq_true,decide_eq_true_eq,decide_eq_true_eq] at hin;have hb:(decide (i<0)||decide ((sr.length:Int)≤i))=false:=by rw [Bool.or_eq_false_iff,decide_eq_false_iff_not,decide_eq_false_iff_not];omega
 obtain ⟨a,rfl⟩: ∃a:Nat,i=a:=⟨i.toNat,by omega⟩;have ex:=ex0.trans (Ext.gc (Ext.refl H0) (.bool true));generalize hG:gc H0.n (.bool true) H0=H2 at*;obtain ⟨H3,s,h3,hS,ex2⟩:=cc35 pr lf hp35 (k+1) ss es sr sr.length (adjN adj) a H2 hs (f6 H2) f2 f3 (by omega) f4 f5;have hw3: ∃b,WfS sr.length b s:=by obtain ⟨m,-,-,-,h⟩:=hS;exact ⟨_,h⟩
 obtain ⟨bw,hw3⟩:=hw3;simp only [go_sem,hs.opdV,he.opdV,hs.okCell,he.okCell,h1,hG0,h2,hb,hG,h3,List.length_map,hw3.lfa];generalize hL:loopC _ _ _ _ _ _ _ _ _ _=L;let Q (L:CRes):Prop:= ∃tm H' v,L= .exit 1 tm H' []∧tm.length=35∧getT tm 6=v∧MV H.n H' v (reachL s sr.length)∧H3.n≤H'.n∧(∀i,i<H.n→H'.get i=H3.get i);have hQ:Q L:=by
  subst hL;refine loop_up _ Q (fun x tm H1=>tm.length=35∧getT tm 20= .sl (s.fa.map iR) false∧getT tm 21= .int .i64 sr.length∧getT tm 22= .int .i64 x∧ ∃v,getT tm 6=v∧MV H.n H1 v (reachL s x)∧H3.n≤H1.n∧(∀i,i<H.n→H1.get i=H3.get i))
   sr.length ?_ lf 0 _ _ (Nat.zero_le _) (by omega) ?_
  · rintro x tm H1 hx ⟨hl,h20,h21,h22,v,h7,hm1,hn1,hk1⟩;generalize hB:evalCode _ _ _ _ _ _ tm H1 []=R;by_cases hxn:x<sr.length
    · have hlt:decide ((x:Int)<(sr.length:Int))=true:=by simp;omega
      have hw:IntKind.i64.wrap ((x:Int)+1)=((x+1:Nat):Int):=by rw [wrap64 _ (by omega) (by omega)];rfl
      have hf:(s.fa.map iR)[x]? =some [.int .i64 (gi s.fa x)]:=by rw [List.getElem?_map,gi_some (by rw [hw3.lfa];exact hxn)];rfl
      have hx1:IsSl (.sl (s.fa.map iR) false) (s.fa.map iR):= .inr ⟨false,rfl⟩;have hrl:=reachL_len s x;have hsc:=reachL_succ s x;obtain ⟨v',H',happ,hm2,hn2,hk2⟩:=hm1.append (x:Int) (by have:=ex.1;have:=ex2.1;omega) (by omega)
      cases hc:decide (gi s.fa x≥0) with
      | true=>
        rw [hc,if_pos rfl] at hsc;simp only [go_sem,hl,h7,h20,h21,h22,hlt,hw,hx1.ix (k:=1) hf rfl,hc,hm1.opdV,bs28,app28,happ] at hB;subst hB;refine .inl ⟨_,_,rfl,hxn,?_⟩;simp only [go_sem,hl,h20,h21];exact ⟨_,hm2.opdV _,by rw [hsc];exact hm2,by omega,fun i hi=>by rw [hk2 i hi,hk1 i hi]⟩
      | false=>
        rw [hc,if_neg (by simp)] at hsc;simp only [go_sem,hl,h20,h21,h22,hlt,hw,hx1.ix (k:=1) hf rfl,hc] at hB;subst hB;refine .inl ⟨_,_,rfl,hxn,?_⟩;simp only [go_sem,hl,h20,h21];exact ⟨v,h7,by rw [hsc];exact hm1,hn1,hk1⟩
    · have hx2:x=sr.length:=by omega
      subst hx2;have hlt:decide ((sr.length:Int)<(sr.length:Int))=false:=by simp
      simp only [go_sem,hl,h21,h22,hlt] at hB;subst hB;refine .inr ⟨rfl,_,_,v,rfl,?_,?_,hm1,hn1,hk1⟩
      · simp only [go_sem,hl]
      · simp only [go_sem,hl,h7]
  · simp only [go_sem];refine ⟨rfl,_,rfl,.inl ⟨rfl,rfl⟩,fun _ _=>trivial⟩
 obtain ⟨tm,H4,v,rfl,hl,h7,hm4,hn4',hk4⟩:=hQ;simp only [go_sem,hl,h7,hm4.opdV,hm4.noLoc];refine ⟨_,_,_,by first|rfl|(rw [hix];rfl),⟨?_,fun i hi=> ?_⟩,hm4,.inr ⟨by first|rfl|exact hix,a,s,rfl,hS,rfl⟩⟩
 · have:=ex.1;have:=ex2.1;omega
 · have:=ex.1;rw [hk4 i hi,ex2.2 i (by omega),ex.2 i hi]
end
open Go Go.Proofs.Tryz
set_option maxRecDepth 100000
def eC (k:Nat):List Val:= [.int .i64 0,.nilsl,.int .i64 0,.int .i64 k]
theorem eC_len (l:List Nat):(l.flatMap eC).length=l.length*4:=by
 induction l with
 |nil=>rfl
 |cons a l ih=>rw [List.flatMap_cons,List.length_append,ih,List.length_cons];simp [eC];omega
theorem eC_at (l:List Nat) (e t:Nat) (h:l[e]? =some t):((l.flatMap eC).drop (e*4)).take 4=eC t:=by
 induction l generalizing e with
 |nil=>cases h
 | cons a l ih=>
   rw [List.flatMap_cons]
   cases e with
   |zero=>cases h;rfl
   | succ e=>
     have:(e+1)*4=(eC a).length+e*4:=by simp [eC];omega
     rw [this,←List.drop_drop,List.drop_left];exact ih e h
structure BG (n0:Nat) (H:Hp) (n:Nat) (bl:Nat→List Nat) (cs:List Val):Prop where
  len:cs.length=n
  nil: ∀t,t<n→bl t= []→cs[t]? =some .nilsl
  ref: ∀t,t<n→bl t≠ []→ ∃id j d,cs[t]? =some (.ref id (genOf 51+j) 0 4 (bl t).length false)∧H.get id=some (.cells (genOf 51+j) d 0 ((bl t).flatMap eC))∧n0≤id∧d≤genOf 51+j∧j<(bl t).length
  inj: ∀(t t' id g g' l l':Nat),cs[t]? =some (.ref id g 0 4 l false)→cs[t']? =some (.ref id g' 0 4 l' false)→t=t'
theorem BG.ext {n0 H H' n bl cs} (h:BG n0 H n bl cs) (he: ∀i,n0≤i→i<H.n→H'.get i=H.get i):BG n0 H' n bl cs:=⟨h.len,h.nil,fun t ht hb=>by obtain ⟨id,j,d,h1,h2,h3,h4,h5⟩:=h.ref t ht hb;exact ⟨id,j,d,h1,by rw [he id h3 (get_lt h2),h2],h3,h4,h5⟩,h.inj⟩
theorem BG.row {n0 H n bl cs} (h:BG n0 H n bl cs) {t:Nat} (ht:t<n): ∃x,cs[t]? =some x∧RdE H x (bl t)∧okCell x=true:=by
 by_cases hb:bl t= []
 · refine ⟨.nilsl,h.nil t ht hb,?_,rfl⟩;rw [hb];exact ⟨rfl,fun _=>rfl,fun e t h=>by cases h⟩
 · obtain ⟨id,j,d,h1,h2,h3,h4,h5⟩:=h.ref t ht hb;refine ⟨_,h1,⟨rfl,fun _=>rfl,fun e u hu=> ?_⟩,rfl⟩;have he:e<(bl t).length:=(List.getElem?_eq_some_iff.1 hu).1;refine ⟨.ptr id (genOf 51+j) (0+e*4) (0+e*4+4),.nilsl,[],0,0,?_,fun _=>rfl,.inl ⟨rfl,rfl⟩,fun H' hE tm=> ?_⟩
   · rw [ixA_ref,if_pos he]
   · have hg:=hE.get h2;have hlen:=eC_len (bl t);rw [rowAtP_ptr,hg,rowH_cells,if_pos h4,loadC_agg,if_pos (Nat.le_refl _),if_pos (by rw [hlen];omega),Nat.zero_add,eC_at _ _ _ hu];rfl
theorem BG.rdG {n0 H n bl cs B ro} (h:BG n0 H n bl cs) (hB:H.get B=some (.cells 0 0 ro cs)):RdG H (.ref B 0 0 1 n false) n bl:=by
 refine ⟨rfl,fun _=>rfl,rfl,fun a ha=> ?_⟩;obtain ⟨x,h1,h2,-⟩:=h.row ha;refine ⟨.ptr B 0 (0+a*1) (0+a*1+1),x,?_,fun _=>rfl,fun H' hE tm=> ?_,h2⟩
 · rw [ixA_ref,if_pos ha]
 · rw [rowAtP_ptr,hE.get hB,rowH_cells,if_pos (Nat.le_refl _),loadC_one,if_pos (Nat.le_refl _),Nat.zero_add,Nat.mul_one,h1]
theorem tyOK_gen51 (j:Nat) (h:j<1048000):tyOK (genOf 51+j) 51=true:=by
 have h1:(genOf 51+j+1)/1048576=52:=by unfold genOf;omega
 have h2:(genOf 51+j)/1048576=52:=by unfold genOf;omega
 simp [tyOK,tyN,h1,h2]
section
variable (pr:Nat→Option (List Val→Hp→FRes))
theorem und47:und (E1 pr) 47=some (.slice 51):=by kernel_rfl
theorem T51:(E1 pr).T 51=some t51:=by kernel_rfl
theorem T47:(E1 pr).T 47=some t47:=by kernel_rfl
theorem sz51:t51.size=4∧t51.bytes=48:=⟨by kernel_rfl,by kernel_rfl⟩
theorem app47_nil (r:List Val) (hr:r.length=4) (ho:r.all okCell=true) (H:Hp):appendP (E1 pr) 47 47 .nilsl (.sl [r] true) H=some (.ref H.n (genOf 51) 0 4 1 false,H.push (.cells (genOf 51) (genOf 51) 0 r)):=by
 have h1:newElems (E1 pr) 51 4 (.slice 51) (.sl [r] true) H=some (r,1):=by simp [newElems,elemsOf,hr]
 unfold appendP;simp only [und47,T51,sz51.1,sz51.2,h1];rw [if_pos (by decide),if_pos ho,if_pos (by unfold roomN;omega)];simp only [fL_eq,fN_eq,fV_eq,fH_eq]
theorem app47_ref (r:List Val) (hr:r.length=4) (ho:r.all okCell=true) (H:Hp) (id j d len:Nat) (cs:List Val) (hg:H.get id=some (.cells (genOf 51+j) d 0 cs)) (hc:cs.length=len*4) (hd:d≤genOf 51+j) (hl:len<1048000) (hj:j<1048000):
  appendP (E1 pr) 47 47 (.ref id (genOf 51+j) 0 4 len false) (.sl [r] true) H=some (.ref id (genOf 51+j+1) 0 4 (len+1) false,H.set id (.cells (genOf 51+j+1) d 0 (cs++r))):=by
 have h1:newElems (E1 pr) 51 4 (.slice 51) (.sl [r] true) H=some (r,1):=by simp [newElems,elemsOf,hr]
 unfold appendP;simp only [und47,T51,sz51.1,sz51.2,h1,hg];rw [if_pos (by decide),if_pos ho,if_pos ⟨trivial,by unfold roomN;omega,hd⟩,if_neg (by simp),if_pos ⟨trivial,by omega,Nat.zero_le _,tyOK_gen51 j hj⟩];simp only [fL_eq,fN_eq,fV_eq,fH_eq]
theorem ms23 (N:Nat) (tm H) (h:N≤400):opMakeSlice (E1 pr) 23 (.int .i64 (N:Nat)) (.int .i64 (N:Nat)) tm H= .ok (.ref H.n 0 0 1 N false) tm (H.push (.cells 0 0 0 (List.replicate N .nilsl))):=
 makeSlice_sl (E1 pr) 23 47 N t47 _ tm H (by kernel_rfl) (T47 pr) (by kernel_rfl) rfl rfl rfl (by show N*25≤roomN;unfold roomN;omega)
theorem bs47 (H) (a:Nat):buildSliceP (E1 pr) 47 1 [(0,.agg (eC a))] H=some (.sl [eC a] true,H):=by kernel_rfl
theorem BG.append {n0 H n bl cs} (h:BG n0 H n bl cs) (k t:Nat) (ht:t<n) (hl:(bl t).length<1048000) (hn0:n0≤H.n): ∃x v' H',cs[t]? =some x∧(∀t,opdV t x=x)∧appendP (E1 pr) 47 47 x (.sl [eC k] true) H=some (v',H')∧okCell v'=true∧(∀t,opdV t v'=v')∧v'.cells= [v']∧H.n≤H'.n∧
  (∀i,i<n0→H'.get i=H.get i)∧BG n0 H' n (fun u=>if u=t then bl t++ [k] else bl u) (cs.set t v'):=by
 have hlt:t<cs.length:=by rw [h.len];exact ht
 by_cases hb:bl t= []
 · refine ⟨.nilsl,_,_,h.nil t ht hb,fun _=>rfl,app47_nil pr (eC k) rfl rfl H,rfl,fun _=>rfl,rfl,Nat.le_succ _,fun i hi=>get_push_old _ _ _ (by omega),⟨by rw [List.length_set];exact h.len,fun u hu hbu=> ?_,fun u hu hbu=> ?_,fun u u' id g g' l l' h1 h2=> ?_⟩⟩
   · have hut:u≠t:=fun e=>by rw [if_pos e] at hbu;simp at hbu
     rw [if_neg hut] at hbu;rw [List.getElem?_set_ne hut.symm];exact h.nil u hu hbu
   · by_cases hut:u=t
     · subst hut;rw [if_pos rfl,hb];exact ⟨H.n,0,genOf 51,by rw [List.getElem?_set_self hlt];rfl,by rw [get_push_new];rfl,hn0,Nat.le_refl _,by simp⟩
     · rw [if_neg hut] at hbu⊢;obtain ⟨id,j,d,h1,h2,h3⟩:=h.ref u hu hbu;exact ⟨id,j,d,by rw [List.getElem?_set_ne (Ne.symm hut)];exact h1,by rw [get_push_old _ _ _ (get_lt h2)];exact h2,h3⟩
   · have key: ∀u g l:Nat,(cs.set t (.ref H.n (genOf 51) 0 4 1 false))[u]? =some (.ref id g 0 4 l false)→(u=t∧id=H.n)∨(u≠t∧cs[u]? =some (.ref id g 0 4 l false)∧id<H.n):=fun u g l hu=>by
      by_cases hut:u=t
      · subst hut;rw [List.getElem?_set_self hlt] at hu;cases hu;exact .inl ⟨rfl,rfl⟩
      · rw [List.getElem?_set_ne (Ne.symm hut)] at hu;have hun:u<n:=by rw [←h.len];exact (List.getElem?_eq_some_iff.1 hu).1
        by_cases hbu:bl u= []
        · have:=h.nil u hun hbu;rw [this] at hu;cases hu
        · obtain ⟨id',j,d,h1,h2,h3⟩:=h.ref u hun hbu;rw [h1] at hu;cases hu;exact .inr ⟨hut,h1,get_lt h2⟩
     rcases key u g l h1 with ⟨e1,e2⟩|⟨e1,e2,e3⟩<;>rcases key u' g' l' h2 with ⟨f1,f2⟩|⟨f1,f2,f3⟩
     · rw [e1,f1]
     · omega
     · omega
     · exact h.inj u u' id g g' l l' e2 f2
 · obtain ⟨id,j,d,h1,h2,h3,h4,h5⟩:=h.ref t ht hb;refine ⟨_,_,_,h1,fun _=>rfl,app47_ref pr (eC k) rfl rfl H id j d (bl t).length _ h2 (eC_len _) h4 hl (by omega),rfl,fun _=>rfl,rfl,by rw [n_set];exact Nat.le_refl _,fun i hi=>get_set_ne _ _ _ _ (by omega),⟨by rw [List.length_set];exact h.len,fun u hu hbu=> ?_,fun u hu hbu=> ?_,fun u u' id' g g' l l' g1 g2=> ?_⟩⟩
   · have hut:u≠t:=fun e=>by rw [if_pos e] at hbu;simp at hbu
     rw [if_neg hut] at hbu;rw [List.getElem?_set_ne hut.symm];exact h.nil u hu hbu
   · by_cases hut:u=t
     · subst hut;rw [if_pos rfl];exact ⟨id,j+1,d,by rw [List.getElem?_set_self hlt];simp [Nat.add_assoc],by rw [get_set_same _ _ _ (by rw [h2];rfl)];simp [Nat.add_assoc],h3,by omega,by simp;omega⟩
     · rw [if_neg hut] at hbu⊢;obtain ⟨id',j',d',g1,g2,g3⟩:=h.ref u hu hbu;have hne:id'≠id:=fun e=>by subst e;exact hut (h.inj u t _ _ _ _ _ g1 h1)
       exact ⟨id',j',d',by rw [List.getElem?_set_ne (Ne.symm hut)];exact g1,by rw [get_set_ne _ _ _ _ hne];exact g2,g3⟩
   · have key: ∀u g l:Nat,(cs.set t (.ref id (genOf 51+j+1) 0 4 ((bl t).length+1) false))[u]? =some (.ref id' g 0 4 l false)→ ∃g l:Nat,cs[u]? =some (.ref id' g 0 4 l false):=fun u g l hu=>by
      by_cases hut:u=t
      · subst hut;rw [List.getElem?_set_self hlt] at hu;cases hu;exact ⟨_,_,h1⟩
      · rw [List.getElem?_set_ne (Ne.symm hut)] at hu;exact ⟨_,_,hu⟩
     obtain ⟨_,_,k1⟩:=key u g l g1;obtain ⟨_,_,k2⟩:=key u' g' l' g2;exact h.inj _ _ _ _ _ _ _ k1 k2
end
open Go Go.Proofs.Tryz
set_option maxRecDepth 100000
def FirstW (A:Nat→List Nat) (d:List Int):Nat→List Int→Nat→Prop
 |i,[],j=>i=j
 |i,a::w,j=> ∃e t:Nat,a=e∧(A i)[e]? =some t∧gi d t=gi d i-1∧(∀e' t':Nat,e'<e→(A i)[e']? =some t'→gi d t'≠gi d i-1)∧FirstW A d t w j
theorem FirstW.snoc {A d}: ∀ {w:List Int} {a k:Nat},FirstW A d a w k→ ∀ {e t:Nat},(A k)[e]? =some t→gi d t=gi d k-1→(∀e' t':Nat,e'<e→(A k)[e']? =some t'→gi d t'≠gi d k-1)→FirstW A d a (w++ [(e:Int)]) t
 | [],a,k,h,e,t,h1,h2,h3=>by cases h;exact ⟨e,t,rfl,h1,h2,h3,rfl⟩
 |x::w,a,k,h,e,t,h1,h2,h3=>by obtain ⟨e',t',g1,g2,g3,g4,g5⟩:=h;exact ⟨e',t',g1,g2,g3,g4,g5.snoc h1 h2 h3⟩
def Turned (n:Nat) (A bl:Nat→List Nat):Prop:= ∀t c,c∈bl t↔c<n∧t∈A c
def WayR (n:Nat) (A:Nat→List Nat) (ix:Nat) (i j:Int) (e:Int) (l:List Int):Prop:=
 (ix≠0∧e=ix∧l= [])∨(ix=0∧ ∃(a b:Nat) (bl:Nat→List Nat) (s:BS),i=a∧j=b∧a<n∧b<n∧Turned n A bl∧SrchA bl n b s∧((gi s.fa a<0∧e=4∧l= [])∨(0≤gi s.fa a∧e=0∧FirstW A s.fa a l b∧(l.length:Int)=gi s.fa a)))
theorem back_step {n:Nat} {A bl:Nat→List Nat} {b:Nat} {d:List Int} (hA: ∀a,a<n→ ∀t∈A a,t<n) (hT:Turned n A bl) (hD:Dist n b bl d) {k:Nat} (hk:k<n) (h0:0<gi d k): ∃e t:Nat,(A k)[e]? =some t∧gi d t=gi d k-1:=by
 have hw:=hD.walk k hk (by omega);obtain ⟨m,hm⟩: ∃m:Nat,(gi d k).toNat=m+1:=⟨(gi d k).toNat-1,by omega⟩;rw [hm] at hw;obtain ⟨c,h1,h2⟩:=hw.snoc';obtain ⟨h3,h4⟩:=hD.least m c h1;have hcb:c∈A k:=((hT c k).1 h2).2;have hcn:0≤gi d c∧gi d k≤gi d c+1:=by refine ⟨h3,?_⟩;have hcl:=hA k hk c hcb;have h5:=(hD.least _ k (Walk.snoc _ (hD.walk c hcl h3) h2)).2;omega
 obtain ⟨e,he,rfl⟩:=List.getElem_of_mem hcb;exact ⟨e,_,List.getElem?_eq_getElem he,by omega⟩
theorem frzRow {es:Val} {er:List (List Val)} {adj:List (List (List Val))} (he:IsSl es er) (hg:OkG er adj) (ht: ∀l∈adj,∀e∈l,0≤toE e) {a:Nat} (ha:a<er.length):
  ∃p x,ixA 1 es (.int .i64 (a:Nat))=some p∧(∀t,opdV t p=p)∧(∀H tm,loadC 1 false (rowAtP tm H p)=some x)∧ ∀H,RdE H x (adjN adj a):=by
 obtain ⟨y,rows,hr0,hadj,hy,hys,hee⟩:=hg.row a er[a] (List.getElem?_eq_getElem ha);have hr1:er[a]? =some [y]:=by rw [List.getElem?_eq_getElem ha,hr0]
 refine ⟨_,y,he.ix (k:=1) hr1 rfl,fun _=>rfl,fun _ _=>rfl,fun H=> ?_⟩;obtain ⟨p,x,h1,h2,h3,h4⟩:=(RdG.frz he hg ht H).at_ a ha;rw [he.ix (k:=1) hr1 rfl] at h1;cases h1;have:=h3 H (Ext.refl _) [];cases this;exact h4
theorem SrchA.deep {A n i s} (h:SrchA A n i s) (hi:i<n) (hA: ∀a,a<n→ ∀t∈A a,t<n): ∀x∈s.fa,x<n:=by obtain ⟨m,rfl,-,-,-⟩:=h;intro x hx;have:=iterS_deep (bs0_par n i hi _) (bs0_wf n i hi) (bs0_deep hi) hA (by omega) m x hx;omega
section
variable (pr:Nat→Option (List Val→Hp→FRes)) (lf:Nat)
@[go_sem] theorem bu25 (a b c d e f):buildP (E1 pr) 25 [(1,.ref a b c d e f)]=some (.agg [.nilsl,.ref a b c d e f]):=by kernel_rfl
@[go_sem] theorem bu51 (a:Int):buildP (E1 pr) 51 [(1,.int .i64 a)]=some (.agg [.int .i64 0,.nilsl,.int .i64 0,.int .i64 a]):=by kernel_rfl
theorem frz_eC (x:Nat):frzV depthP (.agg (eC x))=true:=by kernel_rfl
theorem opd_agg (cs:List Val) (t:Nat):opdV t (.agg cs)= .agg cs:=rfl
def sumN (A:Nat→List Nat) (k:Nat):Nat:=((List.range k).map fun c=>(A c).length).sum
theorem sumN_succ (A k):sumN A (k+1)=sumN A k+(A k).length:=by unfold sumN;rw [List.range_succ,List.map_append,List.sum_append];simp
theorem sumN_le (A) {k n:Nat} (h:k≤n):sumN A k≤sumN A n:=by
 induction n with
 |zero=>rw [show k=0 by omega];exact Nat.le_refl _
 | succ n ih=>
   by_cases e:k=n+1
   · rw [e];exact Nat.le_refl _
   · rw [sumN_succ];have:=ih (by omega);omega
theorem c15 (hp:noPr pr) (hpf:pr 15=none) (hp34:pr 34=none) (hp35:pr 35=none) (k:Nat) (ss es:Val) (sr er:List (List Val)) (adj:List (List (List Val))) (i j:Int) (H:Hp) (g:Gph lf ss es sr er adj)
  (hsum:sumN (adjN adj) sr.length≤1000000):
  ∃H' v l e,EV pr lf (k+3) 15 [.agg [ss,es],.int .i64 i,.int .i64 j] H= .ret (.tup [v,.int .i64 e]) H'∧Ext H H'∧MV H.n H' v l∧WayR sr.length (adjN adj) (indexN sr.length adj [i,j]) i j e l:=by
 have g':=g;obtain ⟨hs,he,hg,hsl,hn,hm,hrow,hbig⟩:=g;unfold EV;rw [evalFn_S (E1 pr) okd lf (k+2) 15 106 _ H f15 _ hpf (fns_15 pr) rfl rfl];have h1:=c10 pr lf hp (k+1) ss es sr er adj H g';have h2:=fun i H=>c34 pr lf hp34 (k+1) ss es sr er i H hs he
 cases hsh:shapeB sr.length adj with
 | false=>
   have hix:indexN sr.length adj [i,j]=2:=by unfold indexN;rw [hsh];rfl
   rw [hsh] at h1;simp only [go_sem,hs.opdV,hs.okCell,he.okCell,h1];exact ⟨_,_,[],_,rfl,Ext.gc (Ext.refl _) _,.inl ⟨rfl,rfl⟩,by rw [hix];exact .inl ⟨by decide,rfl,rfl⟩⟩
 |true=>
 rw [hsh] at h1;obtain ⟨f1,f2,f3,f4,f5,f6⟩:=g'.far hsh;have hto: ∀l∈adj,∀e∈l,0≤toE e:=fun l hl e he=>((shape_of hsh).2.2.2 l hl e he).1;have hix:indexN sr.length adj [i,j]=if ((decide (0≤i)&&decide (i<er.length))&&(decide (0≤j)&&decide (j<er.length)))=true then 0 else 20:=by
  unfold indexN;rw [hsh,if_pos rfl,List.any_cons,List.any_cons,List.any_nil,Bool.or_false,f1];have q: ∀a:Int,(decide (a<0)||decide ((sr.length:Int)≤a))= !(decide (0≤a)&&decide (a<sr.length)):=fun a=>by by_cases h0:a<0<;>by_cases h1:(sr.length:Int)≤a<;>simp [h0,h1]<;>omega
  rw [q,q];cases (decide (0≤i)&&decide (i<(sr.length:Int)))<;>cases (decide (0≤j)&&decide (j<(sr.length:Int)))<;>rfl
 have ex0:=Ext.gc (Ext.refl H) (.bool true);generalize hG0:gc H.n (.bool true) H=H0 at*
 cases hi:(decide (0≤i)&&decide (i<er.length)) with
 | false=>
   have hi1:=h2 i;rw [hi] at hi1 hix;have hix:indexN sr.length adj [i,j]=20:=hix;simp only [go_sem,hs.opdV,he.opdV,hs.okCell,he.okCell,h1,hG0,hi1];exact ⟨_,_,[],_,rfl,ex0.trans (Ext.gc (Ext.refl _) _),.inl ⟨rfl,rfl⟩,by rw [hix];exact .inl ⟨by decide,rfl,rfl⟩⟩
 |true=>
 have hi1:=h2 i;rw [hi] at hi1 hix;have ex1:=Ext.gc (Ext.refl H0) (.bool true);generalize hG1:gc H0.n (.bool true) H0=H1 at*
 cases hj:(decide (0≤j)&&decide (j<er.length)) with
 | false=>
   have hj1:=h2 j;rw [hj] at hj1 hix;have hix:indexN sr.length adj [i,j]=20:=hix;simp only [go_sem,hs.opdV,he.opdV,hs.okCell,he.okCell,h1,hG0,hi1,hG1,hj1];exact ⟨_,_,[],_,rfl,(ex0.trans ex1).trans (Ext.gc (Ext.refl _) _),.inl ⟨rfl,rfl⟩,by rw [hix];exact .inl ⟨by decide,rfl,rfl⟩⟩
 |true=>
 have hj1:=h2 j;rw [hj] at hj1 hix;have ex2:=Ext.gc (Ext.refl H1) (.bool true);generalize hG2:gc H1.n (.bool true) H1=H2 at*;have exx:=(ex0.trans ex1).trans ex2;rw [Bool.and_eq_true,decide_eq_true_eq,decide_eq_true_eq] at hi hj;obtain ⟨a,rfl⟩: ∃a:Nat,i=a:=⟨i.toNat,by omega⟩;obtain ⟨b,rfl⟩: ∃a:Nat,j=a:=⟨j.toNat,by omega⟩;have han:a<sr.length:=by omega
 have hbn:b<sr.length:=by omega
 have hix:indexN sr.length adj [(a:Int),(b:Int)]=0:=hix;rw [hix];clear ex0 ex1 ex2 hi hj h2;simp only [go_sem,hs.opdV,he.opdV,hs.okCell,he.okCell,he.len,h1,hG0,hi1,hG1,hj1,hG2,f1,ms23 pr _ _ _ f2];generalize hL:loopC _ _ _ _ _ _ _ _ _ _=L;generalize hB0:H2.n=B at*;generalize hn':sr.length=n at*;let A:=adjN adj;let Q (L:CRes):Prop:= ∃(tm:List Val) (H':Hp) (bl:Nat→List Nat) (cs:List Val) (s8:Nat),L= .exit 1 tm H' []∧tm.length=109∧getT tm 1= .int .i64 a∧getT tm 2= .int .i64 b∧getT tm 3= .lv 0 [ss,es]∧getT tm 6= .nilsl∧getT tm 7= .int .i64 0∧getT tm 8= .lv s8 [.nilsl,.ref B 0 0 1 n false]∧
  B+1≤H'.n∧(∀i,i<B→H'.get i=H2.get i)∧H'.get B=some (.cells 0 0 0 cs)∧BG (B+1) H' n bl cs∧Turned n A bl∧ ∀t,(bl t).length≤sumN A n
 have hQ : Q L :=by
  subst hL;refine loop_up _ Q
   (fun k tm H1=>tm.length=109∧getT tm 1= .int .i64 a∧getT tm 2= .int .i64 b∧getT tm 3= .lv 0 [ss,es]∧getT tm 6= .nilsl∧getT tm 7= .int .i64 0∧getT tm 38=es∧getT tm 39= .int .i64 n∧getT tm 40= .int .i64 k∧
    ∃(s8:Nat) (bl:Nat→List Nat) (cs:List Val),getT tm 8= .lv s8 [.nilsl,.ref B 0 0 1 n false]∧B+1≤H1.n∧(∀i,i<B→H1.get i=H2.get i)∧H1.get B=some (.cells 0 0 0 cs)∧BG (B+1) H1 n bl cs∧
    (∀t c,c∈bl t↔c<k∧t∈A c)∧ ∀t,(bl t).length≤sumN A k)
   n ?_ lf 0 _ _ (Nat.zero_le _) (by omega) ?_
  · rintro x tm H3 hx ⟨hl,h1,h2,h3,h6,h7,h38,h39,h40,s8,bl,cs,h8,hN,hk,hgB,hbg,hbl,hbs⟩;generalize hB:evalCode _ _ _ _ _ _ tm H3 []=R;by_cases hxn:x<n
    · have hlt : decide ((x:Int)<(n:Int))=true:=by simp;omega
      have hw:IntKind.i64.wrap ((x:Int)+1)=((x+1:Nat):Int):=by rw [wrap64 _ (by omega) (by omega)];rfl
      obtain ⟨pa,y,ha1,ha2,ha3,hyA⟩:=frzRow he hg hto (a:=x) (by omega);have hy:=hyA H3;obtain ⟨hrRR,hrlf⟩:=f5 x hxn;have hAx:=f4 x hxn;simp only [go_sem,hl,h38,h39,h40,hlt,he.opdV,hy.opd,hy.len,ha1,ha2,ha3] at hB;revert hB;generalize hL:loopC _ _ _ _ _ _ _ _ _ _=L;intro hB;generalize hts:adjN adj x=ts at*;let Q2 (L:CRes):Prop:= ∃(tm:List Val) (H':Hp) (bl:Nat→List Nat) (cs:List Val) (s8:Nat),L= .exit 3 tm H' []∧tm.length=109∧getT tm 1= .int .i64 a∧getT tm 2= .int .i64 b∧getT tm 3= .lv 0 [ss,es]∧getT tm 6= .nilsl∧getT tm 7= .int .i64 0∧getT tm 38=es∧getT tm 39= .int .i64 n∧getT tm 40= .int .i64 x∧
       getT tm 8= .lv s8 [.nilsl,.ref B 0 0 1 n false]∧B+1≤H'.n∧(∀i,i<B→H'.get i=H2.get i)∧H'.get B=some (.cells 0 0 0 cs)∧BG (B+1) H' n bl cs∧
       (∀t c,c∈bl t↔(c<x∧t∈A c)∨(c=x∧t∈ts))∧ ∀t,(bl t).length≤sumN A x+ts.length
      have hQ2 : Q2 L:=by
       subst hL;refine loop_up _ Q2
        (fun e tm H4=>tm.length=109∧getT tm 1= .int .i64 a∧getT tm 2= .int .i64 b∧getT tm 3= .lv 0 [ss,es]∧getT tm 6= .nilsl∧getT tm 7= .int .i64 0∧getT tm 38=es∧getT tm 39= .int .i64 n∧getT tm 40= .int .i64 x∧getT tm 9= .int .i64 x∧getT tm 45=y∧getT tm 46= .int .i64 ts.length∧getT tm 47= .int .i64 e∧
         ∃(s8:Nat) (bl:Nat→List Nat) (cs:List Val),getT tm 8= .lv s8 [.nilsl,.ref B 0 0 1 n false]∧B+1≤H4.n∧(∀i,i<B→H4.get i=H2.get i)∧H4.get B=some (.cells 0 0 0 cs)∧BG (B+1) H4 n bl cs∧
         (∀t c,c∈bl t↔(c<x∧t∈A c)∨(c=x∧t∈ts.take e))∧ ∀t,(bl t).length≤sumN A x+e)
        ts.length ?_ lf 0 _ _ (Nat.zero_le _) (by omega) ?_
       · rintro e tm H4 hj2 ⟨hl,h1,h2,h3,h6,h7,h38,h39,h40,h9,h45,h46,h47,s8,bl,cs,h8,hN,hk,hgB,hbg,hbl,hbs⟩;generalize hB:evalCode _ _ _ _ _ _ tm H4 []=R;by_cases hjn:e<ts.length
         · obtain ⟨t,hr1⟩: ∃t,ts[e]? =some t:=⟨ts[e],by simp [hjn]⟩;have htn:t<n:=hAx t (List.mem_of_getElem? hr1);obtain ⟨pe,z,zl,a1,c1,he1,he2,hz,he3⟩:=(hyA H4).at_ e t hr1;have he3:=he3 H4 (Ext.refl _);have hlt2:decide ((e:Int)<(ts.length:Int))=true:=by simp;omega
           have hwe:IntKind.i64.wrap ((e:Int)+1)=((e+1:Nat):Int):=by rw [wrap64 _ (by omega) (by omega)];rfl
           have hbt:(bl t).length<1048000:=by have q1:=hbs t;have q2:=sumN_le A (k:=x+1) (n:=n) (by omega);rw [sumN_succ,show (A x).length=ts.length by rw [show A x=ts from hts]] at q2;have q3:sumN A n≤1000000:=hsum;omega
           obtain ⟨xv,v',H5,k1,k2,k3,k4,k5,k5c,k6,k7,k8⟩:=hbg.append pr x t htn hbt hN;have hcl:t<cs.length:=by rw [hbg.len];exact htn
           have hg5:H5.get B=some (.cells 0 0 0 cs):=by rw [k7 B (by omega),hgB]
           simp only [go_sem,hl,h8,h9,h45,h46,h47,hlt2,hy.opd,he1,he2,he3,hz.opdV,hz.okCell,htn,hgB,k1,k2] at hB;rw [show ([Val.int .i64 0,.nilsl,.int .i64 0,.int .i64 ((x:Nat):Int)]:List Val)=eC x from rfl] at hB;simp only [go_sem,frz_eC,opd_agg,bs47,k3,k2,k4,k5,k5c,List.length_singleton,List.all_cons,List.all_nil,hl,h8,h40,h47,hg5,htn,hcl,hwe] at hB;subst hB;refine .inl ⟨_,_,rfl,hjn,?_⟩;simp only [go_sem,hl,h1,h2,h3,h6,h7,h8,h9,h38,h39,h40,h45,h46,hwe];refine ⟨s8,fun u=>if u=t then bl t++ [x] else bl u,cs.set t v',rfl,by omega,fun i hi=>by rw [get_set_ne _ _ _ _ (by omega),k7 i (by omega),hk i hi],get_set_same _ _ _ (by rw [hg5];rfl),k8.ext fun i h1 h2=>get_set_ne _ _ _ _ (by omega),fun u c=> ?_,fun u=> ?_⟩
           · have htk:ts.take (e+1)=ts.take e++ [t]:=by rw [List.take_add_one,hr1];rfl
             show c∈(if u=t then bl t++ [x] else bl u)↔_;rw [htk,List.mem_append,List.mem_singleton];by_cases hut:u=t
             · subst hut;rw [if_pos rfl,List.mem_append,List.mem_singleton,hbl];constructor
               · rintro ((h|h)|h)
                 · exact .inl h
                 · exact .inr ⟨h.1,.inl h.2⟩
                 · exact .inr ⟨h,.inr rfl⟩
               · rintro (h|⟨h,h'| -⟩)
                 · exact .inl (.inl h)
                 · exact .inl (.inr ⟨h,h'⟩)
                 · exact .inr h
             · rw [if_neg hut,hbl];constructor
               · rintro (h|h)
                 · exact .inl h
                 · exact .inr ⟨h.1,.inl h.2⟩
               · rintro (h|⟨h,h'|h'⟩)
                 · exact .inl h
                 · exact .inr ⟨h,h'⟩
                 · exact absurd h' hut
           · show (if u=t then bl t++ [x] else bl u).length≤_;by_cases hut:u=t
             · rw [if_pos hut];have:=hbs t;simp;omega
             · rw [if_neg hut];have:=hbs u;omega
         · have hj3:e=ts.length:=by omega
           subst hj3;have hlt2:decide ((ts.length:Int)<(ts.length:Int))=false:=by simp
           simp only [go_sem,hl,h46,h47,hlt2] at hB;subst hB;rw [List.take_length] at hbl;refine .inr ⟨rfl,_,_,bl,cs,s8,rfl,?_⟩;simp only [go_sem,hl,h1,h2,h3,h6,h7,h8,h38,h39,h40];exact ⟨hN,hk,hgB,hbg,hbl,hbs⟩
       · simp only [go_sem,hl,h1,h2,h3,h6,h7,h8,h38,h39,h40,hy.opd];exact ⟨rfl,s8,bl,cs,rfl,hN,hk,hgB,hbg,fun t c=>by rw [hbl];simp,fun t=>by have:=hbs t;omega⟩
      obtain ⟨tm,H4,bl,cs,s8,rfl,hl,h1,h2,h3,h6,h7,h38,h39,h40,h8,hN,hk,hgB,hbg,hbl,hbs⟩:=hQ2;simp only [go_sem,hl,h40,hw] at hB;subst hB;refine .inl ⟨_,_,rfl,hxn,?_⟩;simp only [go_sem,hl,h1,h2,h3,h6,h7,h8,h38,h39];refine ⟨s8,bl,cs,rfl,hN,hk,hgB,hbg,fun t c=> ?_,fun t=>by rw [sumN_succ,show (A x).length=ts.length by rw [show A x=ts from hts]];exact hbs t⟩;rw [hbl];constructor
      · rintro (h|⟨h,h'⟩)
        · exact ⟨by omega,h.2⟩
        · subst h;exact ⟨by omega,by rw [show A c=ts from hts];exact h'⟩
      · rintro ⟨h,h'⟩;by_cases e:c=x
        · subst e;exact .inr ⟨rfl,by rw [show A c=ts from hts] at h';exact h'⟩
        · exact .inl ⟨by omega,h'⟩
    · have hx2:x=n:=by omega
      subst hx2;have hlt:decide ((x:Int)<(x:Int))=false:=by simp
      simp only [go_sem,hl,h39,h40,hlt] at hB;subst hB;refine .inr ⟨rfl,_,_,bl,cs,s8,rfl,?_⟩;simp only [go_sem,hl,h1,h2,h3,h6,h7,h8];exact ⟨hN,hk,hgB,hbg,hbl,hbs⟩
  · simp only [go_sem,he.opdV];refine ⟨rfl,_,fun _=> [],List.replicate n .nilsl,rfl,?_,fun i hi=>get_push_old _ _ _ (by omega),by rw [←hB0];exact get_push_new _ _,⟨by simp,fun t ht _=>by simp [ht],fun t ht h=>absurd rfl h,fun t t' id g g' l l' h=> ?_⟩,fun t c=>by simp,fun t=>Nat.zero_le _⟩
    · omega
    · rw [List.getElem?_replicate] at h;split at h<;>cases h
 clear hi1 hj1;obtain ⟨tm,H3,bl,cs,s8,rfl,hl,h1,h2,h3,h6,h7,h8,hN,hk,hgB,hbg,hT,hbs⟩:=hQ;have hbn': ∀a,a<n→ ∀t∈bl a,t<n:=fun a _ t ht=>((hT a t).1 ht).1;have hbl': ∀a,a<n→(bl a).length≤3000000000000∧(bl a).length<lf:=fun a _=>by have:=hbs a;have:sumN A n≤1000000:=hsum;omega
 obtain ⟨H4,s,h35,hS,ex4⟩:=cc35 pr lf hp35 (k+1) .nilsl (.ref B 0 0 1 n false) [] n bl b H3 (.inl ⟨rfl,rfl⟩) (hbg.rdG hgB) f2 f3 hbn hbn' hbl';obtain ⟨hD,-⟩:=hS.dist hbn hbn';have hfl:=hD.len;have hf:(s.fa.map iR)[a]? =some [.int .i64 (gi s.fa a)]:=by rw [List.getElem?_map,gi_some (by omega)];rfl
 have hx1:IsSl (.sl (s.fa.map iR) false) (s.fa.map iR):= .inr ⟨false,rfl⟩;simp only [go_sem,hl,h1,h2,h3,h8,h35,hx1.ix (k:=1) hf rfl]
 cases hc:decide (gi s.fa a<0) with
 | true=>
   simp only [go_sem,hl];refine ⟨_,_,[],_,rfl,⟨?_,fun i hi=> ?_⟩,.inl ⟨rfl,rfl⟩,.inr ⟨rfl,a,b,bl,s,rfl,rfl,han,hbn,hT,hS,.inl ⟨by simpa using hc,rfl,rfl⟩⟩⟩
   · have:=exx.1;have:=ex4.1;omega
   · have:=exx.1;rw [ex4.2 i (by omega),hk i (by omega),exx.2 i hi]
 |false=>
 have hc2:0≤gi s.fa a:=by simpa using hc
 simp only [go_sem,hl,h1,h2,h3,h6,h7];have hfb0:gi s.fa b=0:=(hS.par hbn hbn').1.root;have hda:gi s.fa a<n:=hS.deep hbn hbn' _ (List.mem_of_getElem? (gi_some (by omega)));generalize hL:loopC _ _ _ _ _ _ _ _ _ _=L;let Q (L:CRes):Prop:= ∃(tm:List Val) (H':Hp) (v:Val) (w:List Int),L= .exit 5 tm H' []∧tm.length=109∧getT tm 14=v∧MV H.n H' v w∧H4.n≤H'.n∧(∀i,i<H.n→H'.get i=H4.get i)∧FirstW A s.fa a w b∧(w.length:Int)=gi s.fa a;have hQ:Q L:=by
  subst hL;refine loop_up _ Q
   (fun x tm H1=>tm.length=109∧getT tm 2= .int .i64 b∧getT tm 3= .lv 0 [ss,es]∧getT tm 13= .sl (s.fa.map iR) false∧ ∃(kk:Nat) (v:Val) (w:List Int),getT tm 1= .int .i64 kk∧getT tm 14=v∧MV H.n H1 v w∧H4.n≤H1.n∧(∀i,i<H.n→H1.get i=H4.get i)∧
    kk<n∧0≤gi s.fa kk∧(x:Int)+gi s.fa kk=gi s.fa a∧w.length=x∧FirstW A s.fa a w kk)
   (gi s.fa a).toNat ?_ lf 0 _ _ (Nat.zero_le _) (by omega) ?_
  · rintro x tm H5 hx ⟨hl,h2,h3,h13,kk,v,w,h1,h14,hmv,hn5,hk5,hkn,hka,hsum2,hwl,hfw⟩;generalize hB:evalCode _ _ _ _ _ _ tm H5 []=R;by_cases hkb:kk=b
    · subst hkb;have hne:((kk:Int) !=(kk:Int))=false:=by simp
      simp only [go_sem,hl,h1,h2,hne] at hB;subst hB;refine .inr ⟨rfl,_,_,v,w,rfl,?_,?_,hmv,hn5,hk5,hfw,by omega⟩
      · simp only [go_sem,hl]
      · simp only [go_sem,hl,h14]
    · have hne:((kk:Int) !=(b:Int))=true:=by simp;omega
      have hpos:0<gi s.fa kk:=by refine Classical.byContradiction fun hn=> ?_;have:=hD.walk kk hkn hka;rw [show (gi s.fa kk).toNat=0 by omega] at this;exact hkb this.symm
      obtain ⟨e0,u0,b1,b2⟩:=back_step f4 hT hD hkn hpos;obtain ⟨pa,y,ha1,ha2,ha3,hyA⟩:=frzRow he hg hto (a:=kk) (by omega);have hy:=hyA H5;obtain ⟨hrRR,hrlf⟩:=f5 kk hkn;have hAx:=f4 kk hkn;have hfk:(s.fa.map iR)[kk]? =some [.int .i64 (gi s.fa kk)]:=by rw [List.getElem?_map,gi_some (by omega)];rfl
      have hwk:IntKind.i64.wrap (gi s.fa kk-1)=gi s.fa kk-1:=by rw [wrap64 _ (by omega) (by omega)]
      simp only [go_sem,hl,h1,h2,h3,hne,he.opdV,hy.opd,hy.len,ha1,ha2,ha3] at hB;revert hB;generalize hL:loopC _ _ _ _ _ _ _ _ _ _=L;intro hB;generalize hts:adjN adj kk=ts at*;have hAt:A kk=ts:=hts;let Q2 (L:CRes):Prop:= ∃(tm:List Val) (H':Hp) (e t:Nat) (v':Val),L= .exit 7 tm H' []∧tm.length=109∧getT tm 2= .int .i64 b∧getT tm 3= .lv 0 [ss,es]∧getT tm 13= .sl (s.fa.map iR) false∧getT tm 1= .int .i64 t∧getT tm 14=v'∧MV H.n H' v' (w++ [(e:Int)])∧H4.n≤H'.n∧(∀i,i<H.n→H'.get i=H4.get i)∧
       ts[e]? =some t∧gi s.fa t=gi s.fa kk-1∧ ∀e' t':Nat,e'<e→ts[e']? =some t'→gi s.fa t'≠gi s.fa kk-1
      have hQ2:Q2 L:=by
       subst hL;refine loop_up _ Q2
        (fun e tm H6=>tm.length=109∧getT tm 1= .int .i64 kk∧getT tm 2= .int .i64 b∧getT tm 3= .lv 0 [ss,es]∧getT tm 13= .sl (s.fa.map iR) false∧getT tm 14=v∧getT tm 83=y∧getT tm 84= .int .i64 ts.length∧getT tm 85= .int .i64 e∧H6=H5∧
         ∀e' t':Nat,e'<e→ts[e']? =some t'→gi s.fa t'≠gi s.fa kk-1)
        ts.length ?_ lf 0 _ _ (Nat.zero_le _) (by omega) ?_
       · rintro e tm H6 hj2 ⟨hl,h1,h2,h3,h13,h14,h83,h84,h85,rfl,hmin⟩;generalize hB:evalCode _ _ _ _ _ _ tm H6 []=R;by_cases hjn:e<ts.length
         · obtain ⟨t,hr1⟩: ∃t,ts[e]? =some t:=⟨ts[e],by simp [hjn]⟩;have htn:t<n:=hAx t (List.mem_of_getElem? hr1);obtain ⟨pe,z,zl,a1,c1,he1,he2,hz,he3⟩:=hy.at_ e t hr1;have he3:=he3 H6 (Ext.refl _);have hlt2:decide ((e:Int)<(ts.length:Int))=true:=by simp;omega
           have hwe:IntKind.i64.wrap ((e:Int)+1)=((e+1:Nat):Int):=by rw [wrap64 _ (by omega) (by omega)];rfl
           have hft:(s.fa.map iR)[t]? =some [.int .i64 (gi s.fa t)]:=by rw [List.getElem?_map,gi_some (by omega)];rfl
           cases hc3:(gi s.fa t==gi s.fa kk-1) with
           | false=>
             simp only [go_sem,hl,h1,h13,h83,h84,h85,hlt2,hy.opd,he1,he2,he3,hz.opdV,hz.okCell,hx1.ix (k:=1) hft rfl,hx1.ix (k:=1) hfk rfl,hwk,hc3,hwe] at hB;subst hB;refine .inl ⟨_,_,rfl,hjn,?_⟩;simp only [go_sem,hl,h1,h2,h3,h13,h14,h83,h84,hwe];intro e' t' he' ht';by_cases ee:e'=e
             · subst ee;rw [hr1] at ht';cases ht';exact by simpa using hc3
             · exact hmin e' t' (by omega) ht'
           | true=>
             obtain ⟨v',H7,happ,hm2,hn7,hk7⟩:=hmv.append (e:Int) (by have:=exx.1;have:=ex4.1;omega) (by omega);simp only [go_sem,hl,h1,h13,h14,h83,h84,h85,hlt2,hy.opd,he1,he2,he3,hz.opdV,hz.okCell,hx1.ix (k:=1) hft rfl,hx1.ix (k:=1) hfk rfl,hwk,hc3,hwe,hmv.opdV,bs28,app28,happ] at hB;subst hB;refine .inr ⟨rfl,_,_,e,t,v',rfl,?_⟩;simp only [go_sem,hl,h2,h3,h13];exact ⟨hm2.opdV _,hm2,by omega,fun i hi=>by rw [hk7 i hi,hk5 i hi],hr1,by simpa using hc3,hmin⟩
         · exfalso;have q:=(List.getElem?_eq_some_iff.1 b1).1;exact hmin e0 u0 (by omega) b1 b2
       · simp only [go_sem,hl,h1,h2,h3,h13,h14,hy.opd];exact ⟨rfl,fun e' t' he'=>by omega⟩
      obtain ⟨tm,H6,e,t,v',rfl,hl,h2,h3,h13,h1,h14,hmv',hn6,hk6,he1,he2,he3⟩:=hQ2;simp only [go_sem] at hB;subst hB;refine .inl ⟨_,_,rfl,by omega,?_⟩;refine ⟨hl,h2,h3,h13,t,v',w++ [(e:Int)],h1,h14,hmv',hn6,hk6,hAx t (List.mem_of_getElem? he1),by omega,by omega,by simp [hwl],?_⟩;exact hfw.snoc (by rw [hAt];exact he1) he2 (fun e' t' q1 q2=>he3 e' t' q1 (by rw [←hAt];exact q2))
  · simp only [go_sem,hl,h1,h2,h3];exact ⟨a,_,[],rfl,rfl,.inl ⟨rfl,rfl⟩,fun _ _=>trivial,han,hc2,by omega,rfl,rfl⟩
 obtain ⟨tm,H5,v,w,rfl,hl,h14,hmv,hn5,hk5,hfw,hwl⟩:=hQ;simp only [go_sem,hl,h14,hmv.opdV,hmv.noLoc];refine ⟨_,_,w,_,rfl,⟨?_,fun i hi=> ?_⟩,hmv,.inr ⟨rfl,a,b,bl,s,rfl,rfl,han,hbn,hT,hS,.inr ⟨hc2,rfl,hfw,hwl⟩⟩⟩
 · have:=exx.1;have:=ex4.1;omega
 · have:=exx.1;rw [hk5 i hi,ex4.2 i (by omega),hk i (by omega),exx.2 i hi]
end
theorem roundsT_sc {n A} (srt:List Nat→List Nat) (hs: ∀l,(srt l).Perm l) (ha: ∀i,i<n→ ∀k∈A i,k<n): ∀j,j≤n→SCs A (roundsT srt A n j).rs
 |0,_=>fun S hS=>by cases hS
 | j+1,hj=>by
   rw [roundsT_succ];have hR:=roundsT_ok srt hs ha j (by omega);have ih:=roundsT_sc srt hs ha j (by omega);generalize roundsT srt A n j=t at*;unfold stepR';split
   · next hw=>exact (visit_sc srt hs ha n j t (by omega) hR.wf hR.cl hw (by have:=hR.wf.nn;omega) ih).sc
   · exact ih
theorem Parts.pos {n A rs} (h:Parts n A rs) {X Y X' Y':List (List Nat)} {S S':List Nat} (e:rs=X++S::Y) (e':rs=X'++S'::Y') {u:Nat} (hu:u∈S) (hu':u∈(X'++ [S']).flatten):S=S'∨S∈X':=by
 have hnd:=h.nd;have hmem:S∈X'++S'::Y':=by rw [←e',e];simp
 rcases List.mem_append.1 hmem with c|c
 · exact .inr c
 · rcases List.mem_cons.1 c with c|c
   · exact .inl c
   · exfalso;rw [e',show X'++S'::Y'=(X'++ [S'])++Y' by simp,List.flatten_append] at hnd;exact (List.nodup_append.1 hnd).2.2 u hu' u (List.mem_flatten.2 ⟨S,c,hu⟩) rfl
theorem Parts.pre {n A rs} (h:Parts n A rs) {X Y:List (List Nat)} {S:List Nat} (e:rs=X++S::Y) {u v:Nat} (hu:u∈S) (hr:Rch A u v):v∈(X++ [S]).flatten:=by
 refine hr.closed (C:=fun v=>v∈(X++ [S]).flatten) (fun x hx y hy=> ?_) (by simp [hu]);obtain ⟨T,hT,hxT⟩:=List.mem_flatten.1 hx;rcases List.mem_append.1 hT with c|c
 · obtain ⟨X1,X2,e1⟩:=List.append_of_mem c;rw [List.flatten_append];refine List.mem_append_left _ ?_;rcases h.cl X1 T (X2++S::Y) (by rw [e,e1];simp) x hxT y hy with q|q
   · rw [e1,List.flatten_append];exact List.mem_append_left _ q
   · exact List.mem_flatten.2 ⟨T,c,q⟩
 · rw [List.mem_singleton] at c;subst c;rcases h.cl X T Y e x hxT y hy with q|q
   · rw [List.flatten_append];exact List.mem_append_left _ q
   · rw [List.flatten_append];refine List.mem_append_right _ (by simp [q])
theorem Parts.iff {n A rs} (h:Parts n A rs) (hs:SCs A rs) {S:List Nat} (hS:S∈rs) {u:Nat} (hu:u∈S) (v:Nat):v∈S↔Rch A u v∧Rch A v u:=by
 refine ⟨fun hv=>⟨hs S hS u hu v hv,hs S hS v hv u hu⟩,fun ⟨h1,h2⟩=> ?_⟩;obtain ⟨X,Y,e⟩:=List.append_of_mem hS;have hv:=h.pre e hu h1;obtain ⟨T,hT,hvT⟩:=List.mem_flatten.1 hv;rcases List.mem_append.1 hT with c|c
 · exfalso;obtain ⟨X1,X2,e1⟩:=List.append_of_mem c;have e2:rs=X1++T::(X2++S::Y):=by rw [e,e1];simp
   have hu2:=h.pre e2 hvT h2;have hnd:=h.nd;rw [e,e1,show X1++T::X2++S::Y=(X1++ [T])++(X2++S::Y) by simp,List.flatten_append] at hnd;exact (List.nodup_append.1 hnd).2.2 u hu2 u (by simp [hu]) rfl
 · rw [List.mem_singleton] at c;exact c▸hvT
def rB (fa:Nat→List Int) (u v:Nat):Bool:=decide (0≤gi (fa u) v)
def clsR (fa:Nat→List Int) (n u:Nat):List Nat:=(List.range n).filter fun k=>rB fa u k&&rB fa k u
def rsR (fa:Nat→List Int) (n:Nat):List (List Nat):=((List.range n).filter fun i=>decide (hdK (clsR fa n i)=(i:Int))).map (clsR fa n)
theorem hdK_cons (a:Nat) (S:List Nat):hdK (a::S)=a:=rfl
theorem clsR_sorted (fa n u):(clsR fa n u).Pairwise (· < ·):=List.Pairwise.filter _ List.pairwise_lt_range
theorem sorted_ext {l m:List Nat} (hl:l.Pairwise (· < ·)) (hm:m.Pairwise (· < ·)) (h: ∀x,x∈l↔x∈m):l=m:=by
 have nd: ∀ {l:List Nat},l.Pairwise (· < ·)→l.Nodup:=fun h=>h.imp fun h=>by omega
 have hp:=(List.perm_ext_iff_of_nodup (nd hl) (nd hm)).2 h;exact hp.eq_of_pairwise (fun a b _ _ h1 h2=>by omega) hl hm
theorem hdK_mem {S:List Nat} (h:S≠ []): ∃a:Nat,hdK S=a∧a∈S∧ ∃T,S=a::T:=by
 cases S with
 |nil=>exact absurd rfl h
 |cons a T=>exact ⟨a,rfl,List.mem_cons_self ..,T,rfl⟩
theorem rounds_eq {n:Nat} {A:Nat→List Nat} {fa:Nat→List Int} {X rs:List (List Nat)} (hX:Parts n A X) (hsc:SCs A X) (hsrt: ∀S∈X,S.Pairwise (· < ·)) (hms:MsOf X rs) (hfa: ∀u,u<n→ ∀v,v<n→(rB fa u v=true↔Rch A u v)):rs=rsR fa n:=by
 obtain ⟨hp,hpw⟩:=hms;have hmX: ∀S,S∈rs↔S∈X:=fun S=>hp.mem_iff;have hlt: ∀S∈X,∀u∈S,u<n:=fun S hS u hu=>(hX.mem u).1 (List.mem_flatten.2 ⟨S,hS,hu⟩);have hcl: ∀S∈X,∀u∈S,clsR fa n u=S:=fun S hS u hu=>by
  refine sorted_ext (clsR_sorted ..) (hsrt S hS) fun x=> ?_;unfold clsR;rw [List.mem_filter,List.mem_range,Bool.and_eq_true];constructor
  · rintro ⟨h1,h2,h3⟩;exact (hX.iff hsc hS hu x).2 ⟨(hfa u (hlt S hS u hu) x h1).1 h2,(hfa x h1 u (hlt S hS u hu)).1 h3⟩
  · intro hx;have h1:=hlt S hS x hx;obtain ⟨h2,h3⟩:=(hX.iff hsc hS hu x).1 hx;exact ⟨h1,(hfa u (hlt S hS u hu) x h1).2 h2,(hfa x h1 u (hlt S hS u hu)).2 h3⟩
 have hmR: ∀S,S∈rsR fa n↔S∈X:=fun S=>by
  unfold rsR;rw [List.mem_map];constructor
  · rintro ⟨i,hi,rfl⟩;rw [List.mem_filter,List.mem_range] at hi;obtain ⟨T,hT,hiT⟩:=List.mem_flatten.1 ((hX.mem i).2 hi.1);rw [hcl T hT i hiT];exact hT
  · intro hS;obtain ⟨a,ha,hm,T,e⟩:=hdK_mem (hX.ne S hS);refine ⟨a,List.mem_filter.2 ⟨List.mem_range.2 (hlt S hS a hm),?_⟩,hcl S hS a hm⟩;rw [decide_eq_true_eq,hcl S hS a hm,ha]
 have hnd1:rs.Pairwise fun S T=>hdK S<hdK T:=by have hfl:rs.flatten.Nodup:=(hp.flatten.nodup_iff).2 hX.nd;have hne: ∀S∈rs,S≠ []:=fun S hS=>hX.ne S ((hmX S).1 hS);have:=heads_nodup rs hne hfl;rw [List.nodup_iff_pairwise_ne,List.pairwise_map] at this;exact (hpw.and this).imp fun h=>by omega
 have hnd2:(rsR fa n).Pairwise fun S T=>hdK S<hdK T:=by unfold rsR;rw [List.pairwise_map];refine List.Pairwise.imp_of_mem ?_ (List.Pairwise.filter _ List.pairwise_lt_range);intro a b ha hb hab;rw [List.mem_filter,decide_eq_true_eq] at ha hb;rw [ha.2,hb.2];omega
 have nd: ∀ {l:List (List Nat)},(l.Pairwise fun S T=>hdK S<hdK T)→l.Nodup:=fun h=>h.imp fun {a b} h e=>by subst e;omega
 have hp2:rs.Perm (rsR fa n):=(List.perm_ext_iff_of_nodup (nd hnd1) (nd hnd2)).2 fun S=>by rw [hmX,hmR]
 exact hp2.eq_of_pairwise (fun a b _ _ h1 h2=>by omega) hnd1 hnd2
open Go Go.Proofs.Tryz
set_option maxRecDepth 100000
theorem Dist.rch {n u:Nat} {A:Nat→List Nat} {fa:List Int} (h:Dist n u A fa) {v:Nat} (hv:v<n):0≤gi fa v↔Rch A u v:=
 ⟨fun h0=>⟨_,h.walk v hv h0⟩,fun ⟨m,hm⟩=>(h.least m v hm).1⟩
def EndsP (A:Nat→List Nat):Prop:= ∀i,Rch A 0 i→ ∀t∈A i,¬Rch A t i
section
variable (pr:Nat→Option (List Val→Hp→FRes)) (lf:Nat)
theorem isI_setV (S:List Nat):IsI (setV S) (nI S):= .inr ⟨false,rfl⟩
theorem c24 (hp:pr 24=none) (hp11:pr 11=none) (k:Nat) (x y:Val) (rs:List (List Nat)) (H:Hp) (hx:IsSl x (rs.map fun S=> [setV S])) (hy:IsSl y (rs.map fun S=> [setV S])) (hl:rs.length<4611686018427387904) (hlf:rs.length<lf)
  (hS: ∀S∈rs,S.length<4611686018427387904∧S.length<lf):
  ∃H',EV pr lf (k+2) 24 [x,y] H= .ret (.bool true) H'∧Ext H H':=by
 unfold EV;rw [evalFn_S (E1 pr) okd lf (k+1) 24 25 _ H f24 _ hp (fns_24 pr) rfl rfl];have hc:((rs.length:Int) !=(rs.length:Int))=false:=by simp
 simp only [go_sem,hx.opdV,hy.opdV,hx.len,hy.len,List.length_map,hc];generalize hL:loopC _ _ _ _ _ _ _ _ _ _=L;let Q (L:CRes):Prop:= ∃tm H',L= .exit 0 tm H' []∧tm.length=27∧Ext H H';have hQ:Q L:=by
  subst hL;refine loop_up _ Q
   (fun j tm H1=>tm.length=27∧getT tm 0=x∧getT tm 1=y∧getT tm 12= .int .i64 rs.length∧getT tm 13= .int .i64 j∧Ext H H1)
   rs.length ?_ lf 0 _ _ (Nat.zero_le _) (by omega) (by simp [go_sem,Ext.refl])
  rintro j tm H1 hj ⟨hl1,h0,h1,h12,h13,hE⟩;generalize hB:evalCode _ _ _ _ _ _ tm H1 []=R;by_cases hjn:j<rs.length
  · have hlt:decide ((j:Int)<(rs.length:Int))=true:=by simp;omega
    have hw:IntKind.i64.wrap ((j:Int)+1)=((j+1:Nat):Int):=by rw [wrap64 _ (by omega) (by omega)];rfl
    have hf:(rs.map fun S=> [setV S])[j]? =some [setV rs[j]]:=by rw [List.getElem?_map,List.getElem?_eq_getElem hjn];rfl
    obtain ⟨q1,q2⟩:=hS rs[j] (List.getElem_mem hjn);have hI:=isI_setV rs[j];have h11:=c11 pr lf hp11 k (setV rs[j]) (setV rs[j]) (nI rs[j]) (nI rs[j]) H1 hI hI (by rw [nI_len];exact q1) (by rw [nI_len];exact q2) (by rw [nI_len];exact q1);rw [decide_eq_true rfl] at h11;have hsv: ∀t,opdV t (setV rs[j])=setV rs[j]:=fun _=>rfl;have hno:noLoc (setV rs[j])=true:=rfl;simp only [go_sem,hl1,h0,h1,h12,h13,hx.opdV,hy.opdV,hlt,hw,hx.ix (k:=1) hf rfl,hy.ix (k:=1) hf rfl,hsv,hno,h11] at hB;subst hB;refine .inl ⟨_,_,rfl,hjn,?_⟩;simp only [go_sem,hl1,h0,h1,h12];exact hE.trans (Ext.gc (Ext.refl _) _)
  · have hj2:j=rs.length:=by omega
    subst hj2;have hlt:decide ((rs.length:Int)<(rs.length:Int))=false:=by simp
    simp only [go_sem,hl1,h12,h13,hlt] at hB;subst hB;refine .inr ⟨rfl,_,_,rfl,?_,hE⟩;simp only [go_sem,hl1]
 obtain ⟨tm,H',rfl,hl1,hE⟩:=hQ;simp only [go_sem,hl1];exact ⟨_,rfl,hE⟩
theorem d21 (hp:noPr pr) (hpf:pr 21=none) (hp35:pr 35=none) (k:Nat) (ss es:Val) (sr er:List (List Val)) (adj:List (List (List Val))) (H:Hp) (g:Gph lf ss es sr er adj):
  ∃H' b,EV pr lf (k+3) 21 [.agg [ss,es]] H= .ret (.tup [.bool b,.int .i64 (indexN sr.length adj []:Nat)]) H'∧Ext H H'∧((shapeB sr.length adj=false∧b=false)∨(shapeB sr.length adj=true∧(b=true↔EndsP (adjN adj)))):=by
 have g':=g;obtain ⟨hs,he,hg,hsl,hn,hm,hrow,hbig⟩:=g;unfold EV;rw [evalFn_S (E1 pr) okd lf (k+2) 21 40 _ H f21 _ hpf (fns_21 pr) rfl rfl];have h1:=c10 pr lf hp (k+1) ss es sr er adj H g';rw [indexN_nil]
 cases hsh:shapeB sr.length adj with
 | false=>
   rw [hsh] at h1;simp only [go_sem,hs.opdV,hs.okCell,he.okCell,h1];exact ⟨_,_,rfl,Ext.gc (Ext.refl _) _,.inl rfl⟩
 |true=>
 rw [hsh] at h1;obtain ⟨e1,e2,e3,e4,e5,e6⟩:=g'.far hsh;have hto: ∀l∈adj,∀e∈l,0≤toE e:=fun l hl e he=>((shape_of hsh).2.2.2 l hl e he).1;have hn0:=(shape_of hsh).1;have ex:=Ext.gc (Ext.refl H) (.bool true);generalize hG:gc H.n (.bool true) H=H2 at*;obtain ⟨H3,s,h3,hS,ex2⟩:=cc35 pr lf hp35 (k+1) ss es sr sr.length (adjN adj) 0 H2 hs (e6 H2) e2 e3 (by omega) e4 e5;obtain ⟨hD,-⟩:=hS.dist hn0 e4;generalize hn':sr.length=n at*;have hfl:=hD.len;have hx1:IsSl (.sl (s.fa.map iR) false) (s.fa.map iR):= .inr ⟨false,rfl⟩;simp only [Int.natCast_zero] at h3;simp only [go_sem,hs.opdV,hs.okCell,he.okCell,h1,hG,h3,List.length_map,hfl];generalize hL:loopC _ _ _ _ _ _ _ _ _ _=L;let A:=adjN adj;let Q (L:CRes):Prop:=(∃tm H',L= .exit 0 tm H' []∧tm.length=41∧Ext H H'∧EndsP A)∨(∃tm H',L= .ret tm H' []∧getT tm 2= .bool false∧getT tm 3= .int .i64 0∧Ext H H'∧ ¬EndsP A);have hQ:Q L:=by
  subst hL;refine loop_up _ Q
   (fun x tm H1=>tm.length=41∧getT tm 1= .lv 0 [ss,es]∧getT tm 12= .sl (s.fa.map iR) false∧getT tm 13= .int .i64 n∧getT tm 14= .int .i64 x∧Ext H H1∧ ∀i,i<x→Rch A 0 i→ ∀t∈A i,¬Rch A t i)
   n ?_ lf 0 _ _ (Nat.zero_le _) (by omega) ?_
  · rintro x tm H4 hx ⟨hl,q1,q12,q13,q14,hE,hok⟩;generalize hB:evalCode _ _ _ _ _ _ tm H4 []=R;by_cases hxn:x<n
    · have hlt : decide ((x:Int)<(n:Int))=true:=by simp;omega
      have hw:IntKind.i64.wrap ((x:Int)+1)=((x+1:Nat):Int):=by rw [wrap64 _ (by omega) (by omega)];rfl
      have hf:(s.fa.map iR)[x]? =some [.int .i64 (gi s.fa x)]:=by rw [List.getElem?_map,gi_some (by omega)];rfl
      cases hc:decide (gi s.fa x<0) with
      | true=>
        simp only [go_sem,hl,q1,q12,q13,q14,hlt,hw,hx1.ix (k:=1) hf rfl,hc] at hB;subst hB;refine .inl ⟨_,_,rfl,hxn,?_⟩;simp only [go_sem,hl,q1,q12,q13];refine ⟨hE,fun i hi hr=> ?_⟩;by_cases e:i=x
        · subst e;have:=(hD.rch hxn).2 hr;have:gi s.fa i<0:=by simpa using hc
          omega
        · exact hok i (by omega) hr
      | false=>
        have hrx:Rch A 0 x:=(hD.rch hxn).1 (by simpa using hc);obtain ⟨pa,y,ha1,ha2,ha3,hyA⟩:=frzRow he hg hto (a:=x) (by omega);have hy:=hyA H4;obtain ⟨hrRR,hrlf⟩:=e5 x hxn;have hAx:=e4 x hxn;simp only [go_sem,hl,q1,q12,q13,q14,hlt,he.opdV,hy.opd,hy.len,ha1,ha2,ha3,hx1.ix (k:=1) hf rfl,hc] at hB;revert hB;generalize hL:loopC _ _ _ _ _ _ _ _ _ _=L;intro hB;generalize hts:adjN adj x=ts at*;have hAt:A x=ts:=hts;let Q2 (L:CRes):Prop:=(∃tm H',L= .exit 2 tm H' []∧tm.length=41∧getT tm 1= .lv 0 [ss,es]∧getT tm 12= .sl (s.fa.map iR) false∧getT tm 13= .int .i64 n∧getT tm 14= .int .i64 x∧Ext H H'∧ ∀t∈ts,¬Rch A t x)∨
         (∃tm H',L= .ret tm H' []∧getT tm 2= .bool false∧getT tm 3= .int .i64 0∧Ext H H'∧ ¬EndsP A)
        have hQ2 :Q2 L:=by
         subst hL;refine loop_up _ Q2
          (fun e tm H5=>tm.length=41∧getT tm 1= .lv 0 [ss,es]∧getT tm 4= .int .i64 x∧getT tm 12= .sl (s.fa.map iR) false∧getT tm 13= .int .i64 n∧getT tm 14= .int .i64 x∧getT tm 25=y∧getT tm 26= .int .i64 ts.length∧getT tm 27= .int .i64 e∧Ext H H5∧ ∀t∈ts.take e,¬Rch A t x)
          ts.length ?_ lf 0 _ _ (Nat.zero_le _) (by omega) ?_
         · rintro e tm H5 hj2 ⟨hl,q1,q4,q12,q13,q14,q25,q26,q27,hE5,hok5⟩;generalize hB:evalCode _ _ _ _ _ _ tm H5 []=R;by_cases hjn:e<ts.length
           · obtain ⟨t,hr1⟩: ∃t,ts[e]? =some t:=⟨ts[e],by simp [hjn]⟩;have htn:t<n:=hAx t (List.mem_of_getElem? hr1);obtain ⟨pe,z,zl,a1,c1,he1,he2,hz,he3⟩:=(hyA H5).at_ e t hr1;have he3:=he3 H5 (Ext.refl _);have hlt2:decide ((e:Int)<(ts.length:Int))=true:=by simp;omega
             have hwe:IntKind.i64.wrap ((e:Int)+1)=((e+1:Nat):Int):=by rw [wrap64 _ (by omega) (by omega)];rfl
             obtain ⟨H6,s2,h6,hS2,ex6⟩:=cc35 pr lf hp35 (k+1) ss es sr n (adjN adj) t H5 hs (e6 H5) e2 e3 htn e4 e5;obtain ⟨hD2,-⟩:=hS2.dist htn e4;have hx2:IsSl (.sl (s2.fa.map iR) false) (s2.fa.map iR):= .inr ⟨false,rfl⟩;have hf2:(s2.fa.map iR)[x]? =some [.int .i64 (gi s2.fa x)]:=by rw [List.getElem?_map,gi_some (by rw [hD2.len];omega)];rfl
             have htk:ts.take (e+1)=ts.take e++ [t]:=by rw [List.take_add_one,hr1];rfl
             cases hc3:decide (gi s2.fa x≥0) with
             | true=>
               simp only [go_sem,hl,q1,q4,q25,q26,q27,hlt2,hs.opdV,he.opdV,hs.okCell,he.okCell,hy.opd,he1,he2,he3,hz.opdV,hz.okCell,h6,hx2.ix (k:=1) hf2 rfl,hc3] at hB;subst hB;refine .inr ⟨rfl,.inr ⟨_,_,rfl,?_⟩⟩;simp only [go_sem,hl];refine ⟨hE5.trans ex6,fun hP=>hP x hrx t (by rw [hAt];exact List.mem_of_getElem? hr1) ((hD2.rch hxn).1 (by simpa using hc3))⟩
             | false=>
               simp only [go_sem,hl,q1,q4,q25,q26,q27,hlt2,hs.opdV,he.opdV,hs.okCell,he.okCell,hy.opd,he1,he2,he3,hz.opdV,hz.okCell,h6,hx2.ix (k:=1) hf2 rfl,hc3,hwe] at hB;subst hB;refine .inl ⟨_,_,rfl,hjn,?_⟩;simp only [go_sem,hl,q1,q4,q12,q13,q14,q25,q26,hwe];refine ⟨hE5.trans ex6,fun u hu=> ?_⟩;rw [htk,List.mem_append,List.mem_singleton] at hu;rcases hu with hu|rfl
               · exact hok5 u hu
               · intro hr;have:=(hD2.rch hxn).2 hr;have:gi s2.fa x<0:=by simpa using hc3
                 omega
           · have hj3:e=ts.length:=by omega
             subst hj3;have hlt2:decide ((ts.length:Int)<(ts.length:Int))=false:=by simp
             simp only [go_sem,hl,q26,q27,hlt2] at hB;subst hB;rw [List.take_length] at hok5;refine .inr ⟨rfl,.inl ⟨_,_,rfl,?_⟩⟩;simp only [go_sem,hl,q1,q12,q13,q14];exact ⟨hE5,hok5⟩
         · simp only [go_sem,hl,q1,q12,q13,q14,hy.opd];exact ⟨rfl,hE,fun t ht=>by simp at ht⟩
        rcases hQ2 with ⟨tm,H5,rfl,hl,q1,q12,q13,q14,hE5,hok5⟩|⟨tm,H5,rfl,q2,q3,hE5,hno⟩
        · simp only [go_sem,hl,q14,hw] at hB;subst hB;refine .inl ⟨_,_,rfl,hxn,?_⟩;simp only [go_sem,hl,q1,q12,q13];refine ⟨hE5,fun i hi hr=> ?_⟩;by_cases e:i=x
          · subst e;rw [hAt];exact hok5
          · exact hok i (by omega) hr
        · simp only [go_sem] at hB;subst hB;exact .inr ⟨rfl,.inr ⟨_,_,rfl,q2,q3,hE5,hno⟩⟩
    · have hx2:x=n:=by omega
      subst hx2;have hlt:decide ((x:Int)<(x:Int))=false:=by simp
      simp only [go_sem,hl,q13,q14,hlt] at hB;subst hB;refine .inr ⟨rfl,.inl ⟨_,_,rfl,?_,hE,fun i hr=> ?_⟩⟩
      · simp only [go_sem,hl]
      · obtain ⟨m,hm⟩:=hr;exact hok i (Walk.lt e4 m hn0 hm) ⟨m,hm⟩
  · simp only [go_sem];exact ⟨rfl,ex.trans ex2,fun i hi=>by omega⟩
 rcases hQ with ⟨tm,H4,rfl,hl,hE,hP⟩|⟨tm,H4,rfl,q2,q3,hE,hP⟩
 · simp only [go_sem,hl];exact ⟨_,_,rfl,hE,.inr ⟨fun _=>hP,fun _=>rfl⟩⟩
 · simp only [go_sem,q2,q3];exact ⟨_,_,rfl,hE,.inr ⟨fun h=>(by cases h),fun h=>absurd h hP⟩⟩
end
open Go Go.Proofs.Tryz
set_option maxRecDepth 100000
set_option maxHeartbeats 2000000
def lvlB (A:Nat→List Nat) (n:Nat):Nat→Nat→Bool
 |0,k=>decide (k=0)
 |m+1,k=>(List.range n).any fun i=>lvlB A n m i&&decide (k∈A i)
theorem lvlB_iff {A:Nat→List Nat} {n:Nat} (h0:0<n) (hA: ∀a,a<n→ ∀t∈A a,t<n): ∀m k,lvlB A n m k=true↔Walk A m 0 k
 |0,k=>by simp [lvlB,Walk];omega
 | m+1,k=>by
   simp only [lvlB,List.any_eq_true,List.mem_range,Bool.and_eq_true,decide_eq_true_eq];constructor
   · rintro ⟨i,-,h1,h2⟩;exact Walk.snoc m ((lvlB_iff h0 hA m i).1 h1) h2
   · intro h;obtain ⟨c,h1,h2⟩:=h.snoc';exact ⟨c,Walk.lt hA m h0 h1,(lvlB_iff h0 hA m c).2 h1,h2⟩
def bL (n:Nat) (P:Nat→Bool):List Val:=(List.range n).map fun k=> .bool (P k)
def bR (n:Nat) (P:Nat→Bool):List (List Val):=(List.range n).map fun k=> [.bool (P k)]
theorem bL_get {n:Nat} {P:Nat→Bool} {k:Nat} (h:k<n):(bL n P)[k]? =some (.bool (P k)):=by simp [bL,h]
theorem bR_get {n:Nat} {P:Nat→Bool} {k:Nat} (h:k<n):(bR n P)[k]? =some [.bool (P k)]:=by simp [bR,h]
theorem bL_len (n P):(bL n P).length=n:=by simp [bL]
theorem bL_set {n:Nat} (P:Nat→Bool) {k:Nat} (h:k<n):(bL n P).set k (.bool true)=bL n fun u=>P u||decide (u=k):=by
 apply List.ext_getElem?;intro i;rw [List.getElem?_set];by_cases e:k=i
 · subst e;simp [bL,h]
 · rw [if_neg e];by_cases hi:i<n
   · rw [bL_get hi,bL_get hi];simp [Ne.symm e]
   · simp [bL,hi]
def LBv (lo hi:Nat) (H:Hp) (v:Val) (n:Nat) (P:Nat→Bool):Prop:=
 v= .sl (bR n P) false∨ ∃id g d ro,v= .ref id g 0 1 n false∧H.get id=some (.cells g d ro (bL n P))∧lo≤id∧id<hi∧d≤g
theorem LBv.len {lo hi H v n P} (h:LBv lo hi H v n P):lenS v=some (.int .i64 n):=by
 rcases h with rfl|⟨id,g,d,ro,rfl,-⟩
 · simp [lenS,bR]
 · rfl
theorem LBv.opdV {lo hi H v n P} (h:LBv lo hi H v n P) (t:Nat):opdV t v=v:=by rcases h with rfl|⟨id,g,d,ro,rfl,-⟩<;>rfl
theorem LBv.ext {lo hi H H' v n P} (h:LBv lo hi H v n P) (he: ∀i,lo≤i→i<hi→H'.get i=H.get i):LBv lo hi H' v n P:=by
 rcases h with h|⟨id,g,d,ro,rfl,hg,h1,h2,h3⟩
 · exact .inl h
 · exact .inr ⟨id,g,d,ro,rfl,by rw [he id h1 h2,hg],h1,h2,h3⟩
theorem LBv.at_ {lo hi H v n P} (h:LBv lo hi H v n P) {e:Nat} (he:e<n): ∃p,ixA 1 v (.int .i64 (e:Nat))=some p∧(∀t,Go.PV.opdV t p=p)∧ ∀tm,loadC 1 false (rowAtP tm H p)=some (.bool (P e)):=by
 rcases h with rfl|⟨id,g,d,ro,rfl,hg,h1,h2,h3⟩
 · have hx:IsSl (.sl (bR n P) false) (bR n P):= .inr ⟨false,rfl⟩;exact ⟨_,hx.ix (k:=1) (bR_get he) rfl,fun _=>rfl,fun _=>rfl⟩
 · refine ⟨.ptr id g (0+e*1) (0+e*1+1),?_,fun _=>rfl,?_⟩
   · rw [ixA_ref,if_pos he]
   · intro tm;rw [rowAtP_ptr,hg,rowH_cells,if_pos h3,loadC_one,if_pos (Nat.le_refl _),Nat.zero_add,Nat.mul_one,bL_get he]
theorem mapH_bL (k:Nat) (l:List Bool) (H:Hp):mapH (pub (k+1)) (l.map Val.bool) H=some (l.map Val.bool,H):=by
 induction l with
 |nil=>rfl
 | cons a l ih=>
   have e:pub (k+1) (.bool a) H=some (.bool a,H):=by simp only [pub]
   simp only [List.map_cons,mapH,e,ih]
theorem chunk_bL (l:List Bool):chunk 1 l.length (l.map Val.bool)=l.map fun b=> [.bool b]:=by
 induction l with
 |nil=>rfl
 |cons a l ih=>simp only [List.length_cons,chunk,List.map_cons,List.take_succ_cons,List.take_zero,List.drop_succ_cons,List.drop_zero,ih]
theorem pub_refB (k:Nat) (H:Hp) (id gen g d ro n:Nat) (P:Nat→Bool) (c:Bool) (h:H.get id=some (.cells g d ro (bL n P))) (hd:d≤gen):
  pub (k+2) (.ref id gen 0 1 n c) H=some (.sl (bR n P) c,H.set id (.cells g d (maxN ro n) (bL n P))):=by
 have e1:bL n P=((List.range n).map P).map Val.bool:=by simp [bL]
 have e2:bR n P=((List.range n).map P).map fun b=> [.bool b]:=by simp [bR]
 have hl:((List.range n).map P).length=n:=by simp
 have h1:sub (bL n P) 0 n=some (bL n P):=by simp [sub,bL_len,List.take_of_length_le]
 have h2:=chunk_bL ((List.range n).map P);rw [hl,←e1,←e2] at h2;have h3: ∀H,mapH (pub (k+1)) (bL n P) H=some (bL n P,H):=fun H=>by rw [e1];exact mapH_bL k _ H
 rw [pub];simp only [h];rw [if_pos ⟨hd,by omega⟩];simp only [Nat.zero_add,Nat.mul_one,h1,fN_eq,fH_eq,h3,h2,fLL_eq]
section
variable (pr:Nat→Option (List Val→Hp→FRes)) (lf:Nat)
theorem c39 (hp:pr 39=none) (k n:Nat) (H:Hp) (h0:0<n) (hn:n≤400):
  ∃H',EV pr lf (k+1) 39 [.int .i64 (n:Nat),.int .i64 0] H= .ret (.ref H.n 0 0 1 n false) H'∧H'.n=H.n+1∧H'.get H.n=some (.cells 0 0 0 (bL n fun k=>decide (k=0)))∧ ∀i,i<H.n→H'.get i=H.get i:=by
 unfold EV;rw [evalFn_S (E1 pr) okd lf k 39 10 _ H f39 _ hp (fns_39 pr) rfl rfl];have hr:List.replicate n (Val.bool false)=bL n fun _=>false:=by simp [bL,List.map_const']
 have hg:=get_push_new H (.cells 0 0 0 (List.replicate n (Val.bool false)));have hb:((0:Nat):Int)=0:=rfl;have hix:ixA 1 (.ref H.n 0 0 1 n false) (.int .i64 0)=some (.ptr H.n 0 (0+0*1) (0+0*1+1)):=by have:=ixA_ref 1 H.n 0 0 n false 0;rw [if_pos h0] at this;exact this
 simp only [go_sem,ms86 pr n _ _ (show n≤4294967296 by omega),hix,hg,h0,List.length_replicate];refine ⟨_,rfl,by rw [n_push],?_,fun i hi=>get_push_old _ _ _ hi⟩;rw [get_push_new,hr,bL_set _ h0];simp
theorem cc39 (hp:pr 39=none) (k n:Nat) (H:Hp) (h0:0<n) (hn:n≤400):
  ∃H',(∀tm,retC (E1 pr) 39 H.n tm (evalFn (E1 pr) okd lf (k+1) 39 [.int .i64 (n:Nat),.int .i64 0] H)= .ok (.sl (bR n fun k=>decide (k=0)) false) tm H')∧Ext H H':=by
 obtain ⟨H1,h1,g0,g1,g2⟩:=c39 pr lf hp k n H h0 hn;have p1:=pub_refB 48 H1 H.n 0 0 0 0 n _ false g1 (Nat.le_refl _);generalize hF:Hp.set H1 _ _=F at p1;have hE:Ext H F:=by rw [←hF];exact Ext.set ⟨by omega,g2⟩ (Nat.le_refl _) _
 refine ⟨gc H.n (.sl (bR n fun k=>decide (k=0)) false) F,fun tm=> ?_,Ext.gc hE _⟩;rw [show evalFn (E1 pr) okd lf (k+1) 39 [.int .i64 (n:Nat),.int .i64 0] H=_ from h1];have hk:(E1 pr).keep 39=false:=by kernel_rfl
 simp only [retC,hk,Bool.false_eq_true,if_false,show depthP=48+2 from rfl,p1]
theorem d23 (hp :noPr pr) (hpf:pr 23=none) (hp21:pr 21=none) (hp35:pr 35=none) (hp39:pr 39=none) (k:Nat) (ss es:Val) (sr er:List (List Val)) (adj:List (List (List Val))) (H:Hp) (g:Gph lf ss es sr er adj)
  (hW:shapeB sr.length adj=true→EndsP (adjN adj)→ ∀m v,Walk (adjN adj) m 0 v→m≤400):
  ∃ (H':Hp) (m e:Nat),EV pr lf (k+4) 23 [.agg [ss,es]] H= .ret (.tup [.int .i64 m,.int .i64 e]) H'∧Ext H H'∧
    ((shapeB sr.length adj=false∧m=0∧e=2)∨(shapeB sr.length adj=true∧ ¬EndsP (adjN adj)∧m=0∧e=4)∨(shapeB sr.length adj=true∧EndsP (adjN adj)∧e=0∧(∃v,Walk (adjN adj) m 0 v)∧ ∀v,¬Walk (adjN adj) (m+1) 0 v)):=by
 have g':=g;obtain ⟨hs,he,hg,hsl,hn,hm,hrow,hbig⟩:=g;unfold EV;rw [evalFn_S (E1 pr) okd lf (k+3) 23 63 _ H f23 _ hpf (fns_23 pr) rfl rfl];obtain ⟨H1,b,h21,ex1,hb⟩:=d21 pr lf hp hp21 hp35 k ss es sr er adj H g';have hk21:(E1 pr).keep 21=false:=by kernel_rfl
 have r21:=fun tm=>retC_frz (E1 pr) 21 H.n tm _ H1 (pub_bo2 b .i64 (indexN sr.length adj []:Nat) H1);unfold EV at h21;have ex:=Ext.gc ex1 (.tup [.bool b,.int .i64 (indexN sr.length adj []:Nat)]);generalize hG:gc H.n (.tup [.bool b,.int .i64 (indexN sr.length adj []:Nat)]) H1=H2 at*;have hz0:((((0:Nat):Int)) !=0)=false:=rfl;have hz2:((((2:Nat):Int)) !=0)=true:=rfl;rcases hb with ⟨hsh,rfl⟩|⟨hsh,hb⟩
 · have hix:indexN sr.length adj []=2:=by rw [indexN_nil,hsh];rfl
   rw [hix] at h21 r21;simp only [go_sem,hs.opdV,hs.okCell,he.okCell,h21,r21,hz0,hz2];exact ⟨_,0,2,rfl,ex,.inl ⟨hsh,rfl,rfl⟩⟩
 have hix:indexN sr.length adj []=0:=by rw [indexN_nil,hsh];rfl
 rw [hix] at h21 r21
 cases b with
 | false=>
   simp only [go_sem,hs.opdV,hs.okCell,he.okCell,h21,r21,hz0,hz2];exact ⟨_,0,4,rfl,ex,.inr (.inl ⟨hsh,fun h=>(by have:=hb.2 h;cases this),rfl,rfl⟩)⟩
 |true=>
 have hP := hb.1 rfl;have hWP:=hW hsh hP;obtain ⟨f1,f2,f3,f4,f5,f6⟩:=g'.far hsh;have hto: ∀l∈adj,∀e∈l,0≤toE e:=fun l hl e he=>((shape_of hsh).2.2.2 l hl e he).1;have hn0:=(shape_of hsh).1;obtain ⟨H3,h39,ex3⟩:=cc39 pr lf hp39 (k+2) sr.length H2 hn0 f2;rw [f1] at hn;simp only [go_sem,hs.opdV,he.opdV,hs.okCell,he.okCell,he.len,h21,r21,hz0,f1,h39];generalize hn':sr.length=n at*;let A:=adjN adj;have hL0:=lvlB_iff (A:=A) hn0 f4;generalize hL:loopC _ _ _ _ _ _ _ _ _ _=L;let Q (L:CRes):Prop:= ∃(tm:List Val) (H':Hp) (m:Nat),L= .ret tm H' []∧getT tm 2= .int .i64 m∧getT tm 3= .int .i64 0∧Ext H H'∧(∃v,Walk A m 0 v)∧ ∀v,¬Walk A (m+1) 0 v;have hQ:Q L:=by
  subst hL;refine loop_up _ Q
   (fun j tm H4=>tm.length=64∧getT tm 1= .lv 0 [ss,es]∧getT tm 7= .int .i64 j∧Ext H H4∧LBv H.n H4.n H4 (getT tm 6) n (lvlB A n j)∧ ∃v,Walk A j 0 v)
   400 ?_ lf 0 _ _ (Nat.zero_le _) (by omega) ?_
  · rintro j tm H4 hj ⟨hl,q1,q7,hE,hlv,hne⟩;generalize hB:evalCode _ _ _ _ _ _ tm H4 []=R;generalize h6:getT tm 6=v6 at*;have hlen6:=hlv.len;have m86:=fun tm H=>ms86 pr n tm H (by omega);simp only [go_sem,hl,q1,q7,h6,hlv.opdV,hlen6,m86] at hB;revert hB;generalize hL:loopC _ _ _ _ _ _ _ _ _ _=L;intro hB;let N (x:Nat):Nat→Bool:=fun v=>(List.range x).any fun i=>lvlB A n j i&&decide (v∈A i);let M (x:Nat):Bool:=(List.range x).any fun i=>lvlB A n j i&& !(A i).isEmpty;let Q2 (L:CRes):Prop:= ∃tm H',L= .exit 3 tm H' []∧tm.length=64∧getT tm 1= .lv 0 [ss,es]∧getT tm 7= .int .i64 j∧getT tm 8= .ref H4.n 0 0 1 n false∧getT tm 9= .bool (M n)∧Ext H4 H'∧H4.n<H'.n∧H'.get H4.n=some (.cells 0 0 0 (bL n (N n)));have hQ2:Q2 L:=by
     subst hL;refine loop_up _ Q2
      (fun x tm H5=>tm.length=64∧getT tm 1= .lv 0 [ss,es]∧getT tm 7= .int .i64 j∧getT tm 8= .ref H4.n 0 0 1 n false∧getT tm 9= .bool (M x)∧getT tm 35=v6∧getT tm 36= .int .i64 n∧getT tm 37= .int .i64 x∧Ext H4 H5∧H4.n<H5.n∧H5.get H4.n=some (.cells 0 0 0 (bL n (N x))))
      n ?_ lf 0 _ _ (Nat.zero_le _) (by omega) ?_
     · rintro x tm H5 hx ⟨hl,q1,q7,q8,q9,q35,q36,q37,hE5,hn5,hg5⟩;generalize hB:evalCode _ _ _ _ _ _ tm H5 []=R;have hlv5:=hlv.ext (H':=H5) (fun i _ h2=>hE5.2 i h2);by_cases hxn:x<n
       · have hlt:decide ((x:Int)<(n:Int))=true:=by simp;omega
         have hw:IntKind.i64.wrap ((x:Int)+1)=((x+1:Nat):Int):=by rw [wrap64 _ (by omega) (by omega)];rfl
         obtain ⟨p,p1,p2,p3⟩:=hlv5.at_ hxn;have hNs: ∀v,N (x+1) v=(N x v||(lvlB A n j x&&decide (v∈A x))):=fun v=>by show List.any _ _=_;rw [List.range_succ,List.any_append];simp;rfl
         have hMs:M (x+1)=(M x||(lvlB A n j x&& !(A x).isEmpty)):=by show List.any _ _=_;rw [List.range_succ,List.any_append];simp;rfl
         cases hlx:lvlB A n j x with
         | false=>
           rw [hlx] at p3;simp only [go_sem,hl,q35,q36,q37,hlt,hlv5.opdV,p1,p2,p3,hw] at hB;subst hB;refine .inl ⟨_,_,rfl,hxn,?_⟩;have e1:N (x+1)=N x:=funext fun v=>by rw [hNs,hlx];simp
           have e2:M (x+1)=M x:=by rw [hMs,hlx];simp
           simp only [go_sem,hl,q1,q7,q8,q9,q35,q36,e1,e2];exact ⟨hE5,hn5,hg5⟩
         | true =>
           rw [hlx] at p3;obtain ⟨pa,y,ha1,ha2,ha3,hyA⟩:=frzRow he hg hto (a:=x) (by omega);have hy:=hyA H5;obtain ⟨hrRR,hrlf⟩:=f5 x hxn;have hAx:=f4 x hxn;simp only [go_sem,hl,q1,q35,q36,q37,hlt,hlv5.opdV,he.opdV,hy.opd,hy.len,p1,p2,p3,ha1,ha2,ha3] at hB;revert hB;generalize hL:loopC _ _ _ _ _ _ _ _ _ _=L;intro hB;generalize hts:adjN adj x=ts at*;have hAt:A x=ts:=hts;let Q3 (L:CRes):Prop:= ∃tm H',L= .exit 5 tm H' []∧tm.length=64∧getT tm 1= .lv 0 [ss,es]∧getT tm 7= .int .i64 j∧getT tm 8= .ref H4.n 0 0 1 n false∧getT tm 9= .bool (M (x+1))∧getT tm 35=v6∧getT tm 36= .int .i64 n∧getT tm 37= .int .i64 x∧Ext H4 H'∧H4.n<H'.n∧H'.get H4.n=some (.cells 0 0 0 (bL n (N (x+1))));have hQ3:Q3 L:=by
            subst hL;refine loop_up _ Q3
             (fun e tm H6=>tm.length=64∧getT tm 1= .lv 0 [ss,es]∧getT tm 7= .int .i64 j∧getT tm 8= .ref H4.n 0 0 1 n false∧getT tm 9= .bool (M x||decide (0<e))∧getT tm 35=v6∧getT tm 36= .int .i64 n∧getT tm 37= .int .i64 x∧
              getT tm 48=y∧getT tm 49= .int .i64 ts.length∧getT tm 50= .int .i64 e∧Ext H4 H6∧H4.n<H6.n∧H6.get H4.n=some (.cells 0 0 0 (bL n fun v=>N x v||decide (v∈ts.take e))))
             ts.length ?_ lf 0 _ _ (Nat.zero_le _) (by omega) ?_
            · rintro e tm H6 hj2 ⟨hl,q1,q7,q8,q9,q35,q36,q37,q48,q49,q50,hE6,hn6,hg6⟩;generalize hB:evalCode _ _ _ _ _ _ tm H6 []=R;by_cases hjn:e<ts.length
              · obtain ⟨t,hr1⟩: ∃t,ts[e]? =some t:=⟨ts[e],by simp [hjn]⟩;have htn:t<n:=hAx t (List.mem_of_getElem? hr1);obtain ⟨pe,z,zl,a1,c1,he1,he2,hz,he3⟩:=(hyA H6).at_ e t hr1;have he3:=he3 H6 (Ext.refl _);have hlt2:decide ((e:Int)<(ts.length:Int))=true:=by simp;omega
                have hwe:IntKind.i64.wrap ((e:Int)+1)=((e+1:Nat):Int):=by rw [wrap64 _ (by omega) (by omega)];rfl
                have htk:ts.take (e+1)=ts.take e++ [t]:=by rw [List.take_add_one,hr1];rfl
                have hset:(bL n fun v=>N x v||decide (v∈ts.take e)).set t (.bool true)=bL n fun v=>N x v||decide (v∈ts.take (e+1)):=by rw [bL_set _ htn];congr 1;funext v;rw [htk];simp [Bool.or_assoc]
                simp only [go_sem,hl,q1,q8,q48,q49,q50,hlt2,hy.opd,he1,he2,he3,hz.opdV,hz.okCell,hg6,htn,bL_len,hwe] at hB;subst hB;refine .inl ⟨_,_,rfl,hjn,?_⟩;simp only [go_sem,hl,q1,q7,q8,q35,q36,q37,q48,q49,hwe,hset];refine ⟨by simp,Ext.set hE6 (Nat.le_refl _) _,hn6,get_set_same _ _ _ (by rw [hg6];rfl)⟩
              · have hj3:e=ts.length:=by omega
                subst hj3;have hlt2:decide ((ts.length:Int)<(ts.length:Int))=false:=by simp
                simp only [go_sem,hl,q49,q50,hlt2] at hB;subst hB;rw [List.take_length] at hg6;have e1:N (x+1)=fun v=>N x v||decide (v∈ts):=funext fun v=>by rw [hNs,hlx,hAt];simp
                have e2:M (x+1)=(M x||decide (0<ts.length)):=by rw [hMs,hlx,hAt];cases ts<;>simp
                refine .inr ⟨rfl,_,_,rfl,?_⟩;simp only [go_sem,hl,q1,q7,q8,q9,q35,q36,q37,e1,e2];exact ⟨hE6,hn6,hg6⟩
            · simp only [go_sem,hl,q1,q7,q8,q9,q35,q36,q37,hy.opd];refine ⟨by simp,hE5,hn5,by simpa using hg5⟩
           obtain ⟨tm,H6,rfl,hl,q1,q7,q8,q9,q35,q36,q37,hE6,hn6,hg6⟩:=hQ3;simp only [go_sem,hl,q37,hw] at hB;subst hB;refine .inl ⟨_,_,rfl,hxn,?_⟩;simp only [go_sem,hl,q1,q7,q8,q9,q35,q36];exact ⟨hE6,hn6,hg6⟩
       · have hx2:x=n:=by omega
         have hlt:decide ((x:Int)<(n:Int))=false:=by simp;omega
         simp only [go_sem,hl,q36,q37,hlt] at hB;subst hB;rw [hx2] at q9 hg5;refine .inr ⟨rfl,_,_,rfl,?_⟩;simp only [go_sem,hl,q1,q7,q8,q9];exact ⟨hE5,hn5,hg5⟩
     · have hr:List.replicate n (Val.bool false)=bL n (N 0):=by simp [bL,N,List.map_const']
       simp only [go_sem,hl,q1,q7,hlv.opdV];refine ⟨rfl,rfl,⟨Nat.le_succ _,fun i hi=>get_push_old _ _ _ hi⟩,by first|(rw [n_push];omega)|exact Nat.lt_succ_self _,by first|rw [get_push_new,hr]|exact hr|rw [hr]⟩
    obtain ⟨tm,H5,rfl,hl,q1,q7,q8,q9,hE5,hn5,hg5⟩:=hQ2
    cases hM:M n with
    | false=>
      rw [hM] at q9;simp only [go_sem,hl,q7,q9] at hB;subst hB;refine .inr ⟨rfl,_,_,j,rfl,?_⟩;simp only [go_sem,hl];refine ⟨hE.trans hE5,hne,fun v hv=> ?_⟩;obtain ⟨c,h1,h2⟩:=hv.snoc';have hcn:=Walk.lt f4 j hn0 h1;have:M n=true:=List.any_eq_true.2 ⟨c,List.mem_range.2 hcn,by rw [(hL0 j c).2 h1];cases hAc:A c with|nil=>rw [hAc] at h2;cases h2|cons a l=>rfl⟩;rw [hM] at this;cases this
    | true=>
      rw [hM] at q9;have hlvl:N n=lvlB A n (j+1):=rfl;obtain ⟨c,hc,hc2⟩:=List.any_eq_true.1 hM;rw [Bool.and_eq_true] at hc2;have hwc:=(hL0 j c).1 hc2.1;obtain ⟨u,hu⟩: ∃u,u∈A c:=by
       cases hAc:A c with
       |nil=>rw [hAc] at hc2;simp at hc2
       |cons a l=>exact ⟨a,List.mem_cons_self ..⟩
      have hw1:=Walk.snoc j hwc hu;have hj4:=hWP (j+1) u hw1;have hwj:IntKind.i64.wrap ((j:Int)+1)=((j+1:Nat):Int):=by rw [wrap64 _ (by omega) (by omega)];rfl
      have hrf: ∀t,opdV t (.ref H4.n 0 0 1 n false)= .ref H4.n 0 0 1 n false:=fun _=>rfl;simp only [go_sem,hl,q7,q8,q9,hrf,hwj] at hB;subst hB;refine .inl ⟨_,_,rfl,by omega,?_⟩;simp only [go_sem,hl,q1];refine ⟨hE.trans hE5,.inr ⟨H4.n,0,0,0,rfl,by rw [←hlvl];exact hg5,hE.1,hn5,Nat.le_refl _⟩,u,hw1⟩
  · simp only [go_sem,hs.opdV,he.opdV,hs.okCell,he.okCell];exact ⟨rfl,ex.trans ex3,.inl rfl,0,rfl⟩
 obtain ⟨tm,H4,m,rfl,q2,q3,hE,hw1,hw2⟩:=hQ;simp only [go_sem,q2,q3];exact ⟨_,m,0,rfl,hE,.inr (.inr ⟨hsh,hP,rfl,hw1,hw2⟩)⟩
end
open Go Go.Proofs.Tryz
set_option maxRecDepth 100000
set_option maxHeartbeats 2000000
def MW (n0:Nat) (H:Hp) (v:Val) (cs:List Val):Prop:=
 (v= .nilsl∧cs= [])∨ ∃id j d,v= .ref id (genOf 28+j) 0 1 cs.length false∧H.get id=some (.cells (genOf 28+j) d 0 cs)∧n0≤id∧d≤genOf 28+j∧j<cs.length
theorem MW.len {n0 H v q} (h:MW n0 H v q):lenS v=some (.int .i64 q.length):=by rcases h with ⟨rfl,rfl⟩|⟨id,j,d,rfl,-⟩<;>rfl
theorem MW.opdV {n0 H v q} (h:MW n0 H v q) (t:Nat):opdV t v=v:=by rcases h with ⟨rfl,rfl⟩|⟨id,j,d,rfl,-⟩<;>rfl
theorem MW.noLoc {n0 H v q} (h:MW n0 H v q):noLoc v=true:=by rcases h with ⟨rfl,rfl⟩|⟨id,j,d,rfl,-⟩<;>rfl
theorem MW.ext {n0 H H' v q} (h:MW n0 H v q) (he: ∀i,n0≤i→i<H.n→H'.get i=H.get i):MW n0 H' v q:=by
 rcases h with h|⟨id,j,d,rfl,hg,hn,h1⟩
 · exact .inl h
 · exact .inr ⟨id,j,d,rfl,by rw [he id hn (get_lt hg),hg],hn,h1⟩
theorem tyOK_gen28' (j:Nat) (h:j<1048000):tyOK (genOf 28+j) 28=true:=by
 have h1:(genOf 28+j+1)/1048576=29:=by unfold genOf;omega
 have h2:(genOf 28+j)/1048576=29:=by unfold genOf;omega
 simp [tyOK,tyN,h1,h2]
theorem MW.append {n0 H v q} (h:MW n0 H v q) (a:Val) (hn:n0≤H.n) (hl:q.length<1048000):
  ∃v' H',app1 28 24 v a H=some (v',H')∧MW n0 H' v' (q++ [a])∧H.n≤H'.n∧(∀i,i<n0→H'.get i=H.get i)∧ ∀id g off k len c,v'= .ref id g off k len c→ ∀i,i<H.n→i≠id→H'.get i=H.get i:=by
 rcases h with ⟨rfl,rfl⟩|⟨id,j,d,rfl,hg,hid,hd,hj⟩
 · exact ⟨_,_,rfl,.inr ⟨H.n,0,genOf 28,rfl,get_push_new _ _,hn,Nat.le_refl _,by simp⟩,Nat.le_succ _,fun i hi=>get_push_old _ _ _ (by omega),fun _ _ _ _ _ _ _ i hi _=>get_push_old _ _ _ hi⟩
 · refine ⟨.ref id (genOf 28+j+1) 0 1 (q.length+1) false,H.set id (.cells (genOf 28+j+1) d 0 (q++ [a])),?_,.inr ⟨id,j+1,d,by simp;omega,?_,hid,by omega,by simp;omega⟩,by rw [n_set];exact Nat.le_refl _,fun i hi=>get_set_ne _ _ _ _ (by omega),fun id' g off k len c e i _ hne=>by cases e;exact get_set_ne _ _ _ _ hne⟩
   · unfold app1;simp only [hg];rw [if_pos ⟨trivial,by unfold roomN;omega,hd⟩,if_neg (by simp),if_pos ⟨trivial,by omega,Nat.zero_le _,tyOK_gen28' j (by omega)⟩]
   · rw [get_set_same _ _ _ (by rw [hg];rfl)];rfl
theorem MW.at_ {n0 H v q} (h:MW n0 H v q) {e:Nat} {a:Val} (he:q[e]? =some a): ∃p,ixA 1 v (.int .i64 (e:Nat))=some p∧(∀t,Go.PV.opdV t p=p)∧ ∀tm,loadC 1 false (rowAtP tm H p)=some a:=by
 have hel:e<q.length:=(List.getElem?_eq_some_iff.1 he).1;rcases h with ⟨rfl,rfl⟩|⟨id,j,d,rfl,hg,hid,hd,hj⟩
 · cases he
 · refine ⟨.ptr id (genOf 28+j) (0+e*1) (0+e*1+1),by rw [ixA_ref,if_pos hel],fun _=>rfl,fun tm=> ?_⟩;rw [rowAtP_ptr,hg,rowH_cells,if_pos hd,loadC_one,if_pos (Nat.le_refl _),Nat.zero_add,Nat.mul_one,he]
def faL (ss:List BS) (u:Nat):List Int:=((ss[u]?).map BS.fa).getD []
def faV (s:BS):Val:= .sl (s.fa.map iR) false
theorem bs36v (v:Val) (pr:Nat→Option (List Val→Hp→FRes)) (H:Hp) (l:List Int) (h:v= .sl (l.map iR) false):buildSliceP (E1 pr) 36 1 [(0,v)] H=some (.sl [[v]] true,H):=by
 subst h;have hp:pub depthP (.sl (l.map iR) false) H=some (.sl (l.map iR) false,H):=rfl
 have h1:buildSliceP (E1 pr) 36 1 [(0,.sl (l.map iR) false)] H=(match mapH (pub depthP) [.sl (l.map iR) false] H with
  |some (cs,H)=>fLL (chunk 1 1 cs) fun rows=>some (.sl rows true,H)
  |none=>none):=by kernel_rfl
 rw [h1];simp only [mapH,hp,fLL_eq];rfl
theorem bs36r (pr:Nat→Option (List Val→Hp→FRes)) (H:Hp) (id g d ro:Nat) (l:List Int) (h:H.get id=some (.cells g d ro (l.map iC))) (hd:d≤g):
  buildSliceP (E1 pr) 36 1 [(0,.ref id g 0 1 l.length false)] H=some (.sl [[.sl (l.map iR) false]] true,H.set id (.cells g d (maxN ro l.length) (l.map iC))):=by
 have h1:buildSliceP (E1 pr) 36 1 [(0,.ref id g 0 1 l.length false)] H=(match mapH (pub depthP) [.ref id g 0 1 l.length false] H with
  |some (cs,H)=>fLL (chunk 1 1 cs) fun rows=>some (.sl rows true,H)
  |none=>none):=by kernel_rfl
 rw [h1];have p1:=pub_ref 48 H id g g d ro l false h hd;have p2:pub depthP (.ref id g 0 1 l.length false) H=_:=p1;simp only [mapH,p2,fLL_eq];rfl
section
variable (pr:Nat→Option (List Val→Hp→FRes)) (lf:Nat)
theorem d19 (hp:noPr pr) (hpf:pr 19=none) (hp35:pr 35=none) (k:Nat) (ss es:Val) (sr er:List (List Val)) (adj:List (List (List Val))) (H:Hp) (g:Gph lf ss es sr er adj):
  ∃ (H':Hp) (v:Val) (rs:List (List Nat)),EV pr lf (k+3) 19 [.agg [ss,es]] H= .ret (.tup [v,.int .i64 (indexN sr.length adj []:Nat)]) H'∧Ext H H'∧MW H.n H' v (rs.map setV)∧
    ((shapeB sr.length adj=false∧rs= [])∨(shapeB sr.length adj=true∧ ∃fs:List BS,(∀u,u<sr.length→ ∃s,fs[u]? =some s∧SrchA (adjN adj) sr.length u s)∧rs=rsR (faL fs) sr.length)):=by
 have g':=g;obtain ⟨hs,he,hg,hsl,hn,hm,hrow,hbig⟩:=g;unfold EV;rw [evalFn_S (E1 pr) okd lf (k+2) 19 69 _ H f19 _ hpf (fns_19 pr) rfl rfl];have h1:=c10 pr lf hp (k+1) ss es sr er adj H g';rw [indexN_nil]
 cases hsh:shapeB sr.length adj with
 | false=>
   rw [hsh] at h1;simp only [go_sem,hs.opdV,hs.okCell,he.okCell,h1];exact ⟨_,_,[],rfl,Ext.gc (Ext.refl _) _,.inl ⟨rfl,rfl⟩,.inl rfl⟩
 |true=>
 rw [hsh] at h1;obtain ⟨f1,f2,f3,f4,f5,f6⟩:=g'.far hsh;have hn0:=(shape_of hsh).1;have ex:=Ext.gc (Ext.refl H) (.bool true);generalize hG:gc H.n (.bool true) H=H2 at*;rw [f1] at hn;simp only [go_sem,hs.opdV,he.opdV,hs.okCell,he.okCell,he.len,h1,hG,f1];generalize hn':sr.length=n at*;let A:=adjN adj;generalize hL:loopC _ _ _ _ _ _ _ _ _ _=L;let Q (L:CRes):Prop:= ∃(tm:List Val) (H':Hp) (fs:List BS) (v:Val),L= .exit 0 tm H' []∧tm.length=70∧getT tm 4=v∧Ext H H'∧fs.length=n∧(∀u s,fs[u]? =some s→SrchA A n u s)∧MW H.n H' v (fs.map faV);have hQ:Q L:=by
  subst hL;refine loop_up _ Q
   (fun x tm H4=>tm.length=70∧getT tm 1= .lv 0 [ss,es]∧getT tm 15= .int .i64 n∧getT tm 16= .int .i64 x∧Ext H H4∧ ∃(fs:List BS) (v:Val),getT tm 4=v∧fs.length=x∧(∀u s,fs[u]? =some s→SrchA A n u s)∧MW H.n H4 v (fs.map faV))
   n ?_ lf 0 _ _ (Nat.zero_le _) (by omega) ?_
  · rintro x tm H4 hx ⟨hl,q1,q15,q16,hE,fs,v,q4,hfl,hfs,hmw⟩;generalize hB:evalCode _ _ _ _ _ _ tm H4 []=R;by_cases hxn:x<n
    · have hlt:decide ((x:Int)<(n:Int))=true:=by simp;omega
      have hw:IntKind.i64.wrap ((x:Int)+1)=((x+1:Nat):Int):=by rw [wrap64 _ (by omega) (by omega)];rfl
      obtain ⟨H5,s,h5,hS,ex5⟩:=cc35 pr lf hp35 (k+1) ss es sr n (adjN adj) x H4 hs (f6 H4) f2 f3 hxn f4 f5;have hmw5:=hmw.ext (H':=H5) (fun i _ h2=>ex5.2 i h2);have hb36:=bs36v (faV s) pr H5 s.fa rfl;have ha36:=fun v=>app36 pr v (faV s) H5 rfl;obtain ⟨v',H6,happ,hm2,hn6,hk6,-⟩:=hmw5.append (faV s) (by have:=hE.1;have:=ex5.1;omega) (by rw [List.length_map];omega);unfold faV at hb36 ha36 happ;simp only [go_sem,hl,q1,q4,q15,q16,hlt,hs.opdV,he.opdV,hs.okCell,he.okCell,hmw.opdV,h5,hb36,ha36,happ,hw] at hB;subst hB;refine .inl ⟨_,_,rfl,hxn,?_⟩;simp only [go_sem,hl,q1,q15];refine ⟨⟨by have:=hE.1;have:=ex5.1;omega,fun i hi=>by have:=hE.1;rw [hk6 i hi,ex5.2 i (by omega),hE.2 i hi]⟩,fs++ [s],_,rfl,by simp [hfl],fun u t hu=> ?_,?_⟩
      · by_cases e:u<fs.length
        · rw [List.getElem?_append_left e] at hu;exact hfs u t hu
        · rw [List.getElem?_append_right (by omega)] at hu;have hux:u-fs.length=0:=by refine Classical.byContradiction fun hne=> ?_;rw [List.getElem?_eq_none (by simp;omega)] at hu;cases hu
          rw [hux] at hu;cases hu;rw [show u=x by omega];exact hS
      · rw [hm2.opdV,List.map_append];exact hm2
    · have hx2:x=n:=by omega
      have hlt:decide ((x:Int)<(n:Int))=false:=by simp;omega
      simp only [go_sem,hl,q15,q16,hlt] at hB;subst hB;refine .inr ⟨rfl,_,_,fs,v,rfl,?_,?_,hE,by omega,hfs,hmw⟩
      · simp only [go_sem,hl]
      · simp only [go_sem,hl,q4]
  · simp only [go_sem,hs.opdV,he.opdV];exact ⟨rfl,ex,[],_,rfl,rfl,fun u s h=>(by cases h),.inl ⟨rfl,rfl⟩⟩
 obtain ⟨tm,H4,fs,v4,rfl,hl,q4,hE4,hfl,hfs,hmw⟩:=hQ;have hlen4:=hmw.len;rw [List.length_map,hfl] at hlen4;simp only [go_sem,hl,q4,hmw.opdV,hlen4];generalize hfa:faL fs=fa;have hget: ∀u,u<n→ ∃s,fs[u]? =some s∧(fs.map faV)[u]? =some (faV s)∧s.fa.length=n∧fa u=s.fa:=fun u hu=>by obtain ⟨s,hs⟩: ∃s,fs[u]? =some s:=⟨fs[u]'(by omega),by simp⟩;have:=(hfs u s hs).dist hu f4;exact ⟨s,hs,by rw [List.getElem?_map,hs];rfl,this.1.len,by rw [←hfa];simp [faL,hs]⟩
 generalize hL:loopC _ _ _ _ _ _ _ _ _ _=L;let rsU (x:Nat):List (List Nat):=((List.range x).filter fun i=>decide (hdK (clsR fa n i)=(i:Int))).map (clsR fa n);have rsU_succ: ∀x,rsU (x+1)=if hdK (clsR fa n x)=(x:Int) then rsU x++ [clsR fa n x] else rsU x:=fun x=>by
  show List.map _ _=_;rw [List.range_succ,List.filter_append,List.map_append];by_cases h:hdK (clsR fa n x)=(x:Int)
  · rw [if_pos h];simp [h];rfl
  · rw [if_neg h];simp [h];rfl
 have rsU_len: ∀x,(rsU x).length≤x:=fun x=>by show (List.map _ _).length≤x;rw [List.length_map];exact Nat.le_trans (List.length_filter_le _ _) (by simp)
 let Q (L:CRes):Prop:= ∃(tm:List Val) (H':Hp) (v:Val),L= .exit 2 tm H' []∧tm.length=70∧getT tm 6=v∧Ext H4 H'∧MW H4.n H' v ((rsU n).map setV);have hQ:Q L:=by
  subst hL;refine loop_up _ Q
   (fun x tm H5=>tm.length=70∧getT tm 4=v4∧getT tm 27= .int .i64 n∧getT tm 28= .int .i64 x∧Ext H4 H5∧ ∃v,getT tm 6=v∧MW H4.n H5 v ((rsU x).map setV))
   n ?_ lf 0 _ _ (Nat.zero_le _) (by omega) ?_
  · rintro x tm H5 hx ⟨hl,q4,q27,q28,hE5,v6,q6,hmo⟩;generalize hB:evalCode _ _ _ _ _ _ tm H5 []=R;by_cases hxn:x<n
    · have hlt :decide ((x:Int)<(n:Int))=true:=by simp;omega
      have hw:IntKind.i64.wrap ((x:Int)+1)=((x+1:Nat):Int):=by rw [wrap64 _ (by omega) (by omega)];rfl
      obtain ⟨sx,hsx,hsx2,hsxl,hfax⟩:=hget x hxn;simp only [go_sem,hl,q4,q27,q28,hlt,hmw.opdV,hlen4] at hB;revert hB;generalize hL:loopC _ _ _ _ _ _ _ _ _ _=L;intro hB;let cU (y:Nat):List Nat:=(List.range y).filter fun u=>rB fa x u&&rB fa u x;have cU_succ: ∀y,cU (y+1)=if (rB fa x y&&rB fa y x)=true then cU y++ [y] else cU y:=fun y=>by
       show List.filter _ _=_;rw [List.range_succ,List.filter_append];by_cases h:(rB fa x y&&rB fa y x)=true
       · rw [if_pos h];simp only [List.filter_cons,List.filter_nil,h,if_true];rfl
       · have h':(rB fa x y&&rB fa y x)=false:=by simpa using h
         rw [if_neg h];simp only [List.filter_cons,List.filter_nil,h',Bool.false_eq_true,if_false,List.append_nil];rfl
      have cU_len: ∀y,(cU y).length≤y:=fun y=>Nat.le_trans (List.length_filter_le _ _) (by simp);let Q2 (L:CRes):Prop:= ∃(tm:List Val) (H':Hp) (v:Val),L= .exit 4 tm H' []∧tm.length=70∧getT tm 4=v4∧getT tm 27= .int .i64 n∧getT tm 28= .int .i64 x∧getT tm 6=v6∧getT tm 7= .int .i64 x∧getT tm 8=v∧H5.n≤H'.n∧(∀i,i<H5.n→H'.get i=H5.get i)∧MV H5.n H' v (nI (cU n));have hQ2:Q2 L:=by
       subst hL;refine loop_up _ Q2
        (fun y tm H6=>tm.length=70∧getT tm 4=v4∧getT tm 27= .int .i64 n∧getT tm 28= .int .i64 x∧getT tm 6=v6∧getT tm 7= .int .i64 x∧getT tm 32= .int .i64 n∧getT tm 33= .int .i64 y∧H5.n≤H6.n∧(∀i,i<H5.n→H6.get i=H5.get i)∧ ∃v,getT tm 8=v∧MV H5.n H6 v (nI (cU y)))
        n ?_ lf 0 _ _ (Nat.zero_le _) (by omega) ?_
       · rintro y tm H6 hy ⟨hl,q4,q27,q28,q6,q7,q32,q33,hn6,hk6,v8,q8,hmv⟩;generalize hB:evalCode _ _ _ _ _ _ tm H6 []=R;by_cases hyn:y<n
         · have hlt2:decide ((y:Int)<(n:Int))=true:=by simp;omega
           have hwy:IntKind.i64.wrap ((y:Int)+1)=((y+1:Nat):Int):=by rw [wrap64 _ (by omega) (by omega)];rfl
           obtain ⟨sy,hsy,hsy2,hsyl,hfay⟩:=hget y hyn;have hmw6:=hmw.ext (H':=H6) (fun i h1 h2=>by rw [hk6 i (by have:=hE5.1;omega),hE5.2 i h2]);obtain ⟨px,px1,px2,px3⟩:=hmw6.at_ hsx2;obtain ⟨py,py1,py2,py3⟩:=hmw6.at_ hsy2;have ox: ∀t,opdV t (faV sx)=faV sx:=fun _=>rfl;have oy: ∀t,opdV t (faV sy)=faV sy:=fun _=>rfl;have hIx:IsSl (faV sx) (sx.fa.map iR):= .inr ⟨false,rfl⟩;have hIy:IsSl (faV sy) (sy.fa.map iR):= .inr ⟨false,rfl⟩;have hfx:(sx.fa.map iR)[y]? =some [.int .i64 (gi sx.fa y)]:=by rw [List.getElem?_map,gi_some (by omega)];rfl
           have hfy:(sy.fa.map iR)[x]? =some [.int .i64 (gi sy.fa x)]:=by rw [List.getElem?_map,gi_some (by omega)];rfl
           have hsc:=cU_succ y;have hclen:=cU_len y;obtain ⟨v',H7,happ,hm2,hn7,hk7⟩:=hmv.append (y:Int) hn6 (by rw [nI_len];omega);have hnI:nI (cU y++ [y])=nI (cU y)++ [(y:Int)]:=by simp [nI]
           have r1:rB fa x y=decide (gi sx.fa y≥0):=by unfold rB;rw [hfax]
           have r2:rB fa y x=decide (gi sy.fa x≥0):=by unfold rB;rw [hfay]
           rw [r1,r2] at hsc
           cases c1:decide (gi sx.fa y≥0) with
           | false=>
             rw [c1,if_neg (by simp)] at hsc;simp only [go_sem,hl,q4,q7,q32,q33,hlt2,hwy,hmw6.opdV,px1,px2,px3,ox,hIx.ix (k:=1) hfx rfl,c1] at hB;subst hB;refine .inl ⟨_,_,rfl,hyn,?_⟩;simp only [go_sem,hl,q4,q27,q28,q6,q7,q32];exact ⟨hn6,hk6,v8,q8,by rw [hsc];exact hmv⟩
           | true=>
             cases c2:decide (gi sy.fa x≥0) with
             | false=>
               rw [c1,c2,if_neg (by simp)] at hsc;simp only [go_sem,hl,q4,q7,q32,q33,hlt2,hwy,hmw6.opdV,px1,px2,px3,py1,py2,py3,ox,oy,hIx.ix (k:=1) hfx rfl,hIy.ix (k:=1) hfy rfl,c1,c2] at hB;subst hB;refine .inl ⟨_,_,rfl,hyn,?_⟩;simp only [go_sem,hl,q4,q27,q28,q6,q7,q32];exact ⟨hn6,hk6,v8,q8,by rw [hsc];exact hmv⟩
             | true=>
               rw [c1,c2,if_pos (show (true&&true)=true from rfl)] at hsc;simp only [go_sem,hl,q4,q7,q8,q32,q33,hlt2,hwy,hmw6.opdV,px1,px2,px3,py1,py2,py3,ox,oy,hIx.ix (k:=1) hfx rfl,hIy.ix (k:=1) hfy rfl,c1,c2,hmv.opdV,bs28,app28,happ] at hB;subst hB;refine .inl ⟨_,_,rfl,hyn,?_⟩;simp only [go_sem,hl,q4,q27,q28,q6,q7,q32];exact ⟨by omega,fun i hi=>by rw [hk7 i hi,hk6 i hi],_,hm2.opdV _,by rw [hsc,hnI];exact hm2⟩
         · have hy2:y=n:=by omega
           have hlt2:decide ((y:Int)<(n:Int))=false:=by simp;omega
           simp only [go_sem,hl,q32,q33,hlt2] at hB;subst hB;rw [hy2] at hmv;refine .inr ⟨rfl,_,_,v8,rfl,?_⟩;simp only [go_sem,hl,q4,q27,q28,q6,q7,q8];exact ⟨hn6,hk6,hmv⟩
       · simp only [go_sem,hl,q4,q27,q28,q6];exact ⟨rfl,fun _ _=>trivial,_,rfl,.inl ⟨rfl,rfl⟩⟩
      obtain ⟨tm,H6,v8,rfl,hl,q4,q27,q28,q6,q7,q8,hn6,hk6,hmv⟩:=hQ2;have hcls:cU n=clsR fa n x:=rfl;rw [hcls] at hmv;have hxx:x∈clsR fa n x:=by
       have h0:rB fa x x=true:=by unfold rB;rw [hfax,decide_eq_true_eq,((hfs x sx hsx).par hxn f4).1.root];exact Int.le_refl _
       unfold clsR;rw [List.mem_filter,h0];exact ⟨List.mem_range.2 hxn,rfl⟩
      have hcl:=cU_len n;rw [hcls] at hcl;have hsc:=rsU_succ x;have hrl:=rsU_len x;generalize clsR fa n x=S at*;obtain ⟨a,T,rfl⟩: ∃a T,S=a::T:=by cases S with|nil=>cases hxx|cons a T=>exact ⟨a,T,rfl⟩
      obtain ⟨p0,p01,p02,p03⟩:=(hmv.toLV (Nat.le_refl _)).at_ (e:=0) (by simp [nI]);have hg0:gi (nI (a::T)) 0=a:=rfl;rw [hg0] at p03;simp only [Int.natCast_zero] at p01;rw [hdK_cons] at hsc;have hmo6:=hmo.ext (H':=H6) (fun i h1 h2=>hk6 i h2);rcases hmv with ⟨-,h⟩|⟨id,j,d,rfl,hg,hid,hd,hj⟩
      · cases h
      have orf: ∀t,opdV t (.ref id (genOf 3+j) 0 1 (nI (a::T)).length false)= .ref id (genOf 3+j) 0 1 (nI (a::T)).length false:=fun _=>rfl
      cases hc:((a:Int)==(x:Int)) with
      | false=>
        rw [if_neg (by simpa using hc)] at hsc;simp only [go_sem,hl,q7,q8,q28,hw,orf,p01,p02,p03,hc] at hB;subst hB;refine .inl ⟨_,_,rfl,hxn,?_⟩;simp only [go_sem,hl,q4,q27,q6];exact ⟨⟨by have:=hE5.1;omega,fun i hi=>by have:=hE5.1;rw [hk6 i (by omega),hE5.2 i hi]⟩,v6,rfl,by rw [hsc];exact hmo6⟩
      | true=>
        rw [if_pos (by simpa using hc)] at hsc;have hb36:=bs36r pr H6 id (genOf 3+j) d 0 (nI (a::T)) hg hd;have hid6:=get_lt hg;generalize hH7:H6.set id (.cells (genOf 3+j) d (maxN 0 (nI (a::T)).length) ((nI (a::T)).map iC))=H7 at hb36;have hmo7:=hmo.ext (H':=H7) (fun i h1 h2=>by rw [←hH7,get_set_ne _ _ _ _ (by omega),hk6 i h2]);have hn7:H7.n=H6.n:=by rw [←hH7,n_set]
        have ha36:=fun v=>app36 pr v (setV (a::T)) H7 rfl;obtain ⟨v',H8,happ,hm2,hn8,hk8,-⟩:=hmo7.append (setV (a::T)) (by have:=hE5.1;omega) (by rw [List.length_map];omega);rw [show Val.sl ((nI (a::T)).map iR) false=setV (a::T) from rfl] at hb36;simp only [go_sem,hl,q6,q7,q8,q28,hw,orf,p01,p02,p03,hc,hmo.opdV,hb36,ha36,happ] at hB;subst hB;refine .inl ⟨_,_,rfl,hxn,?_⟩;simp only [go_sem,hl,q4,q27];refine ⟨⟨by have:=hE5.1;omega,fun i hi=>by have:=hE5.1;rw [hk8 i hi,←hH7,get_set_ne _ _ _ _ (by omega),hk6 i (by omega),hE5.2 i hi]⟩,_,hm2.opdV _,?_⟩;rw [hsc,List.map_append];exact hm2
    · have hx2:x=n:=by omega
      have hlt:decide ((x:Int)<(n:Int))=false:=by simp;omega
      simp only [go_sem,hl,q27,q28,hlt] at hB;subst hB;rw [hx2] at hmo;refine .inr ⟨rfl,_,_,v6,rfl,?_,?_,hE5,hmo⟩
      · simp only [go_sem,hl]
      · simp only [go_sem,hl,q6]
  · simp only [go_sem,hl,q4];exact ⟨rfl,Ext.refl _,_,rfl,.inl ⟨rfl,rfl⟩⟩
 obtain ⟨tm,H5,v6,rfl,hl,q6,hE5,hmo⟩:=hQ;simp only [go_sem,hl,q6,hmo.opdV,hmo.noLoc];refine ⟨_,_,rsU n,rfl,hE4.trans hE5,?_,.inr ⟨fs,fun u hu=> ?_,by subst hfa;rfl⟩⟩
 · rcases hmo with h|⟨id,j,d,h1,h2,h3,h4⟩
   · exact .inl h
   · exact .inr ⟨id,j,d,h1,h2,by have:=hE4.1;omega,h4⟩
 · obtain ⟨s,h1,-⟩:=hget u hu;exact ⟨s,h1,hfs u s h1⟩
end
open Go Go.Proofs.Tryz
set_option maxRecDepth 100000
set_option maxHeartbeats 2000000
theorem walk_back {n:Nat} {A bl:Nat→List Nat} (hT:Turned n A bl) (hA: ∀a,a<n→ ∀t∈A a,t<n): ∀(m:Nat) {x y:Nat},x<n→Walk A m x y→Walk bl m y x
 |0,x,y,_,h=>by cases h;rfl
 |m+1,x,y,hx,⟨c,hc,h⟩=>Walk.snoc m (walk_back hT hA m (hA x hx c hc) h) ((hT c x).2 ⟨hx,hc⟩)
theorem tree_before {n r:Nat} {A:Nat→List Nat} {P:List Int} {s:BS} (ho:Ord n r A P 0 s) (hl:s.fa.length=n): ∀ {w:List Int} {t u b z:Nat},TreeW A s r t w b→Bf (P++s.q) u t→Walk A w.length u z→Bf (P++s.q) z b
 | [],t,u,b,z,h,hb,hw=>by cases h;cases hw;exact hb
 | x::w,t,u,b,z,⟨e,c,h1,h2,h3,h4,h5,h6,h7,h8⟩,hb,⟨d,hd,hw⟩=>by
   obtain ⟨p,e2,q1,q2,q3,q4,q5⟩:=ho.fst c (by omega) h4 h5;obtain ⟨i,hi,rfl⟩:=List.getElem_of_mem hd;have hpt:p=t:=by omega
   subst hpt;exact tree_before ho hl h8 (q5 u i _ (.inl hb) (List.getElem?_eq_getElem hi)) hw
theorem way_eq {n r b:Nat} {A bl:Nat→List Nat} {P:List Int} {s d:BS} (hA: ∀a,a<n→ ∀t∈A a,t<n) (ho:Ord n r A P 0 s) (hl:s.fa.length=n) (hT:Turned n A bl) (hD:Dist n b bl d.fa) (hb:b<n):
  ∀ {w l:List Int} {v:Nat},v<n→TreeW A s r v w b→FirstW A d.fa v l b→gi d.fa v=w.length→l.length=w.length→w=l
 | [],l,v,_,_,_,_,hll=>by cases l with|nil=>rfl|cons a l=>cases hll
 |x::w,[],v,_,_,_,_,hll=>by cases hll
 | x ::w,y::l,v,hv,⟨e,t,hx1,h2,h3,h4,h5,h6,h7,h8⟩,⟨e2,t2,hy1,g2,g3,g4,g5⟩,hgv,hll=>by
   subst hx1 hy1;have htn:=hA v hv t (List.mem_of_getElem? h2);have ht2n:=hA v hv t2 (List.mem_of_getElem? g2);have walkT: ∀ {w:List Int} {t:Nat},TreeW A s r t w b→Walk A w.length t b:=by
    intro w
    induction w with
    |nil=>intro t h;exact h
    |cons x w ih=>intro t ⟨e,c,q1,q2,q3,q4,q5,q6,q7,q8⟩;exact ⟨c,List.mem_of_getElem? q2,ih q8⟩
   have hw1:=walkT h8;have hdt:=(hD.least _ t (walk_back hT hA _ htn hw1)).2;have hvt:gi d.fa v≤gi d.fa t+1:=by have h0:=(hD.least _ t (walk_back hT hA _ htn hw1)).1;have:=(hD.least _ v (Walk.snoc _ (hD.walk t htn h0) ((hT t v).2 ⟨hv,List.mem_of_getElem? h2⟩))).2;omega
   have hlen:gi d.fa v=w.length+1:=by rw [hgv];simp
   have hdt2:gi d.fa t=w.length:=by omega
   have hle: ¬e<e2:=fun hlt=>g4 e t hlt h2 (by omega);have hge: ¬e2<e:=fun hlt=>by
    obtain ⟨p,e3,q1,q2,q3,q4,q5⟩:=ho.fst t (by omega) h4 h5;have e3e:e3=e:=by omega
    have epv:p=v:=by omega
    subst e3e epv;have hbf:=q5 p e2 t2 (.inr ⟨rfl,hlt⟩) g2;have h02:0≤gi d.fa t2:=by omega
    have hw2:=hD.walk t2 ht2n h02;have turn: ∀(m:Nat) {x y:Nat},Walk bl m x y→Walk A m y x:=by
     intro m
     induction m with
     |zero=>intro x y h;cases h;rfl
     | succ m ih=>
       intro x y ⟨c,hc,h⟩;exact Walk.snoc m (ih h) (((hT x c).1 hc).2)
    have hw3:=turn _ hw2;rw [show (gi d.fa t2).toNat=w.length by omega] at hw3;have:=tree_before ho hl h8 hbf hw3;exact Nat.lt_irrefl _ this
   have hee:e=e2:=by omega
   subst hee;rw [h2] at g2;cases g2;have:=way_eq hA ho hl hT hD hb htn h8 g5 (by omega) (by simpa using hll);rw [this]
theorem ways_one {n a b:Nat} {A bl:Nat→List Nat} {s d:BS} {w l:List Int} (hA: ∀a,a<n→ ∀t∈A a,t<n) (ha:a<n) (hb:b<n) (hS:SrchA A n a s) (hT:Turned n A bl) (hd:SrchA bl n b d)
  (hw:TreeW A s a a w b) (hwl:(w.length:Int)=gi s.fa b) (hf:FirstW A d.fa a l b) (hfl:(l.length:Int)=gi d.fa a) (h0:0≤gi d.fa a):w=l:=by
 have hbl: ∀a,a<n→ ∀t∈bl a,t<n:=fun a _ t ht=>((hT a t).1 ht).1;obtain ⟨hD,P,ho,hq⟩:=hS.dist ha hA;obtain ⟨hD2,-⟩:=hd.dist hb hbl;have h1:gi d.fa a≤w.length:=by
  have hw1:Walk A w.length a b:=by
   have walkT: ∀ {w:List Int} {t:Nat},TreeW A s a t w b→Walk A w.length t b:=by
    intro w
    induction w with
    |nil=>intro t h;exact h
    |cons x w ih=>intro t ⟨e,c,q1,q2,q3,q4,q5,q6,q7,q8⟩;exact ⟨c,List.mem_of_getElem? q2,ih q8⟩
   exact walkT hw
  exact (hD2.least _ a (walk_back hT hA _ ha hw1)).2
 have h2:gi s.fa b≤gi d.fa a:=by
  have turn: ∀(m:Nat) {x y:Nat},Walk bl m x y→Walk A m y x:=by
   intro m
   induction m with
   |zero=>intro x y h;cases h;rfl
   | succ m ih=>
     intro x y ⟨c,hc,h⟩;exact Walk.snoc m (ih h) (((hT x c).1 hc).2)
  have:=(hD.least _ b (turn _ (hD2.walk a ha h0))).2;omega
 exact way_eq hA ho hD.len hT hD2 hb ha hw hf (by omega) (by omega)
theorem far_iff {n a b:Nat} {A bl:Nat→List Nat} {s d:BS} (hA: ∀a,a<n→ ∀t∈A a,t<n) (ha:a<n) (hb:b<n) (hS:SrchA A n a s) (hT:Turned n A bl) (hd:SrchA bl n b d):0≤gi s.fa b↔0≤gi d.fa a:=by
 have hbl: ∀a,a<n→ ∀t∈bl a,t<n:=fun a _ t ht=>((hT a t).1 ht).1;obtain ⟨hD,-⟩:=hS.dist ha hA;obtain ⟨hD2,-⟩:=hd.dist hb hbl;constructor
 · intro h;exact (hD2.least _ a (walk_back hT hA _ ha (hD.walk b hb h))).1
 · intro h;have turn: ∀(m:Nat) {x y:Nat},Walk bl m x y→Walk A m y x:=by
    intro m
    induction m with
    |zero=>intro x y h;cases h;rfl
    | succ m ih=>
      intro x y ⟨c,hc,h⟩;exact Walk.snoc m (ih h) (((hT x c).1 hc).2)
   exact (hD.least _ b (turn _ (hD2.walk a ha h))).1
open Go Go.Proofs.Tryz
set_option maxRecDepth 100000
theorem foldl_max_at {f:Nat→Nat}: ∀(l:List Nat) (a:Nat),l.foldl (fun n k=>max n (1+f k)) a=a∨ ∃k∈l,l.foldl (fun n k=>max n (1+f k)) a=1+f k
 | [],a=> .inl rfl
 | x ::l,a=>by
   rw [List.foldl_cons];rcases foldl_max_at (f:=f) l (max a (1+f x)) with h|⟨k,hk,h⟩
   · rw [h];rcases Nat.le_total a (1+f x) with h1|h1
     · exact .inr ⟨x,List.mem_cons_self ..,Nat.max_eq_right h1⟩
     · exact .inl (Nat.max_eq_left h1)
   · exact .inr ⟨k,List.mem_cons_of_mem _ hk,h⟩
theorem lpN_walk {A:Nat→List Nat}: ∀(r v:Nat),∃u,Walk A (lpN A r v) v u
 |0,v=>⟨v,rfl⟩
 | r+1,v=>by
   simp only [lpN];rcases foldl_max_at (f:=lpN A r) (A v) 0 with h|⟨k,hk,h⟩
   · rw [h];exact ⟨v,rfl⟩
   · rw [h,Nat.add_comm];obtain ⟨u,hu⟩:=lpN_walk (A:=A) r k;exact ⟨u,k,hk,hu⟩
theorem Walk.pre {A:Nat→List Nat}: ∀ {a b x y:Nat},Walk A (a+b) x y→ ∃c,Walk A a x c
 |0,b,x,y,_=>⟨x,rfl⟩
 |a+1,b,x,y,h=>by rw [show a+1+b=(a+b)+1 by omega] at h;obtain ⟨c,hc,h⟩:=h;obtain ⟨d,hd⟩:=Walk.pre h;exact ⟨d,c,hc,hd⟩
section
variable {n:Nat} {adj:List (List (List Val))} {s:BS}
theorem ends_iff (hn:0<n) (hA: ∀a,a<n→ ∀t∈adjN adj a,t<n) (hS:Srch adj n 0 s):(0≤longV (adjN adj) n s.fa↔EndsP (adjN adj)):=by
 have hP:=roundsT_parts (adj:=adjN adj) srtN srtN_perm hA;have hsc:=roundsT_sc (A:=adjN adj) srtN srtN_perm hA n (Nat.le_refl _);obtain ⟨hD,-⟩:=SrchA.dist (A:=adjN adj) hS hn hA;constructor
 · intro h i hr t ht hti;have hc:=(longV_calm h).1;obtain ⟨m,hm⟩:=hr;have hin:=Walk.lt hA m hn hm;have h0:=(hD.rch hin).2 ⟨m,hm⟩;obtain ⟨S,hSm,hiS⟩:=List.mem_flatten.1 ((hP.mem i).2 hin);have htS:=(hP.iff hsc hSm hiS t).2 ⟨Rch.edge ht,hti⟩;rw [List.any_eq_false] at hc;have h3:=hc S hSm;rw [Bool.not_eq_true,List.any_eq_false] at h3;have h4:=h3 i hiS;unfold badB at h4;rw [decide_eq_true h0,Bool.true_and,Bool.not_eq_true,Bool.or_eq_false_iff,decide_eq_false_iff_not] at h4;have hlen:S.length≤1:=by omega
   have hti2:t=i:=by
    match S,hlen,hiS,htS with
    | [a],_,hi,ht=>simp at hi ht;omega
   subst hti2;have:=h4.2;rw [List.contains_eq_mem] at this;simp [ht] at this
 · intro hE;refine Classical.byContradiction fun hneg=> ?_;have hb:((roundsT srtN (adjN adj) n n).rs.any fun S=>S.any (badB (adjN adj) s.fa S))=true:=by refine Classical.byContradiction fun hb=>hneg ?_;unfold longV;rw [if_neg hb];omega
   obtain ⟨S,hSm,hb⟩:=List.any_eq_true.1 hb;obtain ⟨i,hiS,hb⟩:=List.any_eq_true.1 hb;have hin:i<n:=(hP.mem i).1 (List.mem_flatten.2 ⟨S,hSm,hiS⟩);unfold badB at hb;rw [Bool.and_eq_true,decide_eq_true_eq,Bool.or_eq_true,decide_eq_true_eq] at hb;obtain ⟨h0,hb⟩:=hb;have hr:=(hD.rch hin).1 h0;rcases hb with hb|hb
   · have hnd:S.Nodup:=by have:=hP.nd;obtain ⟨X,Y,e⟩:=List.append_of_mem hSm;rw [e,List.flatten_append,List.flatten_cons] at this;exact (List.nodup_append.1 (List.nodup_append.1 this).2.1).1
     obtain ⟨v,hv,hvi⟩: ∃v∈S,v≠i:=by
      match S,hb,hnd with
      | a::b::S,_,hnd=>
        by_cases e:a=i
        · exact ⟨b,by simp,fun e2=>by subst e e2;simp at hnd⟩
        · exact ⟨a,by simp,e⟩
     obtain ⟨h1,h2⟩:=(hP.iff hsc hSm hiS v).1 hv;obtain ⟨m,hm⟩:=h1
     cases m with
     |zero=>cases hm;exact hvi rfl
     | succ m=>
       obtain ⟨c,hc,hm⟩:=hm;exact hE i hr c hc (Rch.trans ⟨m,hm⟩ h2)
   · rw [List.contains_eq_mem,decide_eq_true_eq] at hb;exact hE i hr i hb (Rch.refl ..)
theorem rounds_le (hA: ∀a,a<n→ ∀t∈adjN adj a,t<n):(roundsT srtN (adjN adj) n n).rs.length≤n:=by have hP:=roundsT_parts (adj:=adjN adj) srtN srtN_perm hA;exact Nat.le_trans (rs_len _ hP.ne) (nodup_len _ _ hP.nd fun x hx=>(hP.mem x).1 hx)
theorem calm_of (hn:0<n) (hA: ∀a,a<n→ ∀t∈adjN adj a,t<n) (hS:Srch adj n 0 s) (h:0≤longV (adjN adj) n s.fa):
  longV (adjN adj) n s.fa=(lpN (adjN adj) (roundsT srtN (adjN adj) n n).rs.length 0:Nat)∧ ∀m v,Walk (adjN adj) m 0 v→m≤lpN (adjN adj) (roundsT srtN (adjN adj) n n).rs.length 0:=by
 have hP:=roundsT_parts (adj:=adjN adj) srtN srtN_perm hA;obtain ⟨hc,hl⟩:=longV_calm h;obtain ⟨h00,hcl⟩:=hS.closed hn hA;have hC:=bad_calm hP hA hcl hc;refine ⟨hl,fun m v hw=> ?_⟩;exact hC.walk _ m 0 v ⟨hn,by rw [h00];exact Int.le_refl _⟩ (by rw [List.take_length];exact (hP.mem 0).2 hn) hw
theorem walk_le (hn:0<n) (hA: ∀a,a<n→ ∀t∈adjN adj a,t<n) (hS:Srch adj n 0 s) (hE:EndsP (adjN adj)) (m v:Nat) (hw:Walk (adjN adj) m 0 v):m≤n:=by have h:=(ends_iff hn hA hS).2 hE;have h1:=(calm_of hn hA hS h).2 m v hw;have h2:=lpN_le (adj:=adjN adj) (roundsT srtN (adjN adj) n n).rs.length 0;have h3:=rounds_le (n:=n) hA;omega
theorem long_eq (hn:0<n) (hA: ∀a,a<n→ ∀t∈adjN adj a,t<n) (hS:Srch adj n 0 s) (hE:EndsP (adjN adj)) {m:Nat} (h1: ∃v,Walk (adjN adj) m 0 v) (h2: ∀v,¬Walk (adjN adj) (m+1) 0 v):longV (adjN adj) n s.fa=m:=by have h:=(ends_iff hn hA hS).2 hE;obtain ⟨hl,hw⟩:=calm_of hn hA hS h;obtain ⟨v,hv⟩:=h1;have h3:=hw m v hv;obtain ⟨u,hu⟩:=lpN_walk (A:=adjN adj) (roundsT srtN (adjN adj) n n).rs.length 0;rw [hl];refine Classical.byContradiction fun hne=> ?_;obtain ⟨d,hd⟩: ∃d,lpN (adjN adj) (roundsT srtN (adjN adj) n n).rs.length 0=(m+1)+d:=⟨lpN (adjN adj) (roundsT srtN (adjN adj) n n).rs.length 0-(m+1),by omega⟩;rw [hd] at hu;obtain ⟨c,hc⟩:=Walk.pre hu;exact h2 c hc
end
open Go Go.Proofs.Tryz
set_option maxRecDepth 100000
set_option maxHeartbeats 2000000
theorem pub_ii (a b:Int) (k k':IntKind) (H:Hp):pub depthP (Val.tup [.int k a,.int k' b]) H=some (Val.tup [.int k a,.int k' b],H):=by show (match mapH (pub 49) [Val.int k a,.int k' b] H with|some (cs,H)=>fL cs fun cs=>some (Val.tup cs,H)|none=>none)=_;have h1:pub 49 (.int k a) H=some (Val.int k a,H):=rfl;have h2:pub 49 (.int k' b) H=some (Val.int k' b,H):=rfl;simp only [mapH,h1,h2,fL_eq]
section
variable (pr:Nat→Option (List Val→Hp→FRes)) (lf:Nat)
theorem d18 (hp:Prims pr) (k:Nat) (ss es:Val) (sr er:List (List Val)) (adj:List (List (List Val))) (H:Hp) (g:Gph lf ss es sr er adj):
  ∃ (H':Hp) (v:Val) (rs:List (List Nat)),EV pr lf (k+500) 18 [.agg [ss,es]] H= .ret (.tup [v,.int .i64 (indexN sr.length adj []:Nat)]) H'∧Ext H H'∧
    ((shapeB sr.length adj=false∧v= .nilsl∧rs= [])∨(shapeB sr.length adj=true∧v= .sl (rs.map fun S=> [setV S]) false∧MsOf (roundsT srtN (adjN adj) sr.length sr.length).rs rs)):=by
 have g':=g;have hp':=hp.no;rw [indexN_nil]
 cases hsh:shapeB sr.length adj with
 | false=>
   obtain ⟨hs,he,hg,hsl,hn,hm,hrow,hbig⟩:=g;unfold EV;rw [evalFn_S (E1 pr) okd lf (k+499) 18 8 _ H f18 _ (hp' 18 (by decide)) (fns_18 pr) rfl rfl];obtain ⟨H1,h1,e1⟩:=c9 pr lf (hp' 9 (by decide)) (hp' 30 (by decide)) (hp' 55 (by decide)) (hp' 31 (by decide)) (k+495) ss es sr er adj H hs he hg hsl hn (fun l hl=>(hrow l hl).2);rw [hsh] at h1;simp only [go_sem,hs.opdV,hs.okCell,he.okCell,h1];exact ⟨_,_,[],rfl,Ext.gc e1 _,.inl ⟨rfl,rfl⟩⟩
 | true=>
   have hn4:=(shape_of hsh).2.1;obtain ⟨H',rs,h1,e1,hms⟩:=c18 pr lf hp (k+494-sr.length) ss es sr er adj H g' hsh;rw [show k+494-sr.length+sr.length+6=k+500 by omega] at h1;exact ⟨H',_,rs,h1,e1,.inr ⟨rfl,rfl,hms⟩⟩
theorem d20 (hp:Prims pr) (k:Nat) (ss es:Val) (sr er:List (List Val)) (adj:List (List (List Val))) (H:Hp) (g:Gph lf ss es sr er adj) (s:BS) (hS:shapeB sr.length adj=true→Srch adj sr.length 0 s):
  ∃ (H':Hp) (b:Bool),EV pr lf (k+500) 20 [.agg [ss,es]] H= .ret (.tup [.bool b,.int .i64 (indexN sr.length adj []:Nat)]) H'∧Ext H H'∧
    ((shapeB sr.length adj=false∧b=false)∨(shapeB sr.length adj=true∧b=decide (longV (adjN adj) sr.length s.fa≥0))):=by
 have g':=g;have hp':=hp.no;rw [indexN_nil]
 cases hsh:shapeB sr.length adj with
 | false=>
   obtain ⟨hs,he,hg,hsl,hn,hm,hrow,hbig⟩:=g;unfold EV;rw [evalFn_S (E1 pr) okd lf (k+499) 20 9 _ H f20 _ (hp' 20 (by decide)) (fns_20 pr) rfl rfl];obtain ⟨H1,h1,e1⟩:=c9 pr lf (hp' 9 (by decide)) (hp' 30 (by decide)) (hp' 55 (by decide)) (hp' 31 (by decide)) (k+495) ss es sr er adj H hs he hg hsl hn (fun l hl=>(hrow l hl).2);rw [hsh] at h1;simp only [go_sem,hs.opdV,hs.okCell,he.okCell,h1];exact ⟨_,_,rfl,Ext.gc e1 _,.inl rfl⟩
 | true=>
   have hn4:=(shape_of hsh).2.1;obtain ⟨H',h1,e1⟩:=c20 pr lf hp (k+493-sr.length) ss es sr er adj H g' hsh s (hS hsh);rw [show k+493-sr.length+sr.length+7=k+500 by omega] at h1;exact ⟨H',_,h1,e1,.inr ⟨rfl,rfl⟩⟩
theorem d22 (hp:Prims pr) (k:Nat) (ss es:Val) (sr er:List (List Val)) (adj:List (List (List Val))) (H:Hp) (g:Gph lf ss es sr er adj) (s:BS) (hS:shapeB sr.length adj=true→Srch adj sr.length 0 s):
  ∃ (H':Hp) (m e:Int),EV pr lf (k+500) 22 [.agg [ss,es]] H= .ret (.tup [.int .i64 m,.int .i64 e]) H'∧Ext H H'∧
    ((shapeB sr.length adj=false∧m=0∧e=2)∨(shapeB sr.length adj=true∧((longV (adjN adj) sr.length s.fa<0∧m=0∧e=4)∨(0≤longV (adjN adj) sr.length s.fa∧m=longV (adjN adj) sr.length s.fa∧e=0)))):=by
 have g':=g;have hp':=hp.no
 cases hsh:shapeB sr.length adj with
 | false=>
   obtain ⟨hs,he,hg,hsl,hn,hm,hrow,hbig⟩:=g;unfold EV;rw [evalFn_S (E1 pr) okd lf (k+499) 22 12 _ H f22 _ (hp' 22 (by decide)) (fns_22 pr) rfl rfl];obtain ⟨H1,h1,e1⟩:=c9 pr lf (hp' 9 (by decide)) (hp' 30 (by decide)) (hp' 55 (by decide)) (hp' 31 (by decide)) (k+495) ss es sr er adj H hs he hg hsl hn (fun l hl=>(hrow l hl).2);rw [hsh] at h1;simp only [go_sem,hs.opdV,hs.okCell,he.okCell,h1];exact ⟨_,0,2,rfl,Ext.gc e1 _,.inl ⟨rfl,rfl⟩⟩
 | true=>
   have hn4:=(shape_of hsh).2.1;obtain ⟨H',h1,e1⟩:=c22 pr lf hp (k+493-sr.length) ss es sr er adj H g' hsh s (hS hsh);rw [show k+493-sr.length+sr.length+7=k+500 by omega] at h1;refine ⟨H',_,_,h1,e1,.inr ⟨rfl,?_⟩⟩;by_cases hc:longV (adjN adj) sr.length s.fa<0
   · rw [if_pos hc,if_pos hc];exact .inl ⟨hc,rfl,rfl⟩
   · rw [if_neg hc,if_neg hc];exact .inr ⟨by omega,rfl,rfl⟩
def Both (f1 f2 k:Nat) (ar:List Val) (H:Hp):Prop:= ∃(x y:Val) (l:List Int) (e:Int) (H1 H2:Hp),(∀tm,retC (E1 pr) f1 H.n tm (evalFn (E1 pr) okd lf k f1 ar H)= .ok (.tup [x,.int .i64 e]) tm H1)∧
 (∀tm,retC (E1 pr) f2 H1.n tm (evalFn (E1 pr) okd lf k f2 ar H1)= .ok (.tup [y,.int .i64 e]) tm H2)∧IsI x l∧IsI y l∧l.length≤1000000∧Ext H H1∧Ext H1 H2
end
section
variable {pr:Nat→Option (List Val→Hp→FRes)} {lf k:Nat} {ss es:Val} {sr er:List (List Val)} {adj:List (List (List Val))}
theorem both_MV {f1 f2:Nat} {ar:List Val} {H:Hp} (k1:(E1 pr).keep f1=false) (k2:(E1 pr).keep f2=false)
  (h1: ∃H1 v l e,EV pr lf k f1 ar H= .ret (.tup [v,.int .i64 e]) H1∧Ext H H1∧MV H.n H1 v l∧l.length≤1000000∧ ∀H0,∃H2 v2 l2 e2,EV pr lf k f2 ar H0= .ret (.tup [v2,.int .i64 e2]) H2∧Ext H0 H2∧MV H0.n H2 v2 l2∧l2=l∧e2=e):Both pr lf f1 f2 k ar H:=by
 obtain ⟨H1,v,l,e,q1,e1,m1,hl,h2⟩:=h1;obtain ⟨x,H3,r1,hx,e3⟩:=retC_MV (E1 pr) f1 H H1 v l .i64 e k1 m1 e1;obtain ⟨H4,v2,l2,e',q2,e4,m2,rfl,rfl⟩:=h2 H3;obtain ⟨y,H5,r2,hy,e5⟩:=retC_MV (E1 pr) f2 H3 H4 v2 l2 .i64 e' k2 m2 e4;unfold EV at q1 q2;exact ⟨x,y,l2,e',H3,H5,fun tm=>by rw [q1];exact r1 tm,fun tm=>by rw [q2];exact r2 tm,hx,hy,hl,e3,e5⟩
theorem b_final (hp:noPr pr) (p7:pr 7=none) (p8:pr 8=none) (g:Gph lf ss es sr er adj) (H:Hp):Both pr lf 7 8 (k+500) [.agg [ss,es]] H:=by
 refine both_MV (by kernel_rfl) (by kernel_rfl) ?_;obtain ⟨H1,v,e,q1,e1,h1⟩:=c7 pr lf hp p7 (k+495) ss es sr er adj H g;rcases h1 with ⟨hs,rfl,rfl⟩|⟨hs,rfl,hm⟩
 · refine ⟨H1,_,[],_,q1,e1,.inl ⟨rfl,rfl⟩,by simp,fun H0=> ?_⟩;obtain ⟨H2,v2,e2,q2,e4,h2⟩:=c8 pr lf hp p8 (k+495) ss es sr er adj H0 g;rcases h2 with ⟨-,rfl,rfl⟩|⟨hs2,-,-⟩
   · exact ⟨H2,_,[],_,q2,e4,.inl ⟨rfl,rfl⟩,rfl,rfl⟩
   · rw [hs] at hs2;cases hs2
 · refine ⟨H1,_,_,_,q1,e1,hm,?_,fun H0=> ?_⟩
   · have h1:=finL_len adj er.length;obtain ⟨-,hn4,hal,-⟩:=shape_of hs;have:=g.hg.len;omega
   · obtain ⟨H2,v2,e2,q2,e4,h2⟩:=c8 pr lf hp p8 (k+495) ss es sr er adj H0 g;rcases h2 with ⟨hs2,-,-⟩|⟨-,rfl,hm2⟩
     · rw [hs] at hs2;cases hs2
     · exact ⟨H2,_,_,_,q2,e4,hm2,rfl,rfl⟩
theorem b_reach (hp:noPr pr) (p13:pr 13=none) (p34:pr 34=none) (p35:pr 35=none) (g:Gph lf ss es sr er adj) (i:Int) (H:Hp):Both pr lf 12 13 (k+500) [.agg [ss,es],.int .i64 i] H:=by
 refine both_MV (by kernel_rfl) (by kernel_rfl) ?_;obtain ⟨H1,v,l,q1,e1,hm,h1⟩:=d12 pr lf hp (k+494) ss es sr er adj i H g;refine ⟨H1,v,l,_,q1,e1,hm,?_,fun H0=> ?_⟩
 · rcases h1 with ⟨-,rfl⟩|⟨h0,a,s,rfl,hS,rfl⟩
   · simp
   · have h1:=reachL_len s sr.length;have:=(shape_of (indexN_0 h0).1).2.1;omega
 · obtain ⟨H2,v2,l2,q2,e4,hm2,h2⟩:=d13 pr lf hp p13 p34 p35 (k+497) ss es sr er adj i H0 g;refine ⟨H2,v2,l2,_,q2,e4,hm2,?_,rfl⟩;rcases h1 with ⟨ha,rfl⟩|⟨h0,a,s,rfl,hS,rfl⟩
   · rcases h2 with ⟨-,rfl⟩|⟨hb0,b,t,hb,hT,rfl⟩
     · rfl
     · exact absurd hb0 ha
   · rcases h2 with ⟨hb0,rfl⟩|⟨hb0,b,t,hb,hT,rfl⟩
     · exact absurd h0 hb0
     · have:a=b:=by omega
       subst this;rw [hS.uniq hT]
theorem b_way (hp:noPr pr) (p15:pr 15=none) (p34:pr 34=none) (p35:pr 35=none) (g:Gph lf ss es sr er adj) (hsum:sumN (adjN adj) sr.length≤1000000) (i j:Int) (H:Hp):Both pr lf 14 15 (k+500) [.agg [ss,es],.int .i64 i,.int .i64 j] H:=by
 refine both_MV (by kernel_rfl) (by kernel_rfl) ?_;obtain ⟨H1,v,e,q1,e1,h1⟩:=c14 pr lf hp (k+494) ss es sr er adj i j H g;have key: ∃l,MV H.n H1 v l∧l.length≤1000000∧ ∀l2 e2,WayR sr.length (adjN adj) (indexN sr.length adj [i,j]) i j e2 l2→l2=l∧e2=e:=by
  rcases h1 with ⟨hne,rfl,h1⟩|⟨rfl,hix,a,b,w,s,rfl,rfl,ha,hb,hsh,hm,hS,hw,hwl⟩
  · refine ⟨[],.inl ⟨rfl,rfl⟩,by simp,fun l2 e2 h2=> ?_⟩;rcases h1 with rfl|⟨hix,rfl,a,b,s,rfl,rfl,ha,hb,hS,hneg⟩
    · rcases h2 with ⟨-,he,hl⟩|⟨h0,-⟩
      · exact ⟨hl,he⟩
      · rw [h0] at hne;exact absurd rfl hne
    · rcases h2 with ⟨h0,-⟩|⟨-,a',b',bl,d,ea,eb,ha',hb',hT,hd,h2⟩
      · exact absurd hix h0
      · have:a=a':=by omega
        have:b=b':=by omega
        subst a' b';have hA: ∀a,a<sr.length→ ∀t∈adjN adj a,t<sr.length:=fun a _=>adjN_lt (shape_of (indexN_0 hix).1).2.2.2 a;rcases h2 with ⟨-,he,hl⟩|⟨h0,-⟩
        · exact ⟨hl,he⟩
        · have:=(far_iff hA ha hb hS hT hd).2 h0;omega
  · have hA: ∀a,a<sr.length→ ∀t∈adjN adj a,t<sr.length:=fun a _=>adjN_lt (shape_of hsh).2.2.2 a;have hfl:s.fa.length=sr.length:=by obtain ⟨m,-,-,-,hwf⟩:=hS;exact hwf.lfa
    refine ⟨w,hm,?_,fun l2 e2 h2=> ?_⟩
    · have h1:=hS.deep ha (adjN_lt (shape_of hsh).2.2.2) _ (List.mem_of_getElem? (gi_some (l:=s.fa) (i:=b) (by omega)));have:=(shape_of hsh).2.1;omega
    · rcases h2 with ⟨h0,-⟩|⟨-,a',b',bl,d,ea,eb,ha',hb',hT,hd,h2⟩
      · exact absurd hix h0
      · have:a=a':=by omega
        have:b=b':=by omega
        subst a' b';have h00:0≤gi s.fa b:=by omega
        rcases h2 with ⟨hneg,-⟩|⟨h0,rfl,hf,hfl2⟩
        · have:=(far_iff hA ha hb hS hT hd).1 h00;omega
        · exact ⟨(ways_one hA ha hb hS hT hd hw hwl hf hfl2 h0).symm,rfl⟩
 obtain ⟨l,hm,hl,h2⟩:=key;refine ⟨H1,v,l,e,q1,e1,hm,hl,fun H0=> ?_⟩;obtain ⟨H2,v2,l2,e2,q2,e4,hm2,hW⟩:=c15 pr lf hp p15 p34 p35 (k+497) ss es sr er adj i j H0 g hsum;exact ⟨H2,v2,l2,e2,q2,e4,hm2,h2 l2 e2 hW⟩
theorem b_depths (hp:noPr pr) (p17:pr 17=none) (p35:pr 35=none) (g:Gph lf ss es sr er adj) (H:Hp):Both pr lf 16 17 (k+500) [.agg [ss,es]] H:=by
 obtain ⟨H1,v,l,q1,e1,hv,h1⟩:=d16 pr lf hp (k+495) ss es sr er adj H g;unfold EV at q1;have pubs: ∀ {v:Val} {l:List Int} (e:Int) (H:Hp),((v= .nilsl∧l= [])∨v= .sl (l.map iR) false)→pub depthP (.tup [v,.int .i64 e]) H=some (.tup [v,.int .i64 e],H)∧IsI v l:=by
  rintro v l e H (⟨rfl,rfl⟩|rfl)
  · exact ⟨pub_nl2 .i64 e H,.inl ⟨rfl,rfl⟩⟩
  · exact ⟨pub_sl2 _ _ .i64 e H,.inr ⟨false,rfl⟩⟩
 obtain ⟨p1,i1⟩:=pubs (indexN sr.length adj []:Nat) H1 hv;have x1:=Ext.gc e1 (.tup [v,.int .i64 (indexN sr.length adj []:Nat)]);generalize hG:gc H.n (.tup [v,.int .i64 (indexN sr.length adj []:Nat)]) H1=H3 at*;obtain ⟨H2,v2,l2,q2,e2,hv2,h2⟩:=d17 pr lf hp p17 p35 (k+497) ss es sr er adj H3 g;unfold EV at q2;obtain ⟨p2,i2⟩:=pubs (indexN sr.length adj []:Nat) H2 hv2;have hll:l2=l:=by
  rcases h1 with ⟨ha,rfl⟩|⟨ha,s,hS,rfl⟩
  · rcases h2 with ⟨-,rfl⟩|⟨hb,-⟩
    · rfl
    · exact absurd hb ha
  · rcases h2 with ⟨hb,-⟩|⟨-,t,hT,rfl⟩
    · exact absurd ha hb
    · rw [hS.uniq hT]
 subst hll;refine ⟨v,v2,l2,_,H3,_,fun tm=>by rw [q1,←hG];exact retC_frz _ _ _ _ _ _ p1,fun tm=>by rw [q2];exact retC_frz _ _ _ _ _ _ p2,i1,i2,?_,x1,Ext.gc e2 _⟩;rcases h1 with ⟨-,rfl⟩|⟨h0,s,hS,rfl⟩
 · simp
 · obtain ⟨m,-,-,-,hw⟩:=hS;rw [hw.lfa];have:=(shape_of (indexN_0 h0).1).2.1;omega
end
open Go Go.Proofs.Tryz
set_option maxRecDepth 100000
set_option maxHeartbeats 2000000
def Srt (rs:List (List Nat)):Prop:= ∀S∈rs,∃l,S=srtN l
theorem fold_srt {v:Nat→TS→TS} (hv: ∀k t,Srt t.rs→Srt (v k t).rs) (i:Nat): ∀(l:List Nat) (t:TS),Srt t.rs→Srt (l.foldl (edgeT v i) t).rs
 | [],t,h=>h
 | k ::l,t,h=>by
   refine fold_srt hv i l _ ?_;unfold edgeT;split
   · exact hv k t h
   · split
     · exact h
     · exact h
theorem visit_srt (A:Nat→List Nat): ∀(e i:Nat) (t:TS),Srt t.rs→Srt (visitT srtN A e i t).rs
 |0,_,_,h=>h
 | e +1,i,t,h=>by
   have h1:=fold_srt (v:=visitT srtN A e) (fun k t h=>visit_srt A e k t h) i (A i) (pushT i t) h;unfold visitT endT;generalize (A i).foldl (edgeT (visitT srtN A e) i) (pushT i t)=t' at*;split
   · exact h1
   · intro S hS;rcases List.mem_append.1 hS with hS|hS
     · exact h1 S hS
     · rw [List.mem_singleton] at hS;exact ⟨_,hS⟩
theorem roundsT_srt (A:Nat→List Nat) (n:Nat): ∀j,Srt (roundsT srtN A n j).rs
 |0=>fun S hS=>by cases hS
 | j+1=>by
   rw [roundsT_succ];unfold stepR';split
   · exact visit_srt A n j _ (roundsT_srt A n j)
   · exact roundsT_srt A n j
theorem srtN_pw (l:List Nat):(srtN l).Pairwise (· ≤ ·):=by unfold srtN sortI;rw [List.pairwise_map];have:=List.pairwise_mergeSort (le:=fun x y:Int=>decide (x≤y)) (fun a b c h1 h2=>by simp at h1 h2⊢;omega) (fun a b=>by simp;omega) (nI l);exact this.imp fun h=>by simp at h;omega
theorem parts_sorted {n:Nat} {A:Nat→List Nat} (hA: ∀a,a<n→ ∀t∈A a,t<n): ∀S∈(roundsT srtN A n n).rs,S.Pairwise (· < ·):=fun S hS=>by have hP:=roundsT_parts (adj:=A) srtN srtN_perm hA;obtain ⟨X,Y,e⟩:=List.append_of_mem hS;have hnd:=hP.nd;rw [e,List.flatten_append,List.flatten_cons] at hnd;have hS1:=(List.nodup_append.1 (List.nodup_append.1 hnd).2.1).1;obtain ⟨l,rfl⟩:=roundsT_srt A n n S hS;rw [List.nodup_iff_pairwise_ne] at hS1;exact ((srtN_pw l).and hS1).imp fun h=>by omega
section
variable (pr:Nat→Option (List Val→Hp→FRes)) (lf:Nat)
def BothR (k:Nat) (ar:List Val) (H:Hp):Prop:= ∃(x y:Val) (rs:List (List Nat)) (e:Int) (H1 H2:Hp),(∀tm,retC (E1 pr) 18 H.n tm (evalFn (E1 pr) okd lf k 18 ar H)= .ok (.tup [x,.int .i64 e]) tm H1)∧
 (∀tm,retC (E1 pr) 19 H1.n tm (evalFn (E1 pr) okd lf k 19 ar H1)= .ok (.tup [y,.int .i64 e]) tm H2)∧IsSl x (rs.map fun S=> [setV S])∧IsSl y (rs.map fun S=> [setV S])∧rs.length≤1000000∧(∀S∈rs,S.length≤1000000)∧Ext H H1∧Ext H1 H2
def BothE (k:Nat) (ar:List Val) (H:Hp):Prop:= ∃(b:Bool) (e:Int) (H1 H2:Hp),(∀tm,retC (E1 pr) 20 H.n tm (evalFn (E1 pr) okd lf k 20 ar H)= .ok (.tup [.bool b,.int .i64 e]) tm H1)∧
 (∀tm,retC (E1 pr) 21 H1.n tm (evalFn (E1 pr) okd lf k 21 ar H1)= .ok (.tup [.bool b,.int .i64 e]) tm H2)∧Ext H H1∧Ext H1 H2
def BothL (k:Nat) (ar:List Val) (H:Hp):Prop:= ∃(m e:Int) (H1 H2:Hp),(∀tm,retC (E1 pr) 22 H.n tm (evalFn (E1 pr) okd lf k 22 ar H)= .ok (.tup [.int .i64 m,.int .i64 e]) tm H1)∧
 (∀tm,retC (E1 pr) 23 H1.n tm (evalFn (E1 pr) okd lf k 23 ar H1)= .ok (.tup [.int .i64 m,.int .i64 e]) tm H2)∧Ext H H1∧Ext H1 H2
theorem retC_MW (E:Env) (f:Nat) (H H':Hp) (v:Val) (rs:List (List Nat)) (k:IntKind) (e:Int) (hk:E.keep f=false) (h:MW H.n H' v (rs.map setV)) (he:Ext H H'):
  ∃(v':Val) (H2:Hp),(∀tm,retC E f H.n tm (.ret (.tup [v,.int k e]) H')= .ok (.tup [v',.int k e]) tm H2)∧IsSl v' (rs.map fun S=> [setV S])∧Ext H H2:=by
 rcases h with ⟨rfl,hrs⟩|⟨id,j,d,rfl,hg,hid,hd,hj⟩
 · have:rs= []:=by simpa using hrs
   subst this;exact ⟨.nilsl,gc H.n (.tup [.nilsl,.int k e]) H',fun tm=>retC_frz _ _ _ _ _ _ (pub_nl2 k e H'),.inl ⟨rfl,rfl⟩,Ext.gc he _⟩
 · have hp:=pub_rs 47 H' id _ _ d 0 rs false hg hd;rw [List.length_map];generalize hF:Hp.set H' id _=F at hp;have hE:Ext H F:=by rw [←hF];exact Ext.set he hid _
   refine ⟨.sl (rs.map fun S=> [setV S]) false,gc H.n (.tup [.sl (rs.map fun S=> [setV S]) false,.int k e]) F,fun tm=> ?_,.inr ⟨false,rfl⟩,Ext.gc hE _⟩;refine retC_pub E f H.n tm _ _ _ _ hk ?_;have h2:pub 49 (.int k e) F=some (Val.int k e,F):=rfl;show (match mapH (pub 49) [Val.ref id (genOf 28+j) 0 1 rs.length false,.int k e] H' with|some (cs,H)=>fL cs fun cs=>some (Val.tup cs,H)|none=>none)=_;simp only [mapH,hp,h2,fL_eq]
end
section
variable {pr:Nat→Option (List Val→Hp→FRes)} {lf k:Nat} {ss es:Val} {sr er:List (List Val)} {adj:List (List (List Val))}
theorem b_rounds (hp:Prims pr) (p19:pr 19=none) (p35:pr 35=none) (g:Gph lf ss es sr er adj) (H:Hp):BothR pr lf (k+500) [.agg [ss,es]] H:=by
 obtain ⟨H1,v,rs,q1,e1,h1⟩:=d18 pr lf hp k ss es sr er adj H g;unfold EV at q1;have hpub:pub depthP (.tup [v,.int .i64 (indexN sr.length adj []:Nat)]) H1=some (.tup [v,.int .i64 (indexN sr.length adj []:Nat)],H1)∧IsSl v (rs.map fun S=> [setV S]):=by
  rcases h1 with ⟨-,rfl,rfl⟩|⟨-,rfl,-⟩
  · exact ⟨pub_nl2 _ _ _,.inl ⟨rfl,rfl⟩⟩
  · exact ⟨pub_sl2 _ _ _ _ _,.inr ⟨false,rfl⟩⟩
 have x1:=Ext.gc e1 (.tup [v,.int .i64 (indexN sr.length adj []:Nat)]);generalize hG:gc H.n (.tup [v,.int .i64 (indexN sr.length adj []:Nat)]) H1=H3 at*;obtain ⟨H2,v2,rs2,q2,e2,hm,h2⟩:=d19 pr lf hp.no p19 p35 (k+497) ss es sr er adj H3 g;unfold EV at q2;obtain ⟨y,H5,r2,hy,e5⟩:=retC_MW (E1 pr) 19 H3 H2 v2 rs2 .i64 (indexN sr.length adj []:Nat) (by kernel_rfl) hm e2;have hll:rs2=rs∧rs.length≤1000000∧ ∀S∈rs,S.length≤1000000:=by
  rcases h1 with ⟨hs,-,rfl⟩|⟨hs,-,hms⟩
  · rcases h2 with ⟨-,rfl⟩|⟨hs2,-⟩
    · exact ⟨rfl,by simp,fun S h=>by cases h⟩
    · rw [hs] at hs2;cases hs2
  · rcases h2 with ⟨hs2,-⟩|⟨-,fs,hfs,rfl⟩
    · rw [hs] at hs2;cases hs2
    · obtain ⟨hn0,hn4,hal,hto⟩:=shape_of hs;have hA: ∀a,a<sr.length→ ∀t∈adjN adj a,t<sr.length:=fun a _=>adjN_lt hto a;have hP:=roundsT_parts (adj:=adjN adj) srtN srtN_perm hA;have hsc:=roundsT_sc (A:=adjN adj) srtN srtN_perm hA sr.length (Nat.le_refl _);refine ⟨(rounds_eq hP hsc (parts_sorted hA) hms fun u hu w hw=> ?_).symm,?_,fun S hS=> ?_⟩
      · obtain ⟨s,h3,h4⟩:=hfs u hu;obtain ⟨hD,-⟩:=h4.dist hu hA;unfold rB faL;rw [h3,decide_eq_true_eq];exact hD.rch hw
      · rw [hms.1.length_eq];have:=rounds_le (n:=sr.length) hA;omega
      · have hS2:=hms.1.mem_iff.1 hS;obtain ⟨X,Y,e⟩:=List.append_of_mem hS2;have hnd:=hP.nd;rw [e,List.flatten_append,List.flatten_cons] at hnd;have:=nodup_len sr.length S (List.nodup_append.1 (List.nodup_append.1 hnd).2.1).1 fun x hx=>(hP.mem x).1 (List.mem_flatten.2 ⟨S,hS2,hx⟩);omega
 obtain ⟨rfl,hl1,hl2⟩:=hll;exact ⟨v,y,rs2,_,H3,H5,fun tm=>by rw [q1,←hG];exact retC_frz _ _ _ _ _ _ hpub.1,fun tm=>by rw [q2];exact r2 tm,hpub.2,hy,hl1,hl2,x1,e5⟩
theorem b_ends (hp:Prims pr) (p21:pr 21=none) (p35:pr 35=none) (g:Gph lf ss es sr er adj) (s:BS) (hS:shapeB sr.length adj=true→Srch adj sr.length 0 s) (H:Hp):BothE pr lf (k+500) [.agg [ss,es]] H:=by
 obtain ⟨H1,b,q1,e1,h1⟩:=d20 pr lf hp k ss es sr er adj H g s hS;unfold EV at q1;have x1:=Ext.gc e1 (.tup [.bool b,.int .i64 (indexN sr.length adj []:Nat)]);generalize hG:gc H.n (.tup [.bool b,.int .i64 (indexN sr.length adj []:Nat)]) H1=H3 at*;obtain ⟨H2,b2,q2,e2,h2⟩:=d21 pr lf hp.no p21 p35 (k+497) ss es sr er adj H3 g;unfold EV at q2;have hbb:b2=b:=by
  rcases h1 with ⟨hs,rfl⟩|⟨hs,rfl⟩
  · rcases h2 with ⟨-,rfl⟩|⟨hs2,-⟩
    · rfl
    · rw [hs] at hs2;cases hs2
  · rcases h2 with ⟨hs2,-⟩|⟨-,h2⟩
    · rw [hs] at hs2;cases hs2
    · obtain ⟨hn0,hn4,hal,hto⟩:=shape_of hs;have:=ends_iff hn0 (fun a _=>adjN_lt hto a) (hS hs);rw [Bool.eq_iff_iff,h2,decide_eq_true_eq];exact this.symm
 subst hbb;exact ⟨b2,_,H3,_,fun tm=>by rw [q1,←hG];exact retC_frz _ _ _ _ _ _ (pub_bo2 ..),fun tm=>by rw [q2];exact retC_frz _ _ _ _ _ _ (pub_bo2 ..),x1,Ext.gc e2 _⟩
theorem b_long (hp:Prims pr) (p21:pr 21=none) (p23:pr 23=none) (p35:pr 35=none) (p39:pr 39=none) (g:Gph lf ss es sr er adj) (s:BS) (hS:shapeB sr.length adj=true→Srch adj sr.length 0 s) (H:Hp):BothL pr lf (k+500) [.agg [ss,es]] H:=by
 obtain ⟨H1,m,e,q1,e1,h1⟩:=d22 pr lf hp k ss es sr er adj H g s hS;unfold EV at q1;have x1:=Ext.gc e1 (.tup [.int .i64 m,.int .i64 e]);generalize hG:gc H.n (.tup [.int .i64 m,.int .i64 e]) H1=H3 at*;obtain ⟨H2,m2,e2,q2,x2,h2⟩:=d23 pr lf hp.no p23 p21 p35 p39 (k+496) ss es sr er adj H3 g fun hs hE m v hw=>by obtain ⟨hn0,hn4,hal,hto⟩:=shape_of hs;have:=walk_le hn0 (fun a _=>adjN_lt hto a) (hS hs) hE m v hw;omega
 have key:m2=m∧(e2:Int)=e:=by
  rcases h1 with ⟨hs1,rfl,rfl⟩|⟨hs,h1⟩
  · rcases h2 with ⟨-,rfl,rfl⟩|⟨hs2,-⟩|⟨hs2,-⟩
    · exact ⟨rfl,rfl⟩
    · rw [hs1] at hs2;cases hs2
    · rw [hs1] at hs2;cases hs2
  · obtain ⟨hn0,hn4,hal,hto⟩:=shape_of hs;have hA: ∀a,a<sr.length→ ∀t∈adjN adj a,t<sr.length:=fun a _=>adjN_lt hto a;have hei:=ends_iff hn0 hA (hS hs);rcases h1 with ⟨hneg,rfl,rfl⟩|⟨hpos,rfl,rfl⟩
    · rcases h2 with ⟨hs2,-⟩|⟨-,hE,rfl,rfl⟩|⟨-,hE,-⟩
      · rw [hs] at hs2;cases hs2
      · exact ⟨rfl,rfl⟩
      · have:=hei.2 hE;omega
    · rcases h2 with ⟨hs2,-⟩|⟨-,hE,rfl,rfl⟩|⟨-,hE,rfl,w1,w2⟩
      · rw [hs] at hs2;cases hs2
      · exact absurd (hei.1 hpos) hE
      · exact ⟨(long_eq hn0 hA (hS hs) hE w1 w2).symm,rfl⟩
 obtain ⟨km,rfl⟩:=key;unfold EV at q2;subst km;exact ⟨_,_,H3,_,fun tm=>by rw [q1,←hG];exact retC_frz _ _ _ _ _ _ (pub_ii ..),fun tm=>by rw [q2];exact retC_frz _ _ _ _ _ _ (pub_ii ..),x1,Ext.gc x2 _⟩
end
open Go Go.Proofs.Tryz
set_option maxRecDepth 100000
set_option maxHeartbeats 4000000
theorem sumN_cnt (adj:List (List (List Val))): ∀n,sumN (adjN adj) n≤cntA (adj.take n)
 |0=>by simp [sumN]
 | n+1=>by
   rw [sumN_succ];have ih:=sumN_cnt adj n;have h1:cntA (adj.take (n+1))=cntA (adj.take n)+cntL ((adj[n]?).getD []):=by
    unfold cntA;rw [List.take_add_one,List.map_append,List.sum_append]
    cases adj[n]? with
    |none=>simp [cntL]
    |some l=>simp
   have h2:(adjN adj n).length≤cntL ((adj[n]?).getD []):=by unfold adjN cntL;rw [List.length_map];omega
   omega
@[go_sem ↓] theorem dops_g (E cf fid) (ops:Array Oper) (dst op ty pos after j w os) (a:Ann) (an tm H ds):
  dopsC E cf fid ops (⟨dst,op,ty,pos,after,some (j,w)⟩::os) (a::an) tm H ds=wantC (wantedP ops tm ⟨dst,op,ty,pos,after,some (j,w)⟩)
   (fun _=>ifC (chkA E ⟨dst,op,ty,pos,after,some (j,w)⟩ a tm) (fun _=>nxtD E fid dst (evalOp E cf fid ⟨dst,op,ty,pos,after,some (j,w)⟩ tm H) (fun tm H=>dopsC E cf fid ops os an tm H ds) ⟨⟩) (fun _=> .fail) ⟨⟩ ⟨⟩)
   (fun _=>setC E fid dst (.tup []) tm (fun tm=>dopsC E cf fid ops os an tm H ds) ⟨⟩) ⟨⟩ ⟨⟩:=by
 rw [dops_cons]
structure NoW (pr:Nat→Option (List Val→Hp→FRes)):Prop where
  p3:pr 3=none
  p7:pr 7=none
  p8:pr 8=none
  p11:pr 11=none
  p13:pr 13=none
  p15:pr 15=none
  p17:pr 17=none
  p19:pr 19=none
  p21:pr 21=none
  p23:pr 23=none
  p24:pr 24=none
  p34:pr 34=none
  p35:pr 35=none
  p39:pr 39=none
section
variable (pr:Nat→Option (List Val→Hp→FRes)) (lf:Nat)
theorem bn4 (a:Bool):binP (E1 pr) .neq 4 (.bool a) (.bool a)=some (.bool false):=by cases a<;>kernel_rfl
theorem be4 (a:Bool):binP (E1 pr) .eql 4 (.bool a) (.bool a)=some (.bool true):=by cases a<;>kernel_rfl
theorem c3 (hp:Prims pr) (w:NoW pr) (h6:pr 6=some (pCl [] (.bool true))) (k:Nat) (ss es:Val) (sr er:List (List Val)) (adj:List (List (List Val))) (i j:Int) (H:Hp) (g:Gin lf ss es sr er adj)
  (hS:sr.length+er.length+cntA adj≤1000000000000):
  ∃H',EV pr lf (k+2001) 3 [.agg [ss,es],.int .i64 i,.int .i64 j] H= .ret (.bool true) H':=by
 obtain ⟨hs,he,hg,hsl,hn,hm,hrow2,hst,hbig⟩:=g;have hp':=hp.no;unfold EV;rw [evalFn_S (E1 pr) okd lf (k+2000) 3 174 _ H f3 _ w.p3 (fns_3 pr) rfl rfl];obtain ⟨H1,b,q5,e1,hb5⟩:=c5 pr lf hp' (k+1914) ss es sr er adj H hs he hg hsl hn hm (fun l hl=>(hrow2 l hl).2) hst;unfold EV at q5;have e2:=Ext.gc e1 (.bool b);have q6: ∀tm H,doCall (E1 pr) (evalFn (E1 pr) okd lf (k+2000)) 6 [] H tm= .ok (.bool true) tm H:=fun tm H=>by rw [doCall_E1 pr _ 6 [] H tm rfl,(evalFn_prim (E1 pr) okd lf (k+1999) 6 [] H _ h6).trans (p6_ok H),retC_scal _ _ _ _ _ _ rfl,gc_self]
 cases b with
 | false=>
   simp only [go_sem,hs.opdV,hs.okCell,he.okCell,he.opdV,q5,q6];exact ⟨_,rfl⟩
 |true=>
 have hsum:sumN (adjN adj) sr.length≤1000000:=by have h1:=sumN_cnt adj sr.length;have h2:=cntA_take adj sr.length;have h3:=hb5 rfl hS;omega
 generalize hG2:gc H.n (.bool true) H1=H2 at*;have hG:Gph lf ss es sr er adj:=⟨hs,he,hg,hsl,hn,hm,hrow2,hbig⟩;have hlf:1000001<lf:=by omega
 have hii: ∀ {x y:Val} {l:List Int} (H:Hp),IsI x l→IsI y l→l.length≤1000000→evalFn (E1 pr) okd lf (k+2000) 11 [x,y] H= .ret (.bool true) H:=fun {x y l} H h1 h2 h3=>by have:=c11 pr lf w.p11 (k+1999) x y l l H h1 h2 (by omega) (by omega) (by omega);rw [decide_eq_true rfl] at this;exact this
 have oI: ∀ {x:Val} {l:List Int},IsI x l→(∀t,opdV t x=x)∧noLoc x=true:=fun h=>⟨fun t=>IsSl.opdV h t,IsSl.noLoc h⟩;obtain ⟨x1,y1,l1,er1,H3,H4,r7,r8,ix1,iy1,ll1,ex3,ex4⟩:Both pr lf 7 8 (k+2000) [.agg [ss,es]] H2:=b_final (k:=k+1500) hp' w.p7 w.p8 hG H2;obtain ⟨H5,r9,ex5⟩:=c9 pr lf (hp' 9 (by decide)) (hp' 30 (by decide)) (hp' 55 (by decide)) (hp' 31 (by decide)) (k+1996) ss es sr er adj H4 hs he hg hsl hn (fun l hl=>(hrow2 l hl).2);have r9:evalFn (E1 pr) okd lf (k+2000) 9 [.agg [ss,es]] H4= .ret (.bool (shapeB sr.length adj)) H5:=r9;have ex6:=Ext.gc ex5 (.bool (shapeB sr.length adj));generalize hG6:gc H4.n (.bool (shapeB sr.length adj)) H5=H6 at*;have r10:evalFn (E1 pr) okd lf (k+2000) 10 [.agg [ss,es]] H6= .ret (.bool (shapeB sr.length adj)) H6:=c10 pr lf hp' (k+1999) ss es sr er adj H6 hG;have i1:=hii H6 ix1 iy1 ll1;obtain ⟨x2,y2,l2,er2,H7,H8,r12,r13,ix2,iy2,ll2,ex7,ex8⟩:Both pr lf 12 13 (k+2000) [.agg [ss,es],.int .i64 i] H6:=b_reach (k:=k+1500) hp' w.p13 w.p34 w.p35 hG i H6;have i2:=hii H8 ix2 iy2 ll2;obtain ⟨x3,y3,l3,er3,H9,H10,r14,r15,ix3,iy3,ll3,ex9,ex10⟩:Both pr lf 14 15 (k+2000) [.agg [ss,es],.int .i64 i,.int .i64 j] H8:=b_way (k:=k+1500) hp' w.p15 w.p34 w.p35 hG hsum i j H8;have i3:=hii H10 ix3 iy3 ll3;obtain ⟨x4,y4,l4,er4,H11,H12,r16,r17,ix4,iy4,ll4,ex11,ex12⟩:Both pr lf 16 17 (k+2000) [.agg [ss,es]] H10:=b_depths (k:=k+1500) hp' w.p17 w.p35 hG H10;have i4:=hii H12 ix4 iy4 ll4;obtain ⟨s,hs0⟩: ∃s,shapeB sr.length adj=true→Srch adj sr.length 0 s:=by
  by_cases hsh:shapeB sr.length adj=true
  · obtain ⟨H',s,-,-,h⟩:=c16 pr lf hp' (k+1500) ss es sr er adj H2 hG hsh;exact ⟨s,fun _=>h⟩
  · exact ⟨bs0 0 0,fun h=>absurd h hsh⟩
 obtain ⟨x5,y5,rs,er5,H13,H14,r18,r19,ix5,iy5,ll5,lS5,ex13,ex14⟩:BothR pr lf (k+2000) [.agg [ss,es]] H12:=b_rounds (k:=k+1500) hp w.p19 w.p35 hG H12;obtain ⟨b7,er7,H15,H16,r20,r21,ex15,ex16⟩:BothE pr lf (k+2000) [.agg [ss,es]] H14:=b_ends (k:=k+1500) hp w.p21 w.p35 hG s hs0 H14;obtain ⟨m8,er8,H17,H18,r22,r23,ex17,ex18⟩:BothL pr lf (k+2000) [.agg [ss,es]] H16:=b_long (k:=k+1500) hp w.p21 w.p23 w.p35 w.p39 hG s hs0 H16;obtain ⟨H19,r24,ex19⟩:=c24 pr lf w.p24 w.p11 (k+1998) x5 y5 rs H18 ix5 iy5 (by omega) (by omega) (fun S hS=>by have:=lS5 S hS;omega);have r24:evalFn (E1 pr) okd lf (k+2000) 24 [x5,y5] H18= .ret (.bool true) H19:=r24;have hne: ∀a:Int,(a !=a)=false:=fun a=>by simp
 have heq: ∀a:Int,(a==a)=true:=fun a=>by simp
 have hneb: ∀a:Bool,(a !=a)=false:=fun a=>by simp
 have heqb: ∀a:Bool,(a==a)=true:=fun a=>by simp
 obtain ⟨ox1,nx1⟩:=oI ix1;obtain ⟨oy1,ny1⟩:=oI iy1;obtain ⟨ox2,nx2⟩:=oI ix2;obtain ⟨oy2,ny2⟩:=oI iy2;obtain ⟨ox3,nx3⟩:=oI ix3;obtain ⟨oy3,ny3⟩:=oI iy3;obtain ⟨ox4,nx4⟩:=oI ix4;obtain ⟨oy4,ny4⟩:=oI iy4;have ox5:=ix5.opdV;have oy5:=iy5.opdV;have nx5:=ix5.noLoc;have ny5:=iy5.noLoc;simp only [go_sem,hs.opdV,hs.okCell,he.okCell,he.opdV,q5,hG2,r7,r8,r9,hG6,r10,gc_self,i1,ox1,oy1,nx1,ny1,hne,bn4];simp only [go_sem,hs.opdV,hs.okCell,he.okCell,he.opdV,r12,r13,gc_self,i2,ox2,oy2,nx2,ny2,hne];simp only [go_sem,hs.opdV,hs.okCell,he.okCell,he.opdV,r14,r15,gc_self,i3,ox3,oy3,nx3,ny3,hne];simp only [go_sem,hs.opdV,hs.okCell,he.okCell,he.opdV,r16,r17,gc_self,i4,ox4,oy4,nx4,ny4,hne];simp only [go_sem,hs.opdV,hs.okCell,he.okCell,he.opdV,r18,r19,r20,r21,r22,r23,r24,q6,ox5,oy5,nx5,ny5,heq,be4];exact ⟨_,rfl⟩
end
open Go Go.Proofs Go.Proofs.Tryz
set_option maxRecDepth 100000
theorem rows_le: ∀(rows:List (List Val)),rows.length≤szR rows
 | []=>Nat.le_refl _
 |r::rows=>by have:=rows_le rows;simp only [List.length_cons,szR];omega
theorem lenV_le (v:Val):lenV v≤szV v:=by cases v<;>simp [lenV,szV];exact rows_le _
theorem isSl_sz {x:Val} {rows:List (List Val)} (h:IsSl x rows):szV x=szR rows:=by rcases h with ⟨rfl,rfl⟩|⟨c,rfl⟩<;>simp [szV,szR]
theorem cntL_le: ∀(rows:List (List Val)),(∀e∈rows,OkE e)→cntL rows≤szR rows
 | [],_=>by simp [cntL,szR]
 |e::rows,h=>by have ih:=cntL_le rows fun x hx=>h x (List.mem_cons_of_mem _ hx);obtain ⟨a,b,c,n,x,bl,rfl,rfl,hx,-⟩:=h e (List.mem_cons_self ..);have h1:=lenV_le b;unfold cntL at ih⊢;simp only [List.length_cons,List.map_cons,List.sum_cons,atN,szR,szL,szV];omega
theorem cntA_le: ∀(er:List (List Val)) (adj:List (List (List Val))),er.length=adj.length→(∀(i:Nat) (r:List Val),er[i]? =some r→ ∃(x:Val) (rows:List (List Val)),r= [x]∧adj[i]? =some rows∧IsSl x rows∧ ∀e∈rows,OkE e)→er.length+cntA adj≤szR er
 | [],[],_,_=>by simp [cntA,szR]
 | [],_::_,h,_=>by cases h
 |_::_,[],h,_=>by cases h
 |r::er,l::adj,h,hr=>by have ih:=cntA_le er adj (by simpa using h) fun i r hi=>hr (i+1) r hi;obtain ⟨x,rows,rfl,h1,h2,h3⟩:=hr 0 r rfl;cases h1;have h4:=cntL_le l h3;have h5:=isSl_sz h2;simp only [cntA,List.map_cons,List.sum_cons,List.length_cons,szR,szL] at ih⊢;omega
theorem Gin.sum {lf ss es sr er adj} (g:Gin lf ss es sr er adj) {b:Nat} (h:szL [ss,es]+1≤b):sr.length+er.length+cntA adj≤b:=by
 have h1:=isSl_sz g.hs;have h2:=isSl_sz g.he;have h3:=rows_le sr;have h4:=cntA_le er adj g.hg.len fun i r hi=>by obtain ⟨x,rows,e1,e2,e3,-,e5⟩:=g.hg.row i r hi;exact ⟨x,rows,e1,e2,e3,e5⟩
 simp only [szL] at h;omega
open Go.Proofs.YtmjfdiohjflnnaaGreatDoor (Rows.uptoBulk Rows.uptoBulkAll Rows.uptoSmall)
theorem bulkAll_sum {H:Type} (l:List (DataW H)):Rows.uptoBulkAll l=(l.map Rows.uptoBulk).sum:=by
 induction l with
 |nil=>simp [Rows.uptoBulkAll]
 |cons x l ih=>simp [Rows.uptoBulkAll,ih]
theorem bkU (H:Type):Bk H Rows.uptoBulk where
 one:=fun d=>by
  cases d with
  |lit l=>cases l<;>simp [Rows.uptoBulk]
  |nil=>simp [Rows.uptoBulk]
  |ptr d=>simp [Rows.uptoBulk]
  |slice elems spare=>simp [Rows.uptoBulk]
  |agg parts=>simp [Rows.uptoBulk]
  |iface t d=>simp [Rows.uptoBulk]
  |map entries=>simp [Rows.uptoBulk]
  |held h=>simp [Rows.uptoBulk]
 sl:=fun elems sp=>by simp only [Rows.uptoBulk,bulkAll_sum];omega
 agg:=fun parts=>by simp only [Rows.uptoBulk,bulkAll_sum];omega
theorem int_of {vs:List Val} (h: ∀n,RdV prog n 3 vs): ∃i:Int,vs= [.int .i64 i]:=by obtain ⟨a,rfl,-⟩:=rd_int (h 1) u3;exact ⟨a,rfl⟩
open Go Go.Proofs Go.Proofs.Tryz Go.ChangeShapes Go.WideShapes Go.ChangeAt Go.RowKit
set_option maxRecDepth 100000
open Go.Proofs.YtmjfdiohjflnnaaGreatDoor (Rows.spaceWaysRow Rows.spaceWalksUptoRow Rows.spaceWalksSpec Rows.uptoBulk Rows.uptoSmall Rows.OpenSpec.upto)
theorem laid_same:Rows.spaceWalksUptoRow.laid=Rows.spaceWaysRow.laid:=rfl
theorem enters3 (args:Array Value) (w:World):(callFunc 3 args).run prog w= .ok (.enter 3 args) w:=Go.Proofs.enters_of func3 (by kernel_rfl) rfl args w
theorem walks_run (pr:Nat→Option (List Val→Hp→FRes)) (hT:TabOK (E1 pr) prog okd) (hp:Prims pr) (hw:NoW pr) (h6:pr 6=some (pCl [] (.bool true))) (W:World) (hL:laidMetH prog Rows.spaceWaysRow.laid W) (c0:Array Value) (x1 x2:Value) (b:Nat) (hb:b≤1000000000000)
  (h0:Tok3 prog W (κ0 W).M 25 c0.toList b) (h1:Tok2 prog W (κ0 W).M 3 [x1]) (h2:Tok2 prog W (κ0 W).M 3 [x2]):
  Calls prog 3 #[.agg c0,x1,x2] W fun e W'=>e= .returned (.bool true)∧ ∃κ',Fr (κ0 W).own (κ0 W) κ' W W':=by
 obtain ⟨v0,r0,q0,s0⟩:=h0;obtain ⟨v1,r1,q1⟩:=h1;obtain ⟨v2,r2,q2⟩:=h2;obtain ⟨ss,es,sr,er,adj,rfl,hG⟩:=Gin_of q0;have hsum:=hG.sum s0;obtain ⟨i,rfl⟩:=int_of q1;obtain ⟨j,rfl⟩:=int_of q2;obtain ⟨H',hev⟩:=c3 pr lf0 hp hw h6 0 ss es sr er adj i j Hp.empty hG (by omega);have hok:=evalFn_ok (lf:=lf0) hT (0+2001) 3 [.agg [ss,es],.int .i64 i,.int .i64 j] Hp.empty;have hev':evalFn (E1 pr) okd lf0 (0+2001) 3 [.agg [ss,es],.int .i64 i,.int .i64 j] Hp.empty= .ret (.bool true) H':=hev;rw [hev'] at hok;have hin:=hok (by simp) (κ0 W) W #[.agg c0,x1,x2] (wr0 W) (gok pr hL) rfl (fun k v x hv hx=>by
  match k,hv,hx with
  | 0,hv,hx=>
    cases hv;cases hx;refine .agg _ _ (by rw [r0.1];simp) fun n v x hv hx=>r0.2 n v x hv (by simpa using hx)
  |1,hv,hx=>cases hv;cases hx;exact r1.2 0 _ _ rfl rfl
  |2,hv,hx=>cases hv;cases hx;exact r2.2 0 _ _ rfl rfl
  |k+3,hv,hx=>cases hv)
 have key: ∀e W',EndR (κ0 W) W (.ret (.bool true) H') e W'→e= .returned (.bool true)∧ ∃κ',Fr (κ0 W).own (κ0 W) κ' W W':=by
  intro e W' he
  cases e with
  | returned x=>
    obtain ⟨v,H2,κ',e1,-,e2,e3⟩:=he;cases e1;unfold VK at e3;cases e3;exact ⟨rfl,κ',e2⟩
  | panicked chain=>
    obtain ⟨v,H2,κ',e1,-⟩:=he;cases e1
  |outgrown=>exact he.elim
 rcases hin with ⟨g,ys,e1,e2⟩|⟨x,w',e1,-⟩
 · rw [enters3] at e1;cases e1;exact e2.mono key
 · rw [enters3] at e1;cases e1
theorem wE3' {H:Type} (P:Program) (t0 t1 t2:TypeId) (d0 d1 d2:DataW H) (h:(DataW.weightsEach P [t0,t1,t2] [d0,d1,d2]).all (· ≤reachBytes)=true):
  (d0.weights P t0).all (· ≤reachBytes)=true∧(d1.weights P t1).all (· ≤reachBytes)=true∧(d2.weights P t2).all (· ≤reachBytes)=true:=by
 simp only [DataW.weightsEach,List.all_append,Bool.and_eq_true] at h;exact ⟨h.1,h.2.1,h.2.2.1⟩
theorem u25': ∃fs,prog.underlying 25=some (.struct fs):=by
 have h:=s25;unfold stTypes at h;split at h
 · next fs e=>exact ⟨fs,e⟩
 · cases h
theorem sz25':decide (25<prog.types.size)=true:=by kernel_rfl
theorem sz3':decide (3<prog.types.size)=true:=by kernel_rfl
theorem read3:prog.readableRec 3=true:=by kernel_rfl
theorem par3:f3.params= #[25,3,3]:=by kernel_rfl
theorem agg_of' {W:World} {base:Nat} {t:TypeId} {v:Value} (h:Value.okWide prog W .any base t v) (ht: ∃fs,prog.underlying t=some (.struct fs)): ∃cs,v= .agg cs∧cs.size=prog.cellsOf t:=by unfold Value.okWide at h;obtain ⟨fs,e⟩:=ht;rw [e] at h;obtain ⟨cs,h1,h2,-⟩:=h;exact ⟨cs,h1,h2⟩
theorem cells3 {W:World} {base:Nat} {v:Value} (h:Value.okWide prog W .any base 3 v):v.cells= #[v]:=by unfold Value.okWide Cell.okWide Cell.ok at h;rw [u3] at h;cases v<;>first|rfl|exact h.elim
theorem contractW (hrun: ∀(W:World),laidMetH prog Rows.spaceWalksUptoRow.laid W→ ∀(c0:Array Value) (x1 x2:Value) (b:Nat),b≤1000000000000→Tok3 prog W (κ0 W).M 25 c0.toList b→Tok2 prog W (κ0 W).M 3 [x1]→Tok2 prog W (κ0 W).M 3 [x2]→
   Calls prog 3 #[.agg c0,x1,x2] W fun e W'=>e= .returned (.bool true)∧ ∃κ',Fr (κ0 W).own (κ0 W) κ' W W')
  (H:Type) (enc:TypeId×Value→H) (W:World) (base:Nat) (args:Array Value) (ds gs:List (DataW H)) (before:List MemPlace)
  (hval: ∀(j:Nat) t v,f3.params[j]? =some t→args[j]? =some v→Value.okWide prog W .any base t v)
  (hW:DataW.Whole enc prog f3.params.toList Rows.spaceWalksSpec.vars false W args.toList ds gs before) (hS:(DataW.weightsEach prog (f3.params.toList++(OpenSpec.ofChange Rows.spaceWalksSpec).bare.plain.varTypes prog) (ds++gs)).all (· ≤reachBytes)=true)
  (hk:Rows.uptoSmall H (ds++gs)=true)
  (hL:laidMetH prog Rows.spaceWalksUptoRow.laid W):
  Calls prog 3 args W fun e W'=> ∃v,e= .returned v∧Rows.spaceWalksSpec.post enc prog f3 false true false false W args v W':=by
 have hW':=hW;obtain ⟨p,q,hA0,hV,rfl,hfz,hnd⟩:=hW;have hA:DataW.TrodAll enc prog W 0 (fun _=>true) true f3.params.toList args.toList ds p:=hA0;rw [par3] at hA hval hS;obtain ⟨v0,vs0,d0,ds0,p0,q0,hargs,rfl,rfl,h0,r0⟩:=trodAll_cons hA;obtain ⟨v1,vs1,d1,ds1,p1,q1,rfl,rfl,rfl,h1,r1⟩:=trodAll_cons r0;obtain ⟨v2,vs2,d2,ds2,p2,q2,rfl,rfl,rfl,h2,r2⟩:=trodAll_cons r1;obtain ⟨rfl,rfl,rfl⟩:=trodAll_nil r2;obtain rfl:args= #[v0,v1,v2]:=by cases args;simp_all
 obtain ⟨rfl,rfl⟩:=trodVars_none hV;have hS2:=wE3' prog 25 3 3 d0 d1 d2 hS;have hbulk:Rows.uptoBulk d0≤1000000000000:=by have hk2:decide (Go.Proofs.YtmjfdiohjflnnaaGreatDoor.Rows.uptoBulkAll ([d0,d1,d2]++ [])≤1048576)=true:=hk;have:=of_decide_eq_true hk2;rw [bulkAll_sum] at this;simp only [List.cons_append,List.nil_append,List.map_cons,List.map_nil,List.sum_cons,List.sum_nil] at this;omega
 obtain ⟨cs0,rfl,-⟩:=agg_of' (hval 0 25 v0 rfl rfl) u25';have hv1:v1.cells= #[v1]:=cells3 (hval 1 3 v1 rfl rfl);have hv2:v2.cells= #[v2]:=cells3 (hval 2 3 v2 rfl rfl);have k0:Tok3 prog W (κ0 W).M 25 cs0.toList (Rows.uptoBulk d0):=by obtain ⟨n,hn⟩:=h0;exact read_ok3 enc prog W (κ0 W).M Rows.uptoBulk (bkU H) _ _ n _ _ _ ⟨d0,p0,hn,hS2.1,rfl⟩
 have down: ∀ {t:TypeId} {c:List Value} {b:Nat},Tok3 prog W (κ0 W).M t c b→Tok2 prog W (κ0 W).M t c:=fun ⟨vs,a,b,_⟩=>⟨vs,a,b⟩;have k1:Tok2 prog W (κ0 W).M 3 [v1]:=by obtain ⟨n,hn⟩:=h1;rw [hv1] at hn;exact down (read_ok3 enc prog W (κ0 W).M Rows.uptoBulk (bkU H) _ _ n _ _ _ ⟨d1,p1,hn,hS2.2.1,rfl⟩)
 have k2:Tok2 prog W (κ0 W).M 3 [v2]:=by obtain ⟨n,hn⟩:=h2;rw [hv2] at hn;exact down (read_ok3 enc prog W (κ0 W).M Rows.uptoBulk (bkU H) _ _ n _ _ _ ⟨d2,p2,hn,hS2.2.2,rfl⟩)
 have hlt:=hW'.lt;refine (hrun W hL cs0 v1 v2 _ hbulk k0 k1 k2).mono fun e W' ⟨he,κ',hfr⟩=> ?_;subst he;have hsame: ∀p∈p0++(p1++(p2++ []))++ [],W.sameAt W' p:=fun p hp=>sameAt_of hfr p (hlt p hp);refine ⟨_,rfl,post_same_old (pa:=p0++(p1++(p2++ []))) (pv:= []) hW' (fun _ _ _=>trodAll_cons_mk (shut_bool u4 _) trodAll_mk0) (fun sp hsp=> ?_) (fun _ _=>rfl) rfl
  (keptBut_of hfr _) (fun a ha=>frozen_of hfr a ha) (ok_one (by kernel_rfl) rfl (okWide_bool_mk u4 _))⟩
 refine trodAll_cons_mk (WideElems.Trod_stays laidOut read25 (of_decide_eq_true sz25') h0 (fun p hp=>hsame p (by simp [hp])) (fun p hp=>hsp p (by simp [hp])))
  (trodAll_cons_mk (WideElems.Trod_stays laidOut read3 (of_decide_eq_true sz3') h1 (fun p hp=>hsame p (by simp [hp])) (fun p hp=>hsp p (by simp [hp])))
  (trodAll_cons_mk (WideElems.Trod_stays laidOut read3 (of_decide_eq_true sz3') h2 (fun p hp=>hsame p (by simp [hp])) (fun p hp=>hsp p (by simp [hp]))) trodAll_mk0))
open Go Go.Proofs Go.Proofs.Tryz Go.ChangeShapes Go.WideShapes Go.ChangeAt Go.RowKit
open Go.Proofs.YtmjfdiohjflnnaaGreatDoor (Rows.spaceWaysRow Rows.spaceWalksUptoRow Rows.spaceWalksSpec Rows.OpenSpec.upto)
set_option maxRecDepth 100000
def wargs3:Array Value:= #[.agg #[.slice none 0 0,.slice none 0 0],.int .i64 0,.int .i64 0]
theorem noInit3:prog.inits.idxOf? 3=none:=by kernel_rfl
theorem laid_met3 (os:Os):laidMet prog Rows.spaceWalksUptoRow.laid ((laidWorld os).forCall (fun _ _=>0) ⟨#[],wargs3,[]⟩).memory:=by rw [laid_same];exact laid_met os wargs3
theorem witness_row3 (os:Os) {H:Type} (enc:TypeId×Value→H):
  (Rows.OpenSpec.upto Rows.spaceWalksSpec).preRow enc prog f3 Rows.spaceWalksUptoRow.domain false Rows.spaceWalksUptoRow.laid ((laidWorld os).forCall (fun _ _=>0) ⟨#[],wargs3,[]⟩).memory wargs3:=by
 have hw:(DataW.whole enc prog ((laidWorld os).forCall (fun _ _=>0) ⟨#[],wargs3,[]⟩).memory f3.params.toList Rows.spaceWalksSpec.vars false wargs3.toList 8).map (fun x=>(x.1,x.2.1))=
  some ([.agg [.nil,.nil],.lit (.int .i64 0),.lit (.int .i64 0)],[]):=by kernel_rfl
 obtain ⟨⟨x1,x2,x3⟩,hx,hx1⟩:=Option.map_eq_some_iff.1 hw;simp only [Prod.mk.injEq] at hx1;obtain ⟨rfl,rfl⟩:=hx1;exact OpenSpec.preRow_of_cond (s:=Rows.OpenSpec.upto Rows.spaceWalksSpec) 8 hx (by kernel_rfl) (fun k hk=>by cases hk;kernel_rfl) (by kernel_rfl) (laid_met3 os)
theorem variablesRef3 (os:Os):((laidWorld os).forCall (fun _ _=>0) ⟨#[],wargs3,[]⟩).variablesRefB prog=true:=by kernel_rfl
theorem heapRest3 (os:Os):(((laidWorld os).forCall (fun _ _=>0) ⟨#[],wargs3,[]⟩).heap.toList.drop prog.globals.size).take ((begin prog (fun _ _=>0) default).world.heap.size-prog.globals.size)=
 (begin prog (fun _ _=>0) default).world.heap.toList.drop prog.globals.size:=by kernel_rfl
theorem inputOk3 (os:Os):Input.okWideB prog ((laidWorld os).forCall (fun _ _=>0) ⟨#[],wargs3,[]⟩) 3 ⟨#[],wargs3,[]⟩=true:=by kernel_rfl
end Go.PV
