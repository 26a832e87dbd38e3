/- A part of the proof: GS. -/
import Derived.Test.YtmjfdiohjflnnaaGreatDoorP07
set_option linter.all false
namespace Go.PV
open Go Go.Proofs.Tryz
set_option maxRecDepth 100000
set_option maxHeartbeats 2000000
theorem nodup_len: ∀(n:Nat) (l:List Nat),l.Nodup→(∀x∈l,x<n)→l.length≤n
 | 0,l,_,h=>by
   cases l with
   |nil=>simp
   |cons a l=>exact absurd (h a (List.mem_cons_self ..)) (by omega)
 | n+1,l,hn,h=>by
   have h1:=nodup_len n (l.erase n) (hn.erase n) (fun x hx=>by have:=hn.mem_erase_iff.1 hx;have:=h x this.2;have:x≠n:=(hn.mem_erase_iff.1 hx).1;omega);have h2:l.length-1≤(l.erase n).length:=by rw [List.length_erase];split<;>omega
   omega
theorem rs_len: ∀(rs:List (List Nat)),(∀S∈rs,S≠ [])→rs.length≤rs.flatten.length
 | [],_=>Nat.le_refl _
 |S::rs,h=>by have h1:=rs_len rs (fun T hT=>h T (List.mem_cons_of_mem _ hT));have h2:1≤S.length:=List.length_pos_iff.2 (h S (List.mem_cons_self ..));rw [List.flatten_cons,List.length_append,List.length_cons];omega
theorem WfT.stk {n t} (h:WfT n t) (i:Nat) (hi:i<n) (hw:gi t.at_ i<0):t.st.length<n∧t.nx<n:=by
 obtain ⟨hp,hm⟩:=push_wf h hi hw;have h1:=hp.nn;have h2:(pushT i t).st.length≤n:=by have hn:((pushT i t).st).Nodup:=(List.nodup_append.1 hp.nd).1;exact nodup_len n _ hn fun x hx=>hp.bd x (List.mem_append_left _ hx)
 have h3:(pushT i t).st.length=t.st.length+1:=by simp [pushT]
 have h4:(pushT i t).nx=t.nx+1:=rfl;exact ⟨by omega,by omega⟩
section
variable (pr:Nat→Option (List Val→Hp→FRes)) (lf:Nat)
theorem c59 (hp:noPr pr) (hp235:pr 235=some (pSeq 156 3)) (hp155:pr 155=some pSort) (Hb:Hp) (n:Nat) (ss es:Val) (er:List (List Val)) (adj:List (List (List Val))) (I:Ids) (hI:I.OK Hb.n)
   (hes:IsSl es er) (hg:OkG er adj) (hlen:er.length=n) (hss:okCell ss=true) (hn:n≤400) (hlf:1000000000000000<lf) (htot: ∀l∈adj,l.length≤3000000000000∧ ∀e∈l,0≤toE e∧toE e<n):
   ∀ (e:Nat) (k:Nat) (H:Hp) (t:TS) (i:Nat),i<n→WfT n t→Closed (adjN adj) t.rs→gi t.at_ i<0→neg t.at_≤e→RT Hb n ss es I H t→
     ∃H',EV pr lf (k+e+4) 59 [.ptr I.T I.g 0 8,.int .i64 i] H= .ret (.tup []) H'∧RT Hb n ss es I H' (visitT srtN (adjN adj) e i t)
 |0,k,H,t,i,hi,hw,_,hw0,he,_=>by have:=neg_set t.at_ i 0 (by rw [hw.la];exact hi) hw0 (by omega);omega
 | e + 1,k,H,t,i,hi,hw,hcl,hw0,he,h=>by
  have IH:=c59 hp hp235 hp155 Hb n ss es er adj I hI hes hg hlen hss hn hlf htot e k;unfold EV at IH⊢;have hA: ∀i,i<n→ ∀k∈adjN adj i,k<n:=fun i _=>adjN_lt (fun l hl=>(htot l hl).2) i;have hvis:=fun k hk t hw hc h0 he=>visit_ok srtN srtN_perm hA e k t hk hw hc h0 he;rw [show k+(e+1)+4=(k+e+4)+1 by omega,evalFn_S (E1 pr) okd lf (k+e+4) 59 191 _ H f59 _ (hp 59 (by decide)) (fns_59 pr) rfl rfl];obtain ⟨sv,rv,h⟩:=h;have gT:=h.gT;have gA:=h.gA;have gL:=h.gL;unfold cellsT at gT;obtain ⟨hstl,hnx⟩:=hw.stk i hi hw0;obtain ⟨hpw,him⟩:=push_wf hw hi hw0;have ta:=hI.ta;have tl:=hI.tl;have to:=hI.to;have al:=hI.al;have ao:=hI.ao;have lo:=hI.lo';have ta':=hI.ta.symm;have tl':=hI.tl.symm;have to':=hI.to.symm;have al':=hI.al.symm;have ao':=hI.ao.symm;have lo'':=hI.lo'.symm;have hla:i<t.at_.length:=by rw [hw.la];exact hi
  have hll:i<t.low.length:=by rw [hw.ll];exact hi
  have hnw:IntKind.i64.wrap ((t.nx:Int)+1)=((t.nx+1:Nat):Int):=by rw [wrap64 _ (by omega) (by omega)];rfl
  simp only [go_sem,gT,gA,gL,ta,tl,al,ta',tl',al',hi,hla,hll,hnw,map_set_iC,Nat.le_refl];generalize hH1:Hp.set (Hp.set (Hp.set H I.A _) I.L _) I.T _=H1;have h1:RM Hb n ss es I H1 ⟨t.at_.set i t.nx,t.low.set i t.nx,t.st,t.nx+1,t.rs⟩ (fun k=>decide (k∈t.st)) sv rv:=by rw [←hH1];have a:=(h.stA hI (t.at_.set i t.nx)).stL hI (t.low.set i t.nx);exact a.put hI (Nat.le_refl _) (fun _ _=>rfl) (t.nx+1) a.sk a.rn a.ds
  clear hH1 gT gA gL h;have gT1:=h1.gT;have gA1:=h1.gA;have gL1:=h1.gL;have gO1:=h1.gO;unfold cellsT at gT1;obtain ⟨sv2,H2,e2,sk2,le2,fr2,id2,op2⟩:=h1.sk.push i h1.n0 hstl hn;obtain ⟨p1,p2,p3⟩:=sk2.cell;have frI: ∀j,j<I.n0→H2.get j=H1.get j:=fun j hj=>fr2 j (Nat.lt_of_lt_of_le hj h1.n0) (fun e=>by have:=(h1.sk.id _ e).1;omega);have gT2:H2.get I.T=_:=(frI I.T hI.hi.1).trans gT1;have gO2:H2.get I.O=_:=(frI I.O hI.hi.2.2.2).trans gO1;obtain ⟨r,hr0⟩: ∃r,er[i]? =some r:=⟨er[i]'(by omega),by simp⟩;obtain ⟨x,rows,rfl,hadj,hx,hxs,hee⟩:=hg.row i r hr0;simp only [go_sem,hes.opdV,hes.ix (k:=1) hr0 rfl,hx.opdV,hx.len,bs28,app28,e2,gT1,gO1,gT2,gO2,to,to',hi,op2,p1,p2,h1.sk.opdV,onP_len,onP_set,Nat.le_refl];generalize hH3:Hp.set (Hp.set H2 I.T _) I.O _=H3;have h3:RM Hb n ss es I H3 (pushT i t) (fun k=>decide (k∈(pushT i t).st)) sv2 rv:=by
   rw [←hH3];have a:=h1.put hI (st2:=t.st++ [i]) le2 frI (t.nx+1) sk2 (h1.rn.ext fun s hs=>fr2 s (h1.rn.id s hs).2 (fun e=>h1.ds s s e hs rfl)) (fun s r hs hr e=>by
    rcases id2 s hs with h|h
    · have:=(h1.rn.id r hr).2;omega
    · exact h1.ds s r h hr e)
   exact (a.stO hI (fun k=>if k=i then true else decide (k∈t.st))).cong fun k _=>by by_cases hk:k=i<;>simp [hk,pushT]
  clear hH3 gT2 gO2 frI op2 fr2 id2 sk2 e2 p1 p2 p3 gT1 gA1 gL1 gO1 h1 le2;obtain ⟨hrRR,hto⟩:=htot rows (List.mem_of_getElem? hadj);have hts:adjN adj i=rows.map fun e=>(toE e).toNat:=by simp [adjN,hadj]
  have hw1 :=push_within hw hcl hi hw0;generalize hL:loopC _ _ _ _ _ _ _ _ _ _=L;let vs:=visitT srtN (adjN adj) e;let Q (L:CRes):Prop:= ∃tm H',L= .exit 0 tm H' []∧tm.length=193∧getT tm 0= .ptr I.T I.g 0 8∧getT tm 1= .int .i64 i∧RT Hb n ss es I H' ((adjN adj i).foldl (edgeT vs i) (pushT i t));have hQ:Q L:=by
   subst hL;refine loop_up _ Q
    (fun j tm H1=>tm.length=193∧getT tm 0= .ptr I.T I.g 0 8∧getT tm 1= .int .i64 i∧getT tm 61=x∧getT tm 62= .int .i64 rows.length∧getT tm 63= .int .i64 j∧
     RT Hb n ss es I H1 (((adjN adj i).take j).foldl (edgeT vs i) (pushT i t)))
    rows.length ?_ lf 0 _ _ (Nat.zero_le _) (by omega) ?_
   · rintro j tm H1 hj ⟨hl,h0,h1,h61,h62,h63,sv5,rv5,hM⟩;generalize hB:evalCode _ _ _ _ _ _ tm H1 []=R;by_cases hjn:j<rows.length
     · obtain ⟨r,hr1⟩: ∃r,rows[j]? =some r:=⟨rows[j],by simp [hjn]⟩;have hm:=List.mem_of_getElem? hr1;obtain ⟨t0,t1⟩:=hto r hm;obtain ⟨a1,b1,c1,n1,y,bl,rfl,rfl,hy,-⟩:=hee r hm;obtain ⟨to',rfl⟩: ∃t:Nat,n1=t:=⟨n1.toNat,by have:0≤n1:=t0;omega⟩;have htn:to'<n:=by have:(to':Int)<n:=t1;omega
       have htj:(adjN adj i)[j]? =some to':=by rw [hts,List.getElem?_map,hr1];rfl
       have htake:(adjN adj i).take (j+1)=(adjN adj i).take j++ [to']:=by rw [List.take_add_one,htj];rfl
       rw [htake,List.foldl_append,List.foldl_cons,List.foldl_nil] at*;have hW:=Within.fold hw hi hw0 vs (fun k hk t' hw' hc' hk0 hn=>hvis k hk t' hw' hc' hk0 (by omega)) ((adjN adj i).take j) [] _ (fun k hk=>hA i hi k (List.mem_of_mem_take hk)) hw1;generalize ((adjN adj i).take j).foldl (edgeT vs i) (pushT i t)=tj at*;have hlt:decide ((j:Int)<(rows.length:Int))=true:=by simp;omega
       have hwr:IntKind.i64.wrap ((j:Int)+1)=((j+1:Nat):Int):=by rw [wrap64 _ (by omega) (by omega)];rfl
       have gT:=hM.gT;have gA:=hM.gA;have gL:=hM.gL;have gO:=hM.gO;unfold cellsT at gT;have fa:=get_iC (l:=tj.at_) (i:=to') (by rw [hW.wf.la];exact htn);have fl:=get_iC (l:=tj.low) (i:=i) (by rw [hW.wf.ll];exact hi);have fll:i<tj.low.length:=by rw [hW.wf.ll];exact hi
       have fo:=onP_get (n:=n) (fun k=>decide (k∈tj.st)) htn
       cases hc:decide (gi tj.at_ to'<0) with
       | true=>
         have hc2:gi tj.at_ to'<0:=by simpa using hc
         have hng:=hW.ng;obtain ⟨H5,h5,sv6,rv6,h6⟩:=IH H1 tj to' htn hW.wf hW.cl hc2 (by omega) ⟨sv5,rv5,hM⟩;have h7:=h6.gc hI H1.n (.tup []) hM.n0;have hV:=hvis to' htn tj hW.wf hW.cl hc2 (by omega);simp only [go_sem,hl,h0,h1,h61,h62,h63,hx.opdV,hy.opdV,hy.okCell,hlt,hwr,hx.ix (k:=4) hr1 rfl,gT,gA,htn,fa,hc,h5] at hB;generalize gc H1.n (.tup []) H5=H7 at*;have hed:edgeT vs i tj to'= {vs to' tj with low:=(vs to' tj).low.set i (min (gi (vs to' tj).low i) (gi (vs to' tj).low to'))}:=by unfold edgeT;rw [if_pos hc2]
         rw [hed];have hVw:=hV.wf;change RM Hb n ss es I H7 (vs to' tj) (fun k=>decide (k∈(vs to' tj).st)) sv6 rv6 at h7;change WfT n (vs to' tj) at hVw;generalize vs to' tj=t7 at*;have gT7:=h7.gT;have gL7:=h7.gL;unfold cellsT at gT7;have fl7:=get_iC (l:=t7.low) (i:=i) (by rw [hVw.ll];exact hi);have fk7:=get_iC (l:=t7.low) (i:=to') (by rw [hVw.ll];exact htn);have fll7:i<t7.low.length:=by rw [hVw.ll];exact hi
         simp only [go_sem,hl,h0,h1,h61,h62,h63,hwr,gT7,gL7,hi,htn,fl7,fk7,fll7,map_set_iC,Nat.le_refl] at hB;subst hB;refine .inl ⟨_,_,rfl,hjn,?_⟩;simp only [go_sem,hl,h0,h1,h61,h62,hwr];exact ⟨sv6,rv6,h7.stL hI _⟩
       | false=>
         have hc2: ¬gi tj.at_ to'<0:=by simpa using hc
         cases hm:decide (to'∈tj.st) with
         | true=>
           have hm2:to'∈tj.st:=by simpa using hm
           have hed:edgeT vs i tj to'= {tj with low:=tj.low.set i (min (gi tj.low i) (gi tj.at_ to'))}:=by unfold edgeT;rw [if_neg hc2,if_pos hm2]
           rw [hed];simp only [hm] at fo;simp only [go_sem,hl,h0,h1,h61,h62,h63,hx.opdV,hy.opdV,hy.okCell,hlt,hwr,hx.ix (k:=4) hr1 rfl,gT,gA,gL,gO,hi,htn,fa,fl,fo,fll,hc,map_set_iC,Nat.le_refl] at hB;subst hB;refine .inl ⟨_,_,rfl,hjn,?_⟩;simp only [go_sem,hl,h0,h1,h61,h62,hwr];exact ⟨sv5,rv5,hM.stL hI _⟩
         | false=>
           have hm2: ¬to'∈tj.st:=by simpa using hm
           have hed:edgeT vs i tj to'=tj:=by unfold edgeT;rw [if_neg hc2,if_neg hm2]
           rw [hed];simp only [hm] at fo;simp only [go_sem,hl,h0,h1,h61,h62,h63,hx.opdV,hy.opdV,hy.okCell,hlt,hwr,hx.ix (k:=4) hr1 rfl,gT,gA,gO,htn,fa,fo,hc] at hB;subst hB;refine .inl ⟨_,_,rfl,hjn,?_⟩;simp only [go_sem,hl,h0,h1,h61,h62,hwr];exact ⟨sv5,rv5,hM⟩
     · have hj3:j=rows.length:=by omega
       subst hj3;have hlt:decide ((rows.length:Int)<(rows.length:Int))=false:=by simp
       simp only [go_sem,hl,h62,h63,hlt] at hB;subst hB;have hall:(adjN adj i).take rows.length=adjN adj i:=List.take_of_length_le (by rw [hts];simp);rw [hall] at hM;refine .inr ⟨rfl,_,_,rfl,?_⟩;simp only [go_sem,hl,h0,h1];exact ⟨sv5,rv5,hM⟩
   · simp only [go_sem];exact ⟨rfl,sv2,rv,h3⟩
  obtain ⟨tm,H4,rfl,hl,h0,h1,hRT⟩:=hQ;have hW:=Within.fold hw hi hw0 vs (fun k hk t' hw' hc' hk0 hn=>hvis k hk t' hw' hc' hk0 (by omega)) (adjN adj i) [] _ (hA i hi) hw1;rw [show visitT srtN (adjN adj) (e+1) i t=endT srtN i ((adjN adj i).foldl (edgeT vs i) (pushT i t)) from rfl];generalize (adjN adj i).foldl (edgeT vs i) (pushT i t)=t4 at*;obtain ⟨sv4,rv4,h4⟩:=hRT;have gT4:=h4.gT;have gA4:=h4.gA;have gL4:=h4.gL;unfold cellsT at gT4;have fa:=get_iC (l:=t4.at_) (i:=i) (by rw [hW.wf.la];exact hi);have fl:=get_iC (l:=t4.low) (i:=i) (by rw [hW.wf.ll];exact hi);simp only [go_sem,hl,h0,h1,gT4,gA4,gL4,hi,fa,fl]
  cases hc:decide (gi t4.low i<gi t4.at_ i) with
  | true=>
    have hc2:gi t4.low i<gi t4.at_ i:=by simpa using hc
    simp only [go_sem,hc];exact ⟨H4,rfl,by unfold endT;rw [if_pos hc2];exact ⟨sv4,rv4,h4⟩⟩
  |false=>
  have hc2: ¬gi t4.low i<gi t4.at_ i:=by simpa using hc
  obtain ⟨ext,hst,-⟩:=hW.ex;have hni:i∉t.st:=fun hm=>by have:=(hw.me i hi).2 (List.mem_append_left _ hm);omega
  have hist:i∈t4.st:=by rw [hst];simp
  have hsl:t4.st.length≤n:=nodup_len n _ (List.nodup_append.1 hW.wf.nd).1 (fun x hx=>hW.wf.bd x (List.mem_append_left _ hx));obtain ⟨m,hm,hmi⟩:=c99 pr lf hp (k+e+3) sv4 (nI t4.st) i H4 h4.sk.KV (by rw [nI_len];omega) (by rw [nI_len];omega);unfold EV at hm;obtain ⟨p,rfl,hpi⟩: ∃p:Nat,m=p∧p=t4.st.idxOf i:=by
   rcases hmi with ⟨h,-⟩|⟨j,h,h1,h2⟩
   · exact absurd (by unfold nI;exact List.mem_map.2 ⟨i,hist,rfl⟩) h
   · exact ⟨j,h,idx_of h1 h2⟩
  have hpl:p<t4.st.length:=by rw [hpi];exact List.idxOf_lt_length_of_mem hist
  obtain ⟨id,g,g',rfl,s1,s2,s3,s4,s5,-⟩:=h4.sk.part pr p hpl;have q101:=c101 pr lf hp (k+e+3) (.ref id g (p*1) 1 (t4.st.length-p) false) H4 rfl rfl (fun _=>rfl);unfold EV at q101;have r101:=fun tm=>retC_keep (E1 pr) 101 H4.n tm (.fn (.func 156) [] [.ptr H4.n (genOf 28) 0 1]) (H4.push (.cells (genOf 28) (genOf 28) 0 [.ref id g (p*1) 1 (t4.st.length-p) false])) (by kernel_rfl) (by show (true&&(Nat.blt H4.n H4.n&&true))=false;rw [blt_ge (Nat.le_refl _)];rfl);have hne:nI (t4.st.drop p)≠ []:=by intro e;have:=congrArg List.length e;rw [nI_len] at this;simp at this;omega
  obtain ⟨H6,q100,e6⟩:=c100 pr lf hp hp235 hp155 (k+e+1) (.ptr H4.n (genOf 28) 0 1) (.ref id g (p*1) 1 (t4.st.length-p) false) (nI (t4.st.drop p)) (H4.push (.cells (genOf 28) (genOf 28) 0 [.ref id g (p*1) 1 (t4.st.length-p) false]))
   (by simp only [rowAtP_ptr,get_push_new,rowH_cells,Nat.le_refl,if_true,loadC_one];rfl) (s2 _ (get_push_old _ _ _ s3)) hne rfl (by rw [nI_len,List.length_drop];omega)
  have h6:=h4.ext hI ((Ext.push H4 _).trans e6);clear e6;have hset:Val.sl ((sortI (nI (t4.st.drop p))).map iR) false=setV (srtN (t4.st.drop p)):=by unfold setV;rw [nI_srtN]
  rw [n_push] at q100;rw [Nat.mul_one] at*;simp only [go_sem,hc,h0,h1,hl,gT4,hm,gc_self,und28s,s1,q101,r101,q100];rw [hset];generalize hS:srtN (t4.st.drop p)=S;have hSlen:(sortI (nI (t4.st.drop p))).length=S.length:=by rw [←hS,←nI_srtN,nI_len]
  rw [hSlen];have hSl:S.length≤n:=by rw [←hS,(srtN_perm _).length_eq];simp;omega
  have hSn: ∀x∈S,x<n:=fun x hx=>by rw [←hS] at hx;exact hW.wf.bd x (List.mem_append_left _ (List.mem_of_mem_drop ((srtN_perm _).mem_iff.1 hx)))
  have hSV:setV S= .sl ((nI S).map iR) false:=rfl;have hSV2:((nI S).map iR).length=S.length:=by simp [nI]
  have hStk:=h6.sk.part pr p hpl;obtain ⟨id',g2,g3,hid,-,-,u3,u4,u5,-⟩:=hStk;cases hid;have gT6:=h6.gT;unfold cellsT at gT6;generalize hL:loopC _ _ _ _ _ _ _ _ _ _=L;let Q (L:CRes):Prop:= ∃tm H',L= .exit 3 tm H' []∧tm.length=193∧getT tm 0= .ptr I.T I.g 0 8∧getT tm 7= .int .i64 p∧getT tm 8=setV S∧RM Hb n ss es I H' t4 (fun k=>decide (k∈t4.st)&& !decide (k∈S)) (.ref id g 0 1 t4.st.length false) rv4;have hQ:Q L:=by
   subst hL;refine loop_up _ Q
    (fun j tm H1=>tm.length=193∧getT tm 0= .ptr I.T I.g 0 8∧getT tm 7= .int .i64 p∧getT tm 8=setV S∧getT tm 161=setV S∧getT tm 162= .int .i64 S.length∧getT tm 163= .int .i64 j∧
     RM Hb n ss es I H1 t4 (fun k=>decide (k∈t4.st)&& !decide (k∈S.take j)) (.ref id g 0 1 t4.st.length false) rv4)
    S.length ?_ lf 0 _ _ (Nat.zero_le _) (by omega) ?_
   · rintro j tm H1 hj ⟨hl,h0,h7,h8,h161,h162,h163,hM⟩;rw [hSV] at h161;generalize hB:evalCode _ _ _ _ _ _ tm H1 []=R;by_cases hjn:j<S.length
     · obtain ⟨a,ha⟩: ∃a,S[j]? =some a:=⟨S[j],by simp [hjn]⟩;have han:=hSn a (List.mem_of_getElem? ha);have hrow:((nI S).map iR)[j]? =some (iR (a:Int)):=by simp [nI,ha]
       have hix:ixA 1 (.sl ((nI S).map iR) false) (.int .i64 (j:Nat))=some (.fptr (iR (a:Int)) 0):=IsSl.ix (.inr ⟨false,rfl⟩) hrow rfl;have hlt:decide ((j:Int)<(S.length:Int))=true:=by simp;omega
       have hwr:IntKind.i64.wrap ((j:Int)+1)=((j+1:Nat):Int):=by rw [wrap64 _ (by omega) (by omega)];rfl
       have gT:=hM.gT;have gO:=hM.gO;unfold cellsT at gT;have hir:iR (a:Int)= [.int .i64 a]:=rfl;rw [hir] at hix;simp only [go_sem,hl,h0,h161,h162,h163,hix,hlt,hwr,gT,gO,han,onP_len,onP_set,Nat.le_refl] at hB;subst hB;refine .inl ⟨_,_,rfl,hjn,?_⟩;simp only [go_sem,hl,h0,h7,h8,h161,h162,hwr,hSV];refine (hM.stO hI _).cong fun k _=> ?_;rw [List.take_add_one,ha];by_cases hk:k=a<;>simp [hk]
     · have hj3:j=S.length:=by omega
       subst hj3;have hlt:decide ((S.length:Int)<(S.length:Int))=false:=by simp
       simp only [go_sem,hl,h162,h163,hlt] at hB;subst hB;rw [List.take_length] at hM;refine .inr ⟨rfl,_,_,rfl,?_⟩;simp only [go_sem,hl,h0,h7,h8];exact hM
   · simp only [go_sem,hl,h0,hSV,Int.natCast_zero];exact h6.cong fun k _=>by simp
  obtain ⟨tm,H8,rfl,hl,h0,h7,h8,hM⟩:=hQ;have gT8:=hM.gT;unfold cellsT at gT8;obtain ⟨id',g2,g3,hid,-,-,u3,u4,u5,-⟩:=hM.sk.part pr p hpl;cases hid;have b36:=bs36 pr S H8;have hok:okCell (setV S)=true:=rfl;have a36:=app36 pr rv4 (setV S) H8 hok;have hrl:t4.rs.length≤400:=by have h1:=rs_len t4.rs hW.wf.ne;have h2:=nodup_len n t4.rs.flatten (List.nodup_append.1 hW.wf.nd).2.1 (fun x hx=>hW.wf.bd x (List.mem_append_right _ hx));omega
  have op8: ∀t,Go.PV.opdV t (setV S)=setV S:=fun _=>rfl;have fz8:frzV depthP (setV S)=true:=rfl;obtain ⟨rv9,H9,e9,rn9,le9,fr9,id9,op9⟩:=hM.rn.push S hM.n0 hrl;obtain ⟨p1,p2,p3⟩:=rn9.cell;have frI: ∀j,j<I.n0→H9.get j=H8.get j:=fun j hj=>fr9 j (Nat.lt_of_lt_of_le hj hM.n0) (fun e=>by have:=(hM.rn.id _ e).1;omega);have gT9:H9.get I.T=_:=(frI I.T hI.hi.1).trans gT8;simp only [go_sem,hl,h0,h7,h8,gT8,gT9,und28s,u4,b36,a36,e9,op8,fz8,op9,p1,p2,hM.rn.opdV,set_setH,Nat.le_refl];refine ⟨_,rfl,.ref id g 0 1 p false,rv9,?_⟩;have hend:endT srtN i t4=⟨t4.at_,t4.low,t4.st.take p,t4.nx,t4.rs++ [S]⟩:=by unfold endT;rw [if_neg hc2,←hpi,hS]
  rw [hend];have hsk:StkV I.n0 n H9 (.ref id g 0 1 p false) (t4.st.take p):=u5.ext fun s hs=>fr9 s (by cases hs;exact u3) (fun e=>by cases hs;exact hM.ds _ _ rfl e rfl);refine (hM.put hI le9 frI t4.nx hsk rn9 ?_).cong fun k _=> ?_
  · intro s r hs hr e;cases hs;rcases id9 r hr with h|h
    · omega
    · exact hM.ds _ _ rfl h e
  · have hnd:t4.st.Nodup:=(List.nodup_append.1 hW.wf.nd).1;rw [←hS];have e1:(k∈srtN (t4.st.drop p))↔k∈t4.st.drop p:=(srtN_perm _).mem_iff;have e2:k∈t4.st↔k∈t4.st.take p∨k∈t4.st.drop p:=by rw [←List.mem_append,List.take_append_drop]
    have e3:k∈t4.st.take p→k∉t4.st.drop p:=fun h1 h2=>by rw [←List.take_append_drop p t4.st,List.nodup_append] at hnd;exact hnd.2.2 k h1 k h2 rfl
    simp only [e1,e2];by_cases h1:k∈t4.st.take p
    · simp [h1,e3 h1]
    · by_cases h2:k∈t4.st.drop p<;>simp [h1,h2]
end
end Go.PV
