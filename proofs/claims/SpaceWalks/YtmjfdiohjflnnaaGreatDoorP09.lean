/- A part of the proof: GU, GV, GM3, GX, GY, GYB, KB1, KB2. -/
import Derived.ChangeSame
import Derived.KernelRfl
import Derived.LaidSub
import Derived.Lib.LaidTab
import Derived.WideKeyArgs
import Derived.Test.YtmjfdiohjflnnaaGreatDoorP03
import Derived.Test.YtmjfdiohjflnnaaGreatDoorP04
import Derived.Test.YtmjfdiohjflnnaaGreatDoorP07
import Derived.Test.YtmjfdiohjflnnaaGreatDoorP08
set_option linter.all false
namespace Go.PV
open Go Go.Proofs.Tryz
set_option maxRecDepth 100000
set_option maxHeartbeats 1000000
section
variable (E:Env) (cf:CallF) (fid:Nat)
@[go_sem ↓] theorem rops_heap (ops:Array Oper) (n0 m len:Nat) (dst op ty pos after) (os:List Oper) (aa rs) (tm X:List Val) (H ds) (hl:tm.length=len):
  ropsC E cf fid ops n0 m len (⟨dst,op,ty,pos,after,none⟩::os) (.heap::aa) (none::rs) tm X H ds=
   ifC (callBeside E n0 m ⟨dst,op,ty,pos,after,none⟩ tm H)
    (fun _=>ifC (chkA E ⟨dst,op,ty,pos,after,none⟩ .heap tm) (fun _=>nxtD E fid dst (evalOp E cf fid ⟨dst,op,ty,pos,after,none⟩ tm H) (fun tm H=>ifC (allRsv n0 H m&&Nat.ble (n0+m) H.n) (fun _=>ropsC E cf fid ops n0 m len os aa rs tm X H ds) (fun _=> .fail) ⟨⟩ ⟨⟩) ⟨⟩) (fun _=> .fail) ⟨⟩ ⟨⟩)
    (fun _=> .fail) ⟨⟩ ⟨⟩:=by
 have h1:(tm++X).take len=tm:=by rw [←hl];simp
 have h2:(tm++X).drop len=X:=by rw [←hl];simp
 unfold ropsC;simp only [runR,stepR,h1]
 cases callBeside E n0 m ⟨dst,op,ty,pos,after,none⟩ tm H with
 |false=>rfl
 | true=>
   simp only [stepP,h1,h2,stepA,wantedP,ifC]
   cases chkA E ⟨dst,op,ty,pos,after,none⟩ .heap tm with
   |false=>rfl
   | true=>
     simp only [nxtD]
     cases evalOp E cf fid ⟨dst,op,ty,pos,after,none⟩ tm H with
     | ok v tm' H'=>
       simp only [stepOk,put2]
       cases putR E fid dst v tm' with
       |none=>rfl
       | some tm2=>
         simp only [];cases allRsv n0 H' m&&Nat.ble (n0+m) H'.n<;>rfl
     |pan=>rfl
     |fail=>rfl
end
@[go_sem] theorem callBeside_fn (E:Env) (n0 m dst g) (aa:List Operand) (ts ty pos after gd tm H):callBeside E n0 m ⟨dst,.call ⟨.value (.func g),aa.toArray,ts⟩,ty,pos,after,gd⟩ tm H=(Nat.beq H.n (n0+m)&&(aa.map (opd E tm)).all (idsB n0 20)):=by simp [callBeside,opd]
@[go_sem] theorem idsB_int (n k a):idsB n 20 (.int k a)=true:=rfl
@[go_sem] theorem idsB_sl (n a b):idsB n 20 (.sl a b)=true:=rfl
def mkBox (loc:Bool) (v:Val) (id:Nat):Option (Val×Val):=match loc,v.cells.all okCell with
    |false,true=>some (.ptr id 0 0 v.cells.length,.agg v.cells)
    |_,_=>none
@[go_sem ↓] theorem makeAt_box (E fid dst t x ty pos after g tm id):makeAt E fid ⟨dst,.box t x,ty,pos,after,g⟩ tm id=mkBox (locO E fid dst) (opd E tm x) id:=rfl
@[go_sem] theorem mkBox_agg (cs id) (h:cs.all okCell=true):mkBox false (.agg cs) id=some (.ptr id 0 0 cs.length,.agg cs):=by simp [mkBox,Val.cells,h]
theorem fill3g (n:Nat) (P:Hp) (a b c:List Val) (H':Hp) (h:fillX n [.agg a,.agg b,.agg c] P=H') (h1:P.get n=some .rsv) (h2:P.get (n+1)=some .rsv) (h3:P.get (n+2)=some .rsv):
  H'.n=P.n∧H'.get n=some (.cells 0 0 0 a)∧H'.get (n+1)=some (.cells 0 0 0 b)∧H'.get (n+2)=some (.cells 0 0 0 c)∧ ∀i,i≠n→i≠n+1→i≠n+2→H'.get i=P.get i:=by
 have:H'=((P.set n (.cells 0 0 0 a)).set (n+1) (.cells 0 0 0 b)).set (n+2) (.cells 0 0 0 c):=by rw [←h];rfl
 subst this;have n1:n≠n+1:=by omega
 have n2:n≠n+2:=by omega
 have n3:n+1≠n+2:=by omega
 refine ⟨by simp only [n_set],?_,?_,?_,fun i hi hj hk=> ?_⟩
 · rw [get_set_ne _ _ _ _ n2,get_set_ne _ _ _ _ n1,get_set_same _ _ _ (by rw [h1];rfl)]
 · rw [get_set_ne _ _ _ _ n3,get_set_same _ _ _ (by rw [get_set_ne _ _ _ _ n1.symm,h2];rfl)]
 · rw [get_set_same _ _ _ (by rw [get_set_ne _ _ _ _ n3.symm,get_set_ne _ _ _ _ n2.symm,h3];rfl)]
 · rw [get_set_ne _ _ _ _ hk,get_set_ne _ _ _ _ hj,get_set_ne _ _ _ _ hi]
theorem pushR3 (H:Hp):(pushR 3 H).n=H.n+3∧(pushR 3 H).get H.n=some .rsv∧(pushR 3 H).get (H.n+1)=some .rsv∧(pushR 3 H).get (H.n+2)=some .rsv∧ ∀i,i<H.n→(pushR 3 H).get i=H.get i:=by
 refine ⟨rfl,?_,?_,?_,fun i hi=> ?_⟩
 · show (((H.push .rsv).push .rsv).push .rsv).get H.n=_;rw [get_push_old _ _ _ (by simp [n_push];omega),get_push_old _ _ _ (by simp [n_push]),get_push_new]
 · show (((H.push .rsv).push .rsv).push .rsv).get (H.push .rsv).n=_;rw [get_push_old _ _ _ (by simp [n_push]),get_push_new]
 · show (((H.push .rsv).push .rsv).push .rsv).get ((H.push .rsv).push .rsv).n=_;rw [get_push_new]
 · show (((H.push .rsv).push .rsv).push .rsv).get i=_;rw [get_push_old _ _ _ (by simp [n_push];omega),get_push_old _ _ _ (by simp [n_push];omega),get_push_old _ _ _ hi]
theorem RM.stR {Hb n ss es I H t on sv rv id o rs2} (hI:I.OK Hb.n) (h:RM Hb n ss es I H t on sv rv) (hid:idOf rv=some id) (hr:RndV I.n0 (H.set id o) rv rs2):RM Hb n ss es I (H.set id o) {t with rs:=rs2} on sv rv:=by have h0:=(h.rn.id id hid).1;obtain ⟨a,b,c,d⟩:=hI.lo;obtain ⟨a',b',c',d'⟩:=hI.hi;exact {n0:=by rw [n_set];exact h.n0,gT:=by rw [get_set_ne _ _ _ _ (by omega)];exact h.gT,gA:=by rw [get_set_ne _ _ _ _ (by omega)];exact h.gA,gL:=by rw [get_set_ne _ _ _ _ (by omega)];exact h.gL,gO:=by rw [get_set_ne _ _ _ _ (by omega)];exact h.gO,sk:=h.sk.ext fun s hs=>get_set_ne _ _ _ _ (h.ds s id hs hid),rn:=hr,ds:=h.ds,old:=fun i hi=>by rw [get_set_ne _ _ _ _ (by omega)];exact h.old i hi}
def hdK (S:List Nat):Int:=((S.headD 0:Nat):Int)
theorem keyOf_set {S:List Nat} (h:S≠ []):keyOf (setV S)=some (hdK S):=by
 cases S with
 |nil=>exact absurd rfl h
 |cons a S=>rfl
theorem heads_nodup: ∀(rs:List (List Nat)),(∀S∈rs,S≠ [])→rs.flatten.Nodup→(rs.map hdK).Nodup
 | [],_,_=>List.nodup_nil
 | S ::rs,h,hn=>by
   rw [List.flatten_cons,List.nodup_append] at hn;rw [List.map_cons,List.nodup_cons];refine ⟨fun hm=> ?_,heads_nodup rs (fun T hT=>h T (List.mem_cons_of_mem _ hT)) hn.2.1⟩;obtain ⟨T,hT,e⟩:=List.mem_map.1 hm;have hS:=h S (List.mem_cons_self ..);have hT':=h T (List.mem_cons_of_mem _ hT)
   cases S with
   |nil=>exact hS rfl
   | cons a S=>cases T with
     |nil=>exact hT' rfl
     | cons b T=>
       have:b=a:=by simp [hdK] at e;omega
       exact hn.2.2 a (List.mem_cons_self ..) b (List.mem_flatten.2 ⟨_,hT,List.mem_cons_self ..⟩) this.symm
def MsOf (X rs:List (List Nat)):Prop:=rs.Perm X∧rs.Pairwise fun S T=>hdK S≤hdK T
theorem msOf (X:List (List Nat)):MsOf X (X.mergeSort fun S T=>decide (hdK S≤hdK T)):=by refine ⟨List.mergeSort_perm _ _,?_⟩;have:=List.pairwise_mergeSort (le:=fun S T:List Nat=>decide (hdK S≤hdK T)) (fun a b c h1 h2=>by simp at h1 h2⊢;omega) (fun a b=>by simp;omega) X;exact this.imp fun h=>by simpa using h
theorem pSortF_ok (H:Hp) (id g d:Nat) (rs:List (List Nat)) (h:H.get id=some (.cells g d 0 (rs.map setV))) (hd:d≤g) (hne: ∀S∈rs,S≠ []) (hnd:rs.flatten.Nodup) (hr:rs≠ []) (hb: ∀S∈rs,∀x∈S,x<1000000) (hl:rs.length<4611686018427387904):
  ∃rs':List (List Nat),MsOf rs rs'∧pSortF 61 [.ref id g 0 1 rs.length false,.fn (.func 61) [] []] H= .ret (.tup []) (H.set id (.cells g g 0 (rs'.map setV))):=by
 have h1:pairsK (rs.map setV)=some (rs.map fun S=>(hdK S,setV S)):=by have:=pairsK_map (l:=rs.map fun S=>(hdK S,setV S)) (by intro p hp;obtain ⟨S,hS,rfl⟩:=List.mem_map.1 hp;exact keyOf_set (hne S hS));rw [List.map_map] at this;exact this
 have h2:(rs.map fun S=>(hdK S,setV S)).mergeSort leK=(rs.mergeSort fun S T=>decide (hdK S≤hdK T)).map fun S=>(hdK S,setV S):=
  (List.map_mergeSort (f:=fun S=>(hdK S,setV S)) (fun _ _ _ _=>rfl)).symm
 have h3:((rs.map fun S=>(hdK S,setV S)).mergeSort leK).map (·.2)=(rs.mergeSort fun S T=>decide (hdK S≤hdK T)).map setV:=by rw [h2,List.map_map];rfl
 have h4:=List.mergeSort_perm rs fun S T=>decide (hdK S≤hdK T);have h5:(decide ((rs.map fun S=>(hdK S,setV S)).map (·.1)).Nodup&&smallK (rs.map fun S=>(hdK S,setV S)))=true:=by
  rw [Bool.and_eq_true,decide_eq_true_eq];refine ⟨by rw [List.map_map];exact heads_nodup rs hne hnd,?_⟩;unfold smallK;rw [List.all_eq_true];intro p hp;obtain ⟨S,hS,rfl⟩:=List.mem_map.1 hp;have hS':=hne S hS
  cases S with
  |nil=>exact absurd rfl hS'
  | cons a S=>
    have:=hb _ hS a (List.mem_cons_self ..);simp [hdK];omega
 have e3:sub (rs.map setV) 0 rs.length=some (rs.map setV):=by simp [sub,List.take_of_length_le]
 have e4:upd (rs.map setV) 0 ((rs.mergeSort fun S T=>decide (hdK S≤hdK T)).map setV)=some ((rs.mergeSort fun S T=>decide (hdK S≤hdK T)).map setV):=upd_all _ _ (by simp);refine ⟨rs.mergeSort fun S T=>decide (hdK S≤hdK T),msOf rs,?_⟩;obtain ⟨m,hm⟩: ∃m,rs.length=m+1:=⟨rs.length-1,by have:=List.length_pos_iff.2 hr;omega⟩;rw [hm] at e3 hl⊢;simp only [pSortF,h,e3,h1,h5,h3,e4,fL_eq,fH_eq];simp [hd,hl]
section
variable (pr:Nat→Option (List Val→Hp→FRes)) (lf:Nat)
theorem bu119 (ss es:Val) (sr er) (hs:IsSl ss sr) (he:IsSl es er) (a1 a2 a3 a4 a5 b1 b2 b3 b4 b5 c1 c2 c3 c4 c5:Nat) (x y z:Bool):
  buildP (E1 pr) 119 [(0,.agg [ss,es]),(1,.ref a1 a2 a3 a4 a5 x),(2,.ref b1 b2 b3 b4 b5 y),(4,.ref c1 c2 c3 c4 c5 z)]=
   some (.agg [ss,es,.ref a1 a2 a3 a4 a5 x,.ref b1 b2 b3 b4 b5 y,.nilsl,.ref c1 c2 c3 c4 c5 z,.int .i64 0,.nilsl]):=by
 rcases hs with ⟨rfl,rfl⟩|⟨c,rfl⟩<;>rcases he with ⟨rfl,rfl⟩|⟨d,rfl⟩<;>kernel_rfl
theorem ms86 (N:Nat) (tm H) (h:N≤4294967296):opMakeSlice (E1 pr) 86 (.int .i64 (N:Nat)) (.int .i64 (N:Nat)) tm H= .ok (.ref H.n 0 0 1 N false) tm (H.push (.cells 0 0 0 (List.replicate N (.bool false)))):=
 makeSlice_sl (E1 pr) 86 4 N t4 _ tm H (by kernel_rfl) (by kernel_rfl) (by kernel_rfl) rfl rfl rfl (by show N*2≤roomN;unfold roomN;omega)
@[go_sem] theorem gd_37_2 (ops:List Oper) (cf tm H ds) (h:tm.length=44):goDrawn (E1 pr) cf 37 ops.toArray (okd 37 2) tm H ds=ropsC (E1 pr) cf 37 ops.toArray H.n 3 44 ops [.loc 1,.frz,.plain,.heap,.plain,.plain,.plain,.plain,.plain,.plain,.plain] [none,none,none,none,none,some 0,none,some 1,none,some 2,none] tm [.tup [],.tup [],.tup []] (pushR 3 H) ds:=by rw [(show okd 37 2=some (mkDI (opsAt f37 2) 3 [11,1,0,2,0,6,0,14,0,22,0]) by kernel_rfl),goDrawn_rs _ _ _ ops _ tm H ds 44 h (by kernel_rfl) (by kernel_rfl)];rfl
theorem c37 (hp:noPr pr) (hp98:pr 98=none) (hp153:pr 153=none) (hp235:pr 235=some (pSeq 156 3)) (hp155:pr 155=some pSort) (hp60:pr 60=some (pSortF 61)) (ss es:Val) (sr er:List (List Val)) (adj:List (List (List Val)))
  (hs:IsSl ss sr) (hs0:okCell ss=true) (hes:IsSl es er) (hg:OkG er adj) (n:Nat) (hsr:sr.length=n) (hlen:er.length=n) (hn:n≤400) (h1n:1≤n) (hlf:1000000000000000<lf) (htot: ∀l∈adj,l.length≤3000000000000∧ ∀e∈l,0≤toE e∧toE e<n) (k:Nat) (H:Hp):
  ∃(H':Hp) (id g d:Nat) (rs:List (List Nat)),EV pr lf (k+n+5) 37 [.agg [ss,es]] H= .ret (.ref id g 0 1 rs.length false) H'∧MsOf (roundsT srtN (adjN adj) n n).rs rs∧H'.get id=some (.cells g d 0 (rs.map setV))∧d≤g∧H.n≤id∧H.n≤H'.n∧ ∀i,i<H.n→H'.get i=H.get i:=by
 unfold EV;rw [evalFn_S (E1 pr) okd lf (k+n+4) 37 43 _ H f37 _ (hp 37 (by decide)) (fns_37 pr) rfl rfl];obtain ⟨P0,P1,P2,P3,P4⟩:=pushR3 H;obtain ⟨H1,q58,n1,g1,o1⟩:=c58 pr lf hp153 hp98 (hp 58 (by decide)) (k+n+1) n (pushR 3 H) hn h1n (by omega);unfold EV at q58;have r58:=fun tm=>retC_keep (E1 pr) 58 (pushR 3 H).n tm (.ref (pushR 3 H).n 0 0 1 n false) H1 (by kernel_rfl) (idsB_ref _ _ _ _ _ _ _ (Nat.le_refl _));rw [P0] at n1 g1 o1 q58 r58;have a1:H1.get H.n=some .rsv:=by rw [o1 _ (by omega),P1]
 have a2:H1.get (H.n+1)=some .rsv:=by rw [o1 _ (by omega),P2]
 have a3:H1.get (H.n+2)=some .rsv:=by rw [o1 _ (by omega),P3]
 have hall:allRsv H.n H1 3=true:=by simp only [allRsv,a1,a2,a3,Nat.add_zero,Bool.and_true]
 have hble:Nat.ble (H.n+3) H1.n=true:=Nat.ble_eq_true_of_le (by omega);have m28:=fun tm H=>ms28 pr n tm H (by omega);have m86:=fun tm H=>ms86 pr n tm H (by omega);have b119:=bu119 pr ss es sr er hs hes;simp only [go_sem,hs.opdV,hs.okCell,hes.okCell,hs.len,hsr,bs28,P0,q58,r58,hall,hble,m28,m86,b119];generalize hF:fillX _ _ _=F;obtain ⟨f0,f1,f2,f3,f4⟩:=fill3g H.n H1 _ _ _ F hF a1 a2 a3;have hA: ∀i,i<n→ ∀k∈adjN adj i,k<n:=fun i _=>adjN_lt (fun l hl=>(htot l hl).2) i;let I:Ids:=⟨H.n+2,0,H.n+3,H.n,H.n+1,H.n+4⟩;have hI:I.OK H.n:=⟨⟨Nat.le_add_right _ _,Nat.le_add_right _ _,Nat.le_refl _,Nat.le_add_right _ _⟩,⟨by show H.n+2<H.n+4;omega,by show H.n+3<H.n+4;omega,by show H.n<H.n+4;omega,by show H.n+1<H.n+4;omega⟩,
  by show H.n+2≠H.n+3;omega,by show H.n+2≠H.n;omega,by show H.n+2≠H.n+1;omega,by show H.n+3≠H.n;omega,by show H.n+3≠H.n+1;omega,by show H.n≠H.n+1;omega⟩
 have hF0:RM H n ss es I F (roundsT srtN (adjN adj) n 0) (fun k=>decide (k∈(roundsT srtN (adjN adj) n 0).st)) .nilsl .nilsl:=by
  refine {n0:=by show H.n+4≤F.n;omega,gT:=f3,gA:= ?_,gL:= ?_,gO:= ?_,sk:= .inl ⟨rfl,rfl⟩,rn:= .inl ⟨rfl,rfl⟩,ds:=fun s r h=>(by cases h),old:=fun i hi=>by rw [f4 i (by omega) (by omega) (by omega),o1 i (by omega),P4 i hi]}
  · show F.get (H.n+3)=some (.cells 0 0 0 ((List.replicate n (-1)).map iC));rw [f4 _ (by omega) (by omega) (by omega),g1,List.map_replicate];rfl
  · show F.get H.n=some (.cells 0 0 0 ((List.replicate n 0).map iC));rw [f1,List.map_replicate];rfl
  · show F.get (H.n+1)=some (.cells 0 0 0 (onP n fun k=>decide (k∈([]:List Nat))));rw [f2];have:onP n (fun k=>decide (k∈([]:List Nat)))=List.replicate n (.bool false):=by unfold onP;rw [List.eq_replicate_iff];simp
    rw [this]
 clear f0 f1 f2 f3 f4 hF g1 o1 n1 a1 a2 a3 hall hble q58 r58 P0 P1 P2 P3 P4;generalize hL:loopC _ _ _ _ _ _ _ _ _ _=L;let Q (L:CRes):Prop:= ∃tm H',L= .exit 0 tm H' []∧tm.length=44∧getT tm 4= .ptr (H.n+2) 0 0 8∧RT H n ss es I H' (roundsT srtN (adjN adj) n n);have hQ:Q L:=by
  subst hL;refine loop_up _ Q
   (fun j tm H1=>tm.length=44∧getT tm 4= .ptr (H.n+2) 0 0 8∧getT tm 19= .int .i64 n∧getT tm 20= .int .i64 j∧RT H n ss es I H1 (roundsT srtN (adjN adj) n j))
   n ?_ lf 0 _ _ (Nat.zero_le _) (by omega) ?_
  · rintro j tm H1 hj ⟨hl,h4,h19,h20,sv,rv,hM⟩;generalize hB:evalCode _ _ _ _ _ _ tm H1 []=R;have gT:=hM.gT;have gA:=hM.gA;have gT':H1.get (H.n+2)=some (.cells 0 0 0 [ss,es,.ref (H.n+3) 0 0 1 n false,.ref H.n 0 0 1 n false,sv,.ref (H.n+1) 0 0 1 n false,.int .i64 ((roundsT srtN (adjN adj) n j).nx:Nat),rv]):=gT;have gA':H1.get (H.n+3)=_:=gA;by_cases hjn:j<n
    · have hR:=roundsT_ok srtN srtN_perm hA j (by omega);have hlt:decide ((j:Int)<(n:Int))=true:=by simp;omega
      have hwr:IntKind.i64.wrap ((j:Int)+1)=((j+1:Nat):Int):=by rw [wrap64 _ (by omega) (by omega)];rfl
      have fa:=get_iC (l:=(roundsT srtN (adjN adj) n j).at_) (i:=j) (by rw [hR.wf.la];exact hjn);rw [roundsT_succ];generalize roundsT srtN (adjN adj) n j=t at*
      cases hc:decide (gi t.at_ j<0) with
      | true=>
        have hc2:gi t.at_ j<0:=by simpa using hc
        have hst:stepR' srtN (adjN adj) n t j=visitT srtN (adjN adj) n j t:=by unfold stepR';rw [if_pos hc2]
        rw [hst];have hnn:=hR.wf.nn;obtain ⟨H5,h5,sv6,rv6,h6⟩:=c59 pr lf hp hp235 hp155 H n ss es er adj I hI hes hg hlen hs0 hn hlf htot n k H1 t j hjn hR.wf hR.cl hc2 (by omega) ⟨sv,rv,hM⟩;unfold EV at h5;have h5':evalFn (E1 pr) okd lf (k+n+4) 59 [.ptr (H.n+2) 0 0 8,.int .i64 j] H1= .ret (.tup []) H5:=h5;have h7:=h6.gc hI H1.n (.tup []) hM.n0;simp only [go_sem,hl,h4,h19,h20,hlt,hwr,gT',gA',hjn,fa,hc,h5'] at hB;subst hB;refine .inl ⟨_,_,rfl,hjn,?_⟩;simp only [go_sem,hl,h4,h19,hwr];exact ⟨sv6,rv6,h7⟩
      | false=>
        have hc2: ¬gi t.at_ j<0:=by simpa using hc
        have hst:stepR' srtN (adjN adj) n t j=t:=by unfold stepR';rw [if_neg hc2]
        rw [hst];simp only [go_sem,hl,h4,h19,h20,hlt,hwr,gT',gA',hjn,fa,hc] at hB;subst hB;refine .inl ⟨_,_,rfl,hjn,?_⟩;simp only [go_sem,hl,h4,h19,hwr];exact ⟨sv,rv,hM⟩
    · have hj3:j=n:=by omega
      subst hj3;have hlt:decide ((j:Int)<(j:Int))=false:=by simp
      simp only [go_sem,hl,h19,h20,hlt] at hB;subst hB;refine .inr ⟨rfl,_,_,rfl,?_⟩;simp only [go_sem,hl,h4];exact ⟨sv,rv,hM⟩
  · simp only [go_sem,Int.natCast_zero];exact ⟨_,_,hF0⟩
 obtain ⟨tm,H2,rfl,hl,h4,sv,rv,hM⟩:=hQ;have hP:=roundsT_parts srtN srtN_perm hA;generalize roundsT srtN (adjN adj) n n=t at*;have hrs:t.rs≠ []:=fun e=>by have:=(hP.mem 0).2 (by omega);rw [e] at this;cases this
 rcases hM.rn with ⟨-,e⟩|⟨id,j,d,rfl,hg1,hd,hid,hjr⟩
 · exact absurd e hrs
 obtain ⟨rs',hms,hsort⟩:=pSortF_ok H2 id (genOf 28+j) d t.rs hg1 hd hP.ne hP.nd hrs (fun S hS x hx=>by have:=(hP.mem x).1 (List.mem_flatten.2 ⟨S,hS,hx⟩);omega) (by have:=Nat.le_trans (rs_len _ hP.ne) (nodup_len _ _ hP.nd fun x hx=>(hP.mem x).1 hx);omega);have hperm:=hms.1;have q60:=(evalFn_prim (E1 pr) okd lf (k+n+3) 60 [.ref id (genOf 28+j) 0 1 t.rs.length false,.fn (.func 61) [] []] H2 _ hp60).trans hsort;have gT2:=hM.gT;have gT':H2.get (H.n+2)=some (.cells 0 0 0 [ss,es,.ref (H.n+3) 0 0 1 n false,.ref H.n 0 0 1 n false,sv,.ref (H.n+1) 0 0 1 n false,.int .i64 (t.nx:Nat),.ref id (genOf 28+j) 0 1 t.rs.length false]):=gT2;have hR:=hM.stR hI (o:= .cells (genOf 28+j) (genOf 28+j) 0 (rs'.map setV)) (rs2:=rs') rfl (.inr ⟨id,j,_,by rw [hperm.length_eq],get_set_same _ _ _ (by rw [hg1];rfl),Nat.le_refl _,hid,by rw [hperm.length_eq];exact hjr⟩);have h7:=hR.gc hI H2.n (.tup []) hM.n0;have gT3:=h7.gT;have gT3':(gc H2.n (.tup []) (H2.set id (.cells (genOf 28+j) (genOf 28+j) 0 (rs'.map setV)))).get (H.n+2)=some (.cells 0 0 0 [ss,es,.ref (H.n+3) 0 0 1 n false,.ref H.n 0 0 1 n false,sv,.ref (H.n+1) 0 0 1 n false,.int .i64 (t.nx:Nat),.ref id (genOf 28+j) 0 1 t.rs.length false]):=gT3;simp only [go_sem,hl,h4,gT',q60,gT3'];generalize gc H2.n (.tup []) _=H9 at*;obtain ⟨g',d',e1,e2⟩: ∃(g' d':Nat),H9.get id=some (.cells (genOf 28+j) d' 0 (rs'.map setV))∧d'≤genOf 28+j:=by
  rcases h7.rn with ⟨h,-⟩|⟨id',j',d',e,hg',hd',-⟩
  · cases h
  · injection e with e1 e2;subst e1;have:j=j':=by omega
    subst this;exact ⟨0,d',hg',hd'⟩
 have hlen':=hperm.length_eq;refine ⟨H9,id,genOf 28+j,d',rs',?_,hms,e1,e2,Nat.le_trans (Nat.le_add_right _ _) hid,Nat.le_trans (Nat.le_add_right _ _) h7.n0,h7.old⟩;rw [hlen'];rfl
theorem mapH_set (k:Nat) (H:Hp) (l:List (List Nat)):mapH (pub (k+1)) (l.map setV) H=some (l.map setV,H):=by
 induction l with
 |nil=>rfl
 | cons a l ih=>
   have e:pub (k+1) (setV a) H=some (setV a,H):=rfl;simp only [List.map_cons,mapH,e,ih]
theorem chunk_set (l:List (List Nat)):chunk 1 l.length (l.map setV)=l.map fun S=> [setV S]:=by
 induction l with
 |nil=>rfl
 |cons a l ih=>simp only [List.length_cons,chunk,List.map_cons,List.take_succ_cons,List.take_zero,List.drop_succ_cons,List.drop_zero,ih]
theorem pub_rs (k:Nat) (H:Hp) (id gen g d ro:Nat) (l:List (List Nat)) (c:Bool) (h:H.get id=some (.cells g d ro (l.map setV))) (hd:d≤gen):
  pub (k+2) (.ref id gen 0 1 l.length c) H=some (.sl (l.map fun S=> [setV S]) c,H.set id (.cells g d (maxN ro l.length) (l.map setV))):=by
 have h1:sub (l.map setV) 0 l.length=some (l.map setV):=by simp [sub,List.take_of_length_le]
 rw [pub];simp only [h];rw [if_pos ⟨hd,by omega⟩];simp only [Nat.zero_add,Nat.mul_one,h1,fN_eq,fH_eq,mapH_set,chunk_set,fLL_eq]
theorem cc37 (hp:noPr pr) (hp98:pr 98=none) (hp153:pr 153=none) (hp235:pr 235=some (pSeq 156 3)) (hp155:pr 155=some pSort) (hp60:pr 60=some (pSortF 61)) (ss es:Val) (sr er:List (List Val)) (adj:List (List (List Val)))
  (hs:IsSl ss sr) (hes:IsSl es er) (hg:OkG er adj) (n:Nat) (hsr:sr.length=n) (hlen:er.length=n) (hn:n≤400) (h1n:1≤n) (hlf:1000000000000000<lf) (htot: ∀l∈adj,l.length≤3000000000000∧ ∀e∈l,0≤toE e∧toE e<n) (k:Nat) (H:Hp):
  ∃(H':Hp) (rs:List (List Nat)),(∀tm,retC (E1 pr) 37 H.n tm (evalFn (E1 pr) okd lf (k+n+5) 37 [.agg [ss,es]] H)= .ok (.sl (rs.map fun S=> [setV S]) false) tm H')∧MsOf (roundsT srtN (adjN adj) n n).rs rs∧Ext H H':=by
 obtain ⟨H1,id,g,d,rs,h1,h2,h3,h4,h5,h6,h7⟩:=c37 pr lf hp hp98 hp153 hp235 hp155 hp60 ss es sr er adj hs hs.okCell hes hg n hsr hlen hn h1n hlf htot k H;have hpub:=pub_rs 48 H1 id g g d 0 rs false h3 h4;generalize hF:Hp.set H1 id _=F at hpub;have hE:Ext H F:=by rw [←hF];exact Ext.set ⟨h6,h7⟩ h5 _
 refine ⟨gc H.n (.sl (rs.map fun S=> [setV S]) false) F,rs,fun tm=> ?_,h2,Ext.gc hE _⟩;rw [show evalFn (E1 pr) okd lf (k+n+5) 37 [.agg [ss,es]] H=_ from h1];exact retC_pub (E1 pr) 37 H.n tm _ _ _ _ (by kernel_rfl) hpub
end
open Go Go.Proofs.Tryz
set_option maxRecDepth 100000
set_option maxHeartbeats 1000000
def kN (p:Nat×Nat):Val:= .int .i64 (p.1:Nat)
def vN (p:Nat×Nat):Val:= .int .i64 (p.2:Nat)
def fdN (k:Nat):List (Nat×Nat)→Option Nat
 | []=>none
 |p::l=>if k=p.1 then some p.2 else fdN k l
theorem gc_same (n0:Nat) (v:Val) (H:Hp) (h:H.n=n0):gc n0 v H=H:=by unfold gc;rw [if_pos (by rw [h];exact Nat.ble_eq_true_of_le (Nat.le_refl _))]
section
variable (pr:Nat→Option (List Val→Hp→FRes)) (lf:Nat)
theorem eqP3 (d:Nat) (a b:Int):eqP (E1 pr) (d+1) 3 (.int .i64 a) (.int .i64 b)=some (a==b):=by
 have h1:und (E1 pr) 3=some (.int .i64):=by kernel_rfl
 unfold eqP;simp only [h1,if_true]
theorem keyP3 (a:Int):keyP (E1 pr) 20 3 (.int .i64 a)=true:=by
 have h1:und (E1 pr) 3=some (.int .i64):=by kernel_rfl
 unfold keyP;simp only [h1]
theorem findK_none (k:Nat): ∀(l:List (Nat×Nat)) (i:Nat),fdN k l=none→findK (E1 pr) 20 3 (.int .i64 (k:Nat)) (l.map kN) (l.map vN) i=some none
 | [],_,_=>rfl
 | p ::l,i,h=>by
   simp only [fdN] at h;split at h
   · cases h
   · next hk=>
     have hb:((k:Int)==(p.1:Int))=false:=by simp;omega
     simp only [List.map_cons,findK,kN,eqP3,hb];exact findK_none k l (i+1) h
theorem findK_some (k v:Nat): ∀(l:List (Nat×Nat)) (i:Nat),fdN k l=some v→ ∃j,findK (E1 pr) 20 3 (.int .i64 (k:Nat)) (l.map kN) (l.map vN) i=some (some (i+j,.int .i64 (v:Nat)))∧l[j]? =some (k,v)
 | [],_,h=>by cases h
 | p ::l,i,h=>by
   simp only [fdN] at h;split at h
   · next hk=>
     cases h;have hb:((k:Int)==(p.1:Int))=true:=by simp;omega
     refine ⟨0,?_,?_⟩
     · simp only [List.map_cons,findK,kN,vN,eqP3,hb];rfl
     · simp [hk]
   · next hk=>
     have hb:((k:Int)==(p.1:Int))=false:=by simp;omega
     obtain ⟨j,h1,h2⟩:=findK_some k v l (i+1) h;refine ⟨j+1,?_,h2⟩;simp only [List.map_cons,findK,kN,eqP3,hb];rw [show i+(j+1)=i+1+j by omega];exact h1
theorem und123:und (E1 pr) 123=some (.map 3 3):=by kernel_rfl
theorem look123 (id k:Nat) (H:Hp) (l:List (Nat×Nat)) (h:H.get id=some (.map false (l.map kN) (l.map vN))):
  lookupP (E1 pr) 123 (.map id) (.int .i64 (k:Nat)) true H=some (.tup (match fdN k l with|some v=> [.int .i64 (v:Nat),.bool true]|none=> [.int .i64 (0:Nat),.bool false])):=by
 have h2:zeroT (E1 pr) 3=some (.int .i64 0):=by kernel_rfl
 unfold lookupP;simp only [und123,mapOf,h,h2,lookupIn,keyP3]
 cases hf:fdN k l with
 |none=>simp only [findK_none pr k l 0 hf,if_true,fV_eq];rfl
 | some v=>
   obtain ⟨j,h3,-⟩:=findK_some pr k v l 0 hf;simp only [h3,if_true]
theorem upd123 (id k:Nat) (H:Hp) (l:List (Nat×Nat)) (f:Nat→Nat) (h:H.get id=some (.map false (l.map kN) (l.map vN))) (hl: ∀p∈l,p.2=f p.1):
  ∃l':List (Nat×Nat),mapUpdateP (E1 pr) 123 (.map id) (.int .i64 (k:Nat)) (.int .i64 (f k:Nat)) H=some (H.set id (.map false (l'.map kN) (l'.map vN)))∧ ∀p∈l',p.2=f p.1:=by
 unfold mapUpdateP;simp only [und123,h,updateIn,keyP3]
 cases hf:fdN k l with
 | none=>
   refine ⟨l++ [(k,f k)],?_,?_⟩
   · simp only [findK_none pr k l 0 hf,fL_eq,fH_eq,List.map_append];rfl
   · intro p hp;rcases List.mem_append.1 hp with hp|hp
     · exact hl p hp
     · simp at hp;rw [hp]
 | some v=>
   obtain ⟨j,h3,h4⟩:=findK_some pr k v l 0 hf;have hv:v=f k:=hl (k,v) (List.mem_of_getElem? h4);subst hv;refine ⟨l,?_,hl⟩;have e1:(l.map kN)[0+j]? =some (.int .i64 (k:Nat)):=by rw [Nat.zero_add,List.getElem?_map,h4];rfl
   have e2:sameV (some (Val.int .i64 (k:Nat))) (.int .i64 (k:Nat))=true:=by simp [sameV,eqScalar]
   have e3: ∀(m:List Val) (x:Val) (j:Nat),m[j]? =some x→setL m j x=m:=by
    intro m x
    induction m with
    |nil=>intro j h;rfl
    | cons y m ih=>intro j h;cases j with
      |zero=>simp at h;rw [h];rfl
      |succ j=>simp only [setL];rw [ih j (by simpa using h)]
   have e4:(l.map vN)[0+j]? =some (.int .i64 (f k:Nat)):=by rw [Nat.zero_add,List.getElem?_map,h4];rfl
   simp only [h3,e1,e2,fL_eq,fH_eq,e3 _ _ _ e1,e3 _ _ _ e4]
def upC (tm:List Val):Option Hp→ORes
 |some H=> .ok (.tup []) tm H
 |none=> .fail
@[go_sem] theorem mapUp_rule (t m k1 a k2 b tm H):opMapUpdate (E1 pr) t m (.int k1 a) (.int k2 b) tm H=upC tm (mapUpdateP (E1 pr) t m (.int k1 a) (.int k2 b) H):=by
 show (match mapUpdateP (E1 pr) t m (.int k1 a) (.int k2 b) H with
  |some H=>ORes.ok (.tup []) tm H
  |none=> .fail)=_
 cases mapUpdateP (E1 pr) t m (.int k1 a) (.int k2 b) H<;>rfl
@[go_sem] theorem upC_some (tm H):upC tm (some H)= .ok (.tup []) tm H:=rfl
theorem builtin_max (E ts k a b tm H):opBuiltin E .max ts [.int k a,.int k b] tm H= .ok (.int k (max a b)) tm H:=by
 have:maxL k a [.int k b]=some (.int k (max a b)):=by
  simp only [maxL,if_true];split
  · next h=>rw [Int.max_eq_right (by omega)]
  · next h=>rw [Int.max_eq_left (by omega)]
 cases ts with
 |nil=>show okV (maxL k a [.int k b]) tm H=_;rw [this,okV_some]
 | cons t ts=>cases ts with
   |nil=>show okV (maxL k a [.int k b]) tm H=_;rw [this,okV_some]
   |cons u ts=>show okV (maxL k a [.int k b]) tm H=_;rw [this,okV_some]
attribute [go_sem] builtin_max
structure FM (ss es:Val) (a b c mid ga gb gc':Nat) (H:Hp) (l:List (Nat×Nat)):Prop where
  gm:H.get a=some (.cells ga ga 0 [.map mid])
  gg:H.get b=some (.cells gb gb 0 [ss,es])
  gf:H.get c=some (.cells gc' gc' 0 [.fn (.func 63) [] [.ptr a ga 0 1,.ptr b gb 0 2,.ptr c gc' 0 1]])
  gk:H.get mid=some (.map false (l.map kN) (l.map vN))
theorem c63 (hp:noPr pr) (ss es:Val) (er:List (List Val)) (adj:List (List (List Val))) (n:Nat) (a b c mid ga gb gc':Nat) (rs:List (List Nat)) (near:Nat→Prop)
   (hes:IsSl es er) (hg:OkG er adj) (hlen:er.length=n) (hss:okCell ss=true) (hn:n≤400) (hlf:1000000000000000<lf) (htot: ∀l∈adj,l.length≤3000000000000∧ ∀e∈l,0≤toE e∧toE e<n)
   (hC:Calm (adjN adj) rs near) (hmem: ∀v,v<n→v∈rs.flatten) (hrn:rs.length≤400):
   ∀ (r k i:Nat) (H:Hp) (l:List (Nat×Nat)),i<n→near i→i∈(rs.take r).flatten→FM ss es a b c mid ga gb gc' H l→(∀p∈l,p.2=lpN (adjN adj) rs.length p.1)→
     ∃(H':Hp) (l':List (Nat×Nat)),EV pr lf (k+r) 63 [.int .i64 i,.ptr a ga 0 1,.ptr b gb 0 2,.ptr c gc' 0 1] H= .ret (.int .i64 (lpN (adjN adj) rs.length i:Nat)) H'∧FM ss es a b c mid ga gb gc' H' l'∧(∀p∈l',p.2=lpN (adjN adj) rs.length p.1)∧H'.n=H.n∧ ∀j,j≠mid→H'.get j=H.get j
 |0,k,i,H,l,hi,hni,hir,hF,hl=>by simp at hir
 | r + 1,k,i,H,l,hi,hni,hir,hF,hl=>by
  have IH:=c63 hp ss es er adj n a b c mid ga gb gc' rs near hes hg hlen hss hn hlf htot hC hmem hrn r k;unfold EV at IH⊢;have hR:(rs.take rs.length)=rs:=List.take_length;have hA: ∀i,i<n→ ∀k∈adjN adj i,k<n:=fun i _=>adjN_lt (fun l hl=>(htot l hl).2) i;rw [show k+(r+1)=(k+r)+1 by omega,evalFn_S (E1 pr) okd lf (k+r) 63 37 _ H f63 _ (hp 63 (by decide)) (fns_63 pr) rfl rfl];obtain ⟨gm,gg,gf,gk⟩:=hF;have q:=look123 pr mid i H l gk;obtain ⟨r0,hr0⟩: ∃r,er[i]? =some r:=⟨er[i]'(by omega),by simp⟩;obtain ⟨x,rows,rfl,hadj,hx,hxs,hee⟩:=hg.row i r0 hr0
  cases hf:fdN i l with
  | some v=>
    rw [hf] at q;simp only [go_sem,gm,q,Nat.le_refl];obtain ⟨j,-,h4⟩:=findK_some pr i v l 0 hf;have hv:v=lpN (adjN adj) rs.length i:=hl (i,v) (List.mem_of_getElem? h4);exact ⟨H,l,by rw [hv],⟨gm,gg,gf,gk⟩,hl,rfl,fun _ _=>rfl⟩
  |none=>
  rw [hf] at q;simp only [go_sem,gm,gg,q,hes.opdV,hes.ix (k:=1) hr0 rfl,hx.opdV,hx.len,Nat.le_refl];obtain ⟨hrRR,hto⟩:=htot rows (List.mem_of_getElem? hadj);have hts:adjN adj i=rows.map fun e=>(toE e).toNat:=by simp [adjN,hadj]
  let f:=lpN (adjN adj) rs.length;have hff: ∀k,f k≤400:=fun k=>Nat.le_trans (lpN_le _ _) hrn;have hfi:f i=(adjN adj i).foldl (fun m k=>max m (1+f k)) 0:=by have h1:lpN (adjN adj) rs.length i=lpN (adjN adj) (r+1) i:=hC.stable _ _ i hni (by rw [hR];exact hmem i hi) hir;show lpN (adjN adj) rs.length i=_;rw [h1];simp only [lpN];exact foldl_congr _ _ fun k hk=>hC.stable _ _ k (hC.nx i hni k hk) (hC.down r i k hni hir hk) (by rw [hR];exact hmem k (hA i hi k hk))
  let ac:=fun j=>((adjN adj i).take j).foldl (fun m k=>max m (1+f k)) 0;have hac: ∀j,ac j≤401:=by
   have: ∀(l:List Nat) (m:Nat),m≤401→l.foldl (fun m k=>max m (1+f k)) m≤401:=by
    intro l
    induction l with
    |nil=>intro m h;exact h
    |cons x l ih=>intro m h;exact ih _ (by have:=hff x;show max m (1+f x)≤401;omega)
   exact fun j=>this _ 0 (by omega)
  generalize hL:loopC _ _ _ _ _ _ _ _ _ _=L;let Q (L:CRes):Prop:= ∃tm H' l',L= .exit 0 tm H' []∧tm.length=41∧getT tm 0= .int .i64 i∧getT tm 1= .ptr a ga 0 1∧getT tm 8= .int .i64 (f i:Nat)∧FM ss es a b c mid ga gb gc' H' l'∧(∀p∈l',p.2=f p.1)∧H'.n=H.n∧ ∀j,j≠mid→H'.get j=H.get j;have hQ:Q L:=by
   subst hL;refine loop_up _ Q
    (fun j tm H1=>tm.length=41∧getT tm 0= .int .i64 i∧getT tm 1= .ptr a ga 0 1∧getT tm 3= .ptr c gc' 0 1∧getT tm 8= .int .i64 (ac j:Nat)∧getT tm 23=x∧getT tm 24= .int .i64 rows.length∧getT tm 25= .int .i64 j∧
     ∃l':List (Nat×Nat),FM ss es a b c mid ga gb gc' H1 l'∧(∀p∈l',p.2=f p.1)∧H1.n=H.n∧ ∀j,j≠mid→H1.get j=H.get j)
    rows.length ?_ lf 0 _ _ (Nat.zero_le _) (by omega) ?_
   · rintro j tm H1 hj ⟨hl,h0,h1,h3,h8,h23,h24,h25,l1,hF,hl1,hHn,hfr⟩;generalize hB:evalCode _ _ _ _ _ _ tm H1 []=R;by_cases hjn:j<rows.length
     · obtain ⟨r1,hr1⟩: ∃r,rows[j]? =some r:=⟨rows[j],by simp [hjn]⟩;have hm:=List.mem_of_getElem? hr1;obtain ⟨t0,t1⟩:=hto r1 hm;obtain ⟨a1,b1,c1,n1,y,bl,rfl,rfl,hy,-⟩:=hee r1 hm;obtain ⟨to',rfl⟩: ∃t:Nat,n1=t:=⟨n1.toNat,by have:0≤n1:=t0;omega⟩;have htn:to'<n:=by have:(to':Int)<n:=t1;omega
       have htj:(adjN adj i)[j]? =some to':=by rw [hts,List.getElem?_map,hr1];rfl
       have hmem':to'∈adjN adj i:=List.mem_of_getElem? htj;have hacj:ac (j+1)=max (ac j) (1+f to'):=by show ((adjN adj i).take (j+1)).foldl _ 0=_;rw [List.take_add_one,htj,List.foldl_append];rfl
       have hlt:decide ((j:Int)<(rows.length:Int))=true:=by simp;omega
       have hwr:IntKind.i64.wrap ((j:Int)+1)=((j+1:Nat):Int):=by rw [wrap64 _ (by omega) (by omega)];rfl
       obtain ⟨H5,l5,h5,hF5,hl5,hn5,hfr5⟩:=IH to' H1 l1 htn (hC.nx i hni to' hmem') (hC.down r i to' hni hir hmem') hF hl1;have h5':evalFn (E1 pr) okd lf (k+r) 63 [.int .i64 to',.ptr a ga 0 1,.ptr b gb 0 2,.ptr c gc' 0 1] H1= .ret (.int .i64 (f to':Nat)) H5:=h5;have hgc:gc H1.n (.int .i64 (f to':Nat)) H5=H5:=gc_same _ _ _ hn5;have hw1:IntKind.i64.wrap (1+(f to':Int))=((1+f to':Nat):Int):=by have:=hff to';rw [wrap64 _ (by omega) (by omega)];omega
       have hmx:max (ac j:Int) ((1+f to':Nat):Int)=(ac (j+1):Nat):=by rw [hacj];omega
       simp only [go_sem,hl,h0,h1,h3,h8,h23,h24,h25,hx.opdV,hy.opdV,hy.okCell,hlt,hwr,hx.ix (k:=4) hr1 rfl,hF.gf,Nat.le_refl,h5',hgc,hw1,hmx] at hB;subst hB;refine .inl ⟨_,_,rfl,hjn,?_⟩;simp only [go_sem,hl,h0,h1,h3,h23,h24,hwr];exact ⟨l5,hF5,hl5,by rw [hn5,hHn],fun j hj=>by rw [hfr5 j hj,hfr j hj]⟩
     · have hj3:j=rows.length:=by omega
       subst hj3;have hlt:decide ((rows.length:Int)<(rows.length:Int))=false:=by simp
       have hall:ac rows.length=f i:=by show ((adjN adj i).take rows.length).foldl _ 0=_;rw [List.take_of_length_le (by rw [hts];simp),hfi]
       rw [hall] at h8;simp only [go_sem,hl,h24,h25,hlt] at hB;subst hB;refine .inr ⟨rfl,_,_,l1,rfl,?_⟩;simp only [go_sem,hl,h0,h1,h8];exact ⟨hF,hl1,hHn,hfr⟩
   · simp only [go_sem];exact ⟨rfl,rfl,l,⟨gm,gg,gf,gk⟩,hl,fun _ _=>trivial⟩
  obtain ⟨tm,H6,l6,rfl,htl,h0,h1,h8,hF6,hl6,hn6,hfr6⟩:=hQ;obtain ⟨l7,hu,hl7⟩:=upd123 pr mid i H6 l6 f hF6.gk hl6;have nm:mid≠a:=fun e=>by have h1:=hF6.gk;have h2:=hF6.gm;rw [e,h2] at h1;cases h1
  have ng:mid≠b:=fun e=>by have h1:=hF6.gk;have h2:=hF6.gg;rw [e,h2] at h1;cases h1
  have nf:mid≠c:=fun e=>by have h1:=hF6.gk;have h2:=hF6.gf;rw [e,h2] at h1;cases h1
  simp only [go_sem,htl,h0,h1,h8,hF6.gm,hu,Nat.le_refl];refine ⟨_,l7,rfl,⟨?_,?_,?_,get_set_same _ _ _ (by rw [hF6.gk];rfl)⟩,hl7,by rw [n_set,hn6],fun j hj=>by rw [get_set_ne _ _ _ _ hj,hfr6 j hj]⟩
  · rw [get_set_ne _ _ _ _ nm.symm,hF6.gm]
  · rw [get_set_ne _ _ _ _ ng.symm,hF6.gg]
  · rw [get_set_ne _ _ _ _ nf.symm,hF6.gf]
end
structure Grow (n:Nat) (a:Nat) (ts:List Nat) (j:Nat) (s s':BS):Prop where
  up: ∀v,v<n→0≤gi s.fa v→0≤gi s'.fa v
  nw: ∀v,v<n→0≤gi s'.fa v→0≤gi s.fa v∨(v:Int)∈s'.q
  qq: ∀x,x∈s.q→x∈s'.q
  dn: ∀i t,i<j→ts[i]? =some t→0≤gi s'.fa t
theorem relaxN_grow {n:Nat} {b:Int} {s:BS} (h:WfS n b s) (a:Nat) (ts:List Nat) (ht: ∀t∈ts,t<n) (ha:0≤gi s.fa a) (hb: -1≤b) (hat:a<n): ∀j,Grow n a ts j s (relaxN a ts j s)
 |0=>⟨fun _ _ h=>h,fun _ _ h=> .inl h,fun _ h=>h,fun i t hi=>by omega⟩
 | j + 1 =>by
   have ih:=relaxN_grow h a ts ht ha hb hat j;obtain ⟨h1,-,h3,-⟩:=relaxN_wf h a ts ht ha hb hat j;simp only [relaxN];generalize relaxN a ts j s=s1 at*
   cases ht2:ts[j]? with
   |none=>exact ⟨ih.up,ih.nw,ih.qq,fun i t hi hit=>by
    by_cases e:i=j
    · subst e;rw [ht2] at hit;cases hit
    · exact ih.dn i t (by omega) hit⟩
   | some t=>
     have htn:=ht t (List.mem_of_getElem? ht2);simp only [relax];split
     · next hlt=>
       have hg: ∀v,gi (s1.fa.set t (gi s1.fa a+1)) v=if t=v then gi s1.fa a+1 else gi s1.fa v:=fun v=>by rw [gi_set,h1.lfa];simp [htn]
       refine ⟨fun v hv h0=> ?_,fun v hv h0=> ?_,fun x hx=>List.mem_append_left _ (ih.qq x hx),fun i u hi hit=> ?_⟩
       · show 0≤gi (s1.fa.set t (gi s1.fa a+1)) v;rw [hg];have:=ih.up v hv h0;split<;>omega
       · change 0≤gi (s1.fa.set t (gi s1.fa a+1)) v at h0;rw [hg] at h0;by_cases e:t=v
         · subst e;right;exact List.mem_append_right _ (by simp)
         · rw [if_neg e] at h0;rcases ih.nw v hv h0 with h|h
           · exact .inl h
           · exact .inr (List.mem_append_left _ h)
       · show 0≤gi (s1.fa.set t (gi s1.fa a+1)) u;rw [hg];split
         · omega
         · next e=>
           by_cases e2:i=j
           · subst e2;rw [ht2] at hit;cases hit;exact absurd rfl e
           · exact ih.dn i u (by omega) hit
     · next hlt=>
       exact ⟨ih.up,ih.nw,ih.qq,fun i u hi hit=>by
        by_cases e:i=j
        · subst e;rw [ht2] at hit;cases hit;omega
        · exact ih.dn i u (by omega) hit⟩
def Cls (n:Nat) (A:Nat→List Nat) (s:BS):Prop:= ∀v,v<n→0≤gi s.fa v→(v:Int)∈s.q∨ ∀k∈A v,0≤gi s.fa k
theorem stepS_cls {n:Nat} {b:Int} {s:BS} (A:Nat→List Nat) (h:WfS n b s) (hA: ∀a,a<n→ ∀t∈A a,t<n) (hb: -1≤b) (hc:Cls n A s):Cls n A (stepS A s):=by
 cases hq:s.q with
 | nil=>
   have:stepS A s=s:=by simp [stepS,hq]
   rw [this];exact hc
 | cons a q=>
   obtain ⟨ha0,han,hag⟩:=h.qok a (by rw [hq];simp);have hG:=relaxN_grow h a.toNat (A a.toNat) (hA a.toNat (by omega)) hag hb (by omega) (A a.toNat).length;obtain ⟨-,-,-,l,hl⟩:=relaxN_wf h a.toNat (A a.toNat) (hA a.toNat (by omega)) hag hb (by omega) (A a.toNat).length;simp only [stepS,hq];generalize relaxN a.toNat (A a.toNat) (A a.toNat).length s=s1 at*;intro v hv h0;change 0≤gi s1.fa v at h0;show (v:Int)∈s1.q.tail∨ ∀k∈A v,0≤gi s1.fa k;rw [hq] at hl;by_cases hva:v=a.toNat
   · right;intro k hk;subst hva;obtain ⟨i,hi,rfl⟩:=List.getElem_of_mem hk;exact hG.dn i _ hi (by simp [hi])
   · rcases hG.nw v hv h0 with h1|h1
     · rcases hc v hv h1 with h2|h2
       · left;rw [hq] at h2;rcases List.mem_cons.1 h2 with h2|h2
         · exact absurd (by omega) hva
         · rw [hl];simp;exact .inl h2
       · exact .inr fun k hk=>hG.up k (hA v hv k hk) (h2 k hk)
     · left;rw [hl] at h1⊢;simp at h1⊢;rcases h1 with h1|h1|h1
       · exact absurd (by omega) hva
       · exact .inl h1
       · exact .inr h1
theorem iterS_cls {n:Nat} (A:Nat→List Nat) {b:Int} {s:BS} (h:WfS n b s) (hp: ∃i,Par n i A s) (hA: ∀a,a<n→ ∀t∈A a,t<n) (hb: -1≤b) (hc:Cls n A s) (m:Nat):Cls n A (iterS A m s):=by
 induction m with
 |zero=>exact hc
 | succ m ih=>
   obtain ⟨i,hp⟩:=hp;obtain ⟨-,b',hb',hw⟩:=iterS_par hp h hA hb m;exact stepS_cls A hw hA hb' ih
theorem iterS_stop (A:Nat→List Nat) (s:BS) (m:Nat) (h:(iterS A m s).q= []): ∀d,iterS A (m+d) s=iterS A m s
 |0=>rfl
 |d+1=>by rw [←Nat.add_assoc];simp only [iterS,iterS_stop A s m h d];simp [stepS,h]
theorem Srch.uniq {adj n i s t} (h:Srch adj n i s) (g:Srch adj n i t):s=t:=by
 obtain ⟨m,rfl,-,hq,-⟩:=h;obtain ⟨k,rfl,-,hr,-⟩:=g;rcases Nat.le_total m k with hmk|hmk
 · obtain ⟨d,rfl⟩:=Nat.exists_eq_add_of_le hmk;rw [iterS_stop _ _ _ hq]
 · obtain ⟨d,rfl⟩:=Nat.exists_eq_add_of_le hmk;rw [iterS_stop _ _ _ hr]
theorem Srch.closed {adj n i s} (h:Srch adj n i s) (hi:i<n) (hA: ∀a,a<n→ ∀t∈adjN adj a,t<n):gi s.fa i=0∧ ∀v,v<n→0≤gi s.fa v→ ∀k∈adjN adj v,0≤gi s.fa k:=by
 have h1:=(h.par hi hA).1.root;obtain ⟨m,rfl,-,hq,-⟩:=h;refine ⟨h1,fun v hv h0=> ?_⟩;have hc0:Cls n (adjN adj) (bs0 n i):=by
  intro v hv h0;left;change 0≤gi ((List.replicate n (-1)).set i 0) v at h0;rw [gi_set] at h0;by_cases e:i=v
  · subst e;show (i:Int)∈ [(i:Int)];simp
  · rw [if_neg (fun h=>e h.1),gi_rep _ _ _ hv] at h0;omega
 have hc:=iterS_cls (adjN adj) (bs0_wf n i hi) ⟨i,bs0_par n i hi _⟩ hA (by omega) hc0 m v hv h0;rw [hq] at hc;rcases hc with hc|hc
 · cases hc
 · exact hc
open Go Go.Proofs.Tryz
set_option maxRecDepth 100000
set_option maxHeartbeats 2000000
theorem nodup_mem: ∀(rs:List (List Nat)) (S:List Nat),rs.flatten.Nodup→S∈rs→S.Nodup
 | [],_,_,h=>by cases h
 | T::rs,S,hn,h=>by
   rw [List.flatten_cons,List.nodup_append] at hn;rcases List.mem_cons.1 h with rfl|h
   · exact hn.1
   · exact nodup_mem rs S hn.2.1 h
@[go_sem] theorem makeMap_rule (tm H):opMakeMapO none tm H= .ok (.map H.n) tm (H.push (.map false [] [])):=by simp only [opMakeMapO,opMakeMap,fV_eq,fH_eq]
def badB (A:Nat→List Nat) (fa:List Int) (S:List Nat) (i:Nat):Bool:=decide (0≤gi fa i)&&(decide (1<S.length)||(A i).contains i)
def longV (A:Nat→List Nat) (n:Nat) (fa:List Int):Int:=
 if ((roundsT srtN A n n).rs.any fun S=>S.any (badB A fa S)) then -1 else (lpN A (roundsT srtN A n n).rs.length 0:Nat)
section
variable (pr:Nat→Option (List Val→Hp→FRes)) (lf:Nat)
theorem c38 (hp :noPr pr) (hp98:pr 98=none) (hp153:pr 153=none) (hp235:pr 235=some (pSeq 156 3)) (hp155:pr 155=some pSort) (hp60:pr 60=some (pSortF 61)) (ss es:Val) (sr er:List (List Val)) (adj:List (List (List Val)))
  (hs:IsSl ss sr) (hes:IsSl es er) (hg:OkG er adj) (n:Nat) (hsr:sr.length=n) (hlen:er.length=n) (hn:n≤400) (h1n:1≤n) (hlf:1000000000000000<lf) (htot: ∀l∈adj,l.length≤3000000000000∧ ∀e∈l,0≤toE e∧toE e<n) (k:Nat) (H:Hp) (s:BS) (hS:Srch adj n 0 s):
  ∃H',EV pr lf (k+n+6) 38 [.agg [ss,es]] H= .ret (.int .i64 (longV (adjN adj) n s.fa)) H'∧Ext H H':=by
 unfold EV;rw [evalFn_S (E1 pr) okd lf (k+n+5) 38 50 _ H f38 _ (hp 38 (by decide)) (fns_38 pr) rfl rfl];have hA: ∀i,i<n→ ∀k∈adjN adj i,k<n:=fun i _=>adjN_lt (fun l hl=>(htot l hl).2) i;have hP:=roundsT_parts srtN srtN_perm hA;obtain ⟨hS00,hS0⟩:=hS.closed (by omega) hA;have e0:=Ext.push H (.cells (genOf 25) (genOf 25) 0 [ss,es]);have g0:=get_push_new H (.cells (genOf 25) (genOf 25) 0 [ss,es]);obtain ⟨H2,m,h33,hmn,hq,hwf,e2⟩:=cc33 pr lf (hp 33 (by decide)) (k+n+4) ss es sr er 0 (H.push (.cells (genOf 25) (genOf 25) 0 [ss,es])) hs hes (by omega) (by omega) adj hg (by omega) (by omega) (fun l hl=>⟨(htot l hl).1,by have:=(htot l hl).1;omega,by rw [hsr];exact (htot l hl).2⟩);rw [hsr] at h33 hmn hq hwf;have hse:iterS (adjN adj) m (bs0 n 0)=s:=(show Srch adj n 0 _ from ⟨m,rfl,hmn,hq,hwf⟩).uniq hS;rw [hse] at h33 hwf;have g2:=e2.get g0;obtain ⟨H3,rs,h37,hms,e3⟩:=cc37 pr lf hp hp98 hp153 hp235 hp155 hp60 ss es sr er adj hs hes hg n hsr hlen hn h1n hlf htot k H2;have hrs:=hms.1;have g3:=e3.get g2;have hE3:Ext H H3:=(e0.trans e2).trans e3;simp only [Int.natCast_zero,n_push] at h33;simp only [go_sem,hs.opdV,hs.okCell,hes.okCell,hes.opdV,g0,g2,h33,h37,Nat.le_refl];let pg:Val:= .ptr H.n (genOf 25) 0 2;let nr:Val:= .sl (s.fa.map iR) false;have hrl:rs.length≤n:=by rw [hrs.length_eq];exact Nat.le_trans (rs_len _ hP.ne) (nodup_len n _ hP.nd fun x hx=>(hP.mem x).1 hx)
 have hrm: ∀S∈rs,S∈(roundsT srtN (adjN adj) n n).rs:=fun S hS=>hrs.mem_iff.1 hS;have hrv: ∀S∈rs,∀x∈S,x<n:=fun S hS x hx=>(hP.mem x).1 (List.mem_flatten.2 ⟨S,hrm S hS,hx⟩);have hrl2: ∀S∈rs,S.length≤n:=fun S hS=>by have:S.Nodup:=nodup_mem _ S hP.nd (hrm S hS);exact nodup_len n S this (hrv S hS)
 have hnr:nr= .sl (s.fa.map iR) false:=rfl;have hpg:pg= .ptr H.n (genOf 25) 0 2:=rfl;generalize hL:loopC _ _ _ _ _ _ _ _ _ _=L;let Q (L:CRes):Prop:=(∃tm H',L= .exit 0 tm H' []∧tm.length=51∧getT tm 1=pg∧Ext H3 H'∧(rs.any fun S=>S.any (badB (adjN adj) s.fa S))=false)∨
  (∃tm H',L= .ret tm H' []∧getT tm 2= .int .i64 (-1)∧Ext H3 H'∧(rs.any fun S=>S.any (badB (adjN adj) s.fa S))=true)
 have hQ : Q L :=by
  subst hL;refine loop_up _ Q
   (fun j tm H1=>tm.length=51∧getT tm 1=pg∧getT tm 3=nr∧getT tm 14= .sl (rs.map fun S=> [setV S]) false∧getT tm 15= .int .i64 rs.length∧getT tm 16= .int .i64 j∧Ext H3 H1∧((rs.take j).any fun S=>S.any (badB (adjN adj) s.fa S))=false)
   rs.length ?_ lf 0 _ _ (Nat.zero_le _) (by omega) ?_
  · rintro j tm H1 hj ⟨hl,h1,h3,h14,h15,h16,hE,hcl⟩;generalize hB:evalCode _ _ _ _ _ _ tm H1 []=R;by_cases hjn:j<rs.length
    · obtain ⟨S, hS0⟩: ∃S,rs[j]? =some S:=⟨rs[j],by simp [hjn]⟩;have hS:=List.mem_of_getElem? hS0;have hSl:=hrl2 S hS;have hlt:decide ((j:Int)<(rs.length:Int))=true:=by simp;omega
      have hwr:IntKind.i64.wrap ((j:Int)+1)=((j+1:Nat):Int):=by rw [wrap64 _ (by omega) (by omega)];rfl
      have hrow:(rs.map fun S=> [setV S])[j]? =some [setV S]:=by rw [List.getElem?_map,hS0];rfl
      have hix:ixA 1 (.sl (rs.map fun S=> [setV S]) false) (.int .i64 (j:Nat))=some (.fptr [setV S] 0):=IsSl.ix (.inr ⟨false,rfl⟩) hrow rfl;have hSV:setV S= .sl ((nI S).map iR) false:=rfl;have hSV2:((nI S).map iR).length=S.length:=by simp [nI]
      simp only [go_sem,hl,h14,h15,h16,hix,hlt,hSV,hSV2] at hB;revert hB;generalize hL:loopC _ _ _ _ _ _ _ _ _ _=L;intro hB;let Q2 (L:CRes):Prop:=(∃tm H',L= .exit 2 tm H' []∧tm.length=51∧getT tm 1=pg∧getT tm 3=nr∧getT tm 14= .sl (rs.map fun S=> [setV S]) false∧getT tm 15= .int .i64 rs.length∧getT tm 16= .int .i64 j∧Ext H3 H'∧S.any (badB (adjN adj) s.fa S)=false)∨
       (∃tm H',L= .ret tm H' []∧getT tm 2= .int .i64 (-1)∧Ext H3 H'∧S.any (badB (adjN adj) s.fa S)=true)
      have hQ2 : Q2 L:=by
       subst hL;refine loop_up _ Q2
        (fun e tm H1=>tm.length=51∧getT tm 1=pg∧getT tm 3=nr∧getT tm 5= .sl ((nI S).map iR) false∧getT tm 14= .sl (rs.map fun S=> [setV S]) false∧getT tm 15= .int .i64 rs.length∧getT tm 16= .int .i64 j∧
         getT tm 20= .sl ((nI S).map iR) false∧getT tm 21= .int .i64 S.length∧getT tm 22= .int .i64 e∧Ext H3 H1∧(S.take e).any (badB (adjN adj) s.fa S)=false)
        S.length ?_ lf 0 _ _ (Nat.zero_le _) (by omega) ?_
       · rintro e tm H1 he ⟨hl,h1,h3,h5,h14,h15,h16,h20,h21,h22,hE,hcl2⟩;rw [hnr] at h3;rw [hpg] at h1;generalize hB:evalCode _ _ _ _ _ _ tm H1 []=R;by_cases hen:e<S.length
         · obtain ⟨a,ha⟩: ∃a,S[e]? =some a:=⟨S[e],by simp [hen]⟩;have han:=hrv S hS a (List.mem_of_getElem? ha);have hrow:((nI S).map iR)[e]? =some (iR (a:Int)):=by simp [nI,ha]
           have hix:ixA 1 (.sl ((nI S).map iR) false) (.int .i64 (e:Nat))=some (.fptr (iR (a:Int)) 0):=IsSl.ix (.inr ⟨false,rfl⟩) hrow rfl;have hir:iR (a:Int)= [.int .i64 a]:=rfl;rw [hir] at hix;have hlt:decide ((e:Int)<(S.length:Int))=true:=by simp;omega
           have hwr:IntKind.i64.wrap ((e:Int)+1)=((e+1:Nat):Int):=by rw [wrap64 _ (by omega) (by omega)];rfl
           have hrow2:(s.fa.map iR)[a]? =some (iR (gi s.fa a)):=by rw [List.getElem?_map,gi_some (by rw [hwf.lfa];exact han)];rfl
           have hix2:ixA 1 (.sl (s.fa.map iR) false) (.int .i64 (a:Nat))=some (.fptr (iR (gi s.fa a)) 0):=IsSl.ix (.inr ⟨false,rfl⟩) hrow2 rfl;have hir2:iR (gi s.fa a)= [.int .i64 (gi s.fa a)]:=rfl;rw [hir2] at hix2;have gn:=get_push_new H1 (.cells (genOf 3) (genOf 3) 0 [.int .i64 (a:Nat)]);have eP:=Ext.push H1 (.cells (genOf 3) (genOf 3) 0 [.int .i64 (a:Nat)]);have hset:((H1.push (.cells (genOf 3) (genOf 3) 0 [.int .i64 0])).set H1.n (.cells (genOf 3) (genOf 3) 0 [.int .i64 (a:Nat)]))=H1.push (.cells (genOf 3) (genOf 3) 0 [.int .i64 (a:Nat)]):=push_set _ _ _;have hstep:(S.take (e+1)).any (badB (adjN adj) s.fa S)=badB (adjN adj) s.fa S a:=by rw [List.take_add_one,ha,List.any_append,hcl2];simp
           have hge:decide (gi s.fa a≥0)=decide (0≤gi s.fa a):=rfl
           cases hc1:decide (gi s.fa a≥0) with
           | false=>
             have hbad:badB (adjN adj) s.fa S a=false:=by unfold badB;rw [←hge,hc1];rfl
             simp only [go_sem,hl,h1,h3,h5,h20,h21,h22,hix,hix2,hlt,hwr,gn,hset,hc1,Nat.le_refl] at hB;subst hB;refine .inl ⟨_,_,rfl,hen,?_⟩;simp only [go_sem,hl,h1,h3,h5,h14,h15,h16,h20,h21,hwr,hnr,hpg];exact ⟨hE.trans eP,by rw [hstep,hbad]⟩
           | true=>
             cases hc2:decide (S.length>1) with
             | true=>
               have hbad:badB (adjN adj) s.fa S a=true:=by unfold badB;rw [←hge,hc1,show decide (1<S.length)=true from hc2];rfl
               have hc3:decide ((S.length:Int)>1)=true:=by simp at hc2⊢;omega
               simp only [go_sem,hl,h1,h3,h5,h20,h21,h22,hix,hix2,hlt,hSV2,gn,hset,hc1,hc3,Nat.le_refl] at hB;subst hB;refine .inr ⟨rfl,.inr ⟨_,_,rfl,?_⟩⟩;simp only [go_sem,hl];exact ⟨hE.trans eP,by rw [List.any_eq_true];exact ⟨a,List.mem_of_getElem? ha,hbad⟩⟩
             | false=>
               have hc3:decide ((S.length:Int)>1)=false:=by simp at hc2⊢;omega
               obtain ⟨r0,hr0⟩: ∃r,er[a]? =some r:=⟨er[a]'(by omega),by simp⟩;obtain ⟨x,rows,rfl,hadj,hx,hxs,hee⟩:=hg.row a r0 hr0;obtain ⟨hrRR,hto⟩:=htot rows (List.mem_of_getElem? hadj);have hts:adjN adj a=rows.map fun e=>(toE e).toNat:=by simp [adjN,hadj]
               have gG:(H1.push (.cells (genOf 3) (genOf 3) 0 [.int .i64 (a:Nat)])).get H.n=some (.cells (genOf 25) (genOf 25) 0 [ss,es]):=eP.get (hE.get g3);obtain ⟨H6,q30,e6⟩:=c30 pr lf (hp 30 (by decide)) (hp 55 (by decide)) (k+n+3) 62 x rows [.ptr H1.n (genOf 3) 0 1] (H1.push (.cells (genOf 3) (genOf 3) 0 [.int .i64 (a:Nat)])) (fun r=>toE r==(a:Int)) hx (by omega) (by omega) (fun r hr=>(hee r hr).len) rfl
                (fun r hr H7 h7=>by obtain ⟨a1,b1,c1,n1,y,bl,rfl,rfl,hy,-⟩:=hee r hr;exact ⟨H7,c62 pr lf hp (k+n+2) (.int .i64 a1) b1 (.int .i64 c1) n1 a H1.n (genOf 3) (genOf 3) (genOf 3) 0 H7 rfl hy.okCell rfl (h7.get gn) (Nat.le_refl _),Ext.refl _⟩)
               unfold EV at q30;have e7:=Ext.gc e6 (.bool (rows.any fun r=>toE r==(a:Int)));rw [n_push] at e7;have hcon:(adjN adj a).contains a=rows.any (fun r=>toE r==(a:Int)):=by
                rw [hts,Bool.eq_iff_iff,List.contains_iff_mem,List.any_eq_true,List.mem_map];constructor
                · rintro ⟨r,h1,h2⟩;have:=(hto r h1).1;exact ⟨r,h1,by simp;omega⟩
                · rintro ⟨r,h1,h2⟩;exact ⟨r,h1,by simp at h2;omega⟩
               have hbad:badB (adjN adj) s.fa S a=rows.any (fun r=>toE r==(a:Int)):=by unfold badB;rw [←hge,hc1,show decide (1<S.length)=false from hc2,hcon];rfl
               rw [hbad] at hstep
               cases hcb:(rows.any fun r=>toE r==(a:Int)) with
               | true=>
                 rw [hcb] at hbad q30 e7;simp only [go_sem,hl,h1,h3,h5,h20,h21,h22,hix,hix2,hlt,hSV2,gn,hset,hc1,hc3,gG,hes.opdV,hes.ix (k:=1) hr0 rfl,hx.opdV,hx.noLoc,q30,Nat.le_refl] at hB;subst hB;refine .inr ⟨rfl,.inr ⟨_,_,rfl,?_⟩⟩;simp only [go_sem,hl];exact ⟨(hE.trans eP).trans e7,by rw [List.any_eq_true];exact ⟨a,List.mem_of_getElem? ha,hbad⟩⟩
               | false=>
                 rw [hcb] at hbad q30 e7 hstep;simp only [go_sem,hl,h1,h3,h5,h20,h21,h22,hix,hix2,hlt,hwr,hSV2,gn,hset,hc1,hc3,gG,hes.opdV,hes.ix (k:=1) hr0 rfl,hx.opdV,hx.noLoc,q30,Nat.le_refl] at hB;subst hB;refine .inl ⟨_,_,rfl,hen,?_⟩;simp only [go_sem,hl,h1,h3,h5,h14,h15,h16,h20,h21,hwr,hnr,hpg];exact ⟨(hE.trans eP).trans e7,hstep⟩
         · have hj3:e=S.length:=by omega
           subst hj3;have hlt:decide ((S.length:Int)<(S.length:Int))=false:=by simp
           simp only [go_sem,hl,h21,h22,hlt] at hB;subst hB;rw [List.take_length] at hcl2;refine .inr ⟨rfl,.inl ⟨_,_,rfl,?_⟩⟩;simp only [go_sem,hl,h1,h3,h14,h15,h16,hnr,hpg];exact ⟨hE,hcl2⟩
       · simp only [go_sem,hl,h1,h3,h14,h15,h16,List.take_zero,List.any_nil,Int.natCast_zero];exact hE
      have hstep:(rs.take (j+1)).any (fun S=>S.any (badB (adjN adj) s.fa S))=S.any (badB (adjN adj) s.fa S):=by rw [List.take_add_one,hS0,List.any_append,hcl];simp
      rcases hQ2 with ⟨tm2,H5,rfl,hl2,h1',h3',h14',h15',h16',hE',hc⟩|⟨tm2,H5,rfl,h2',hE',hc⟩
      · simp only [go_sem,hl2,h16',hwr] at hB;subst hB;refine .inl ⟨_,_,rfl,hjn,?_⟩;simp only [go_sem,hl2,h1',h3',h14',h15',hwr];exact ⟨hE',by rw [hstep,hc]⟩
      · simp only [go_sem] at hB;subst hB;refine .inr ⟨rfl,.inr ⟨_,_,rfl,h2',hE',?_⟩⟩;rw [List.any_eq_true];exact ⟨S,hS,hc⟩
    · have hj3:j=rs.length:=by omega
      subst hj3;have hlt:decide ((rs.length:Int)<(rs.length:Int))=false:=by simp
      simp only [go_sem,hl,h15,h16,hlt] at hB;subst hB;rw [List.take_length] at hcl;refine .inr ⟨rfl,.inl ⟨_,_,rfl,?_⟩⟩;simp only [go_sem,hl,h1];exact ⟨hE,hcl⟩
  · simp only [go_sem,List.take_zero,List.any_nil,Int.natCast_zero,List.length_map];exact ⟨rfl,rfl,Ext.refl _⟩
 have hany:((roundsT srtN (adjN adj) n n).rs.any fun S=>S.any (badB (adjN adj) s.fa S))=rs.any fun S=>S.any (badB (adjN adj) s.fa S):=by
  rw [Bool.eq_iff_iff,List.any_eq_true,List.any_eq_true];constructor
  · rintro ⟨S,h1,h2⟩;exact ⟨S,hrs.mem_iff.2 h1,h2⟩
  · rintro ⟨S,h1,h2⟩;exact ⟨S,hrs.mem_iff.1 h1,h2⟩
 unfold longV;rw [hany];rcases hQ with ⟨tm,H4,rfl,hl,h1,hE,hc⟩|⟨tm,H4,rfl,h2,hE,hc⟩
 · rw [hpg] at h1;have g4:H4.get H.n=some (.cells (genOf 25) (genOf 25) 0 [ss,es]):=hE.get g3;have hHn:=get_lt g4;have f1: ∀o o',((H4.push (.map false [] [])).push o).set (H4.n+1) o'=(H4.push (.map false [] [])).push o':=fun o o'=>push_set (H4.push (.map false [] [])) o o';have f1g: ∀o,((H4.push (.map false [] [])).push o).get (H4.n+1)=some o:=fun o=>get_push_new (H4.push (.map false [] [])) o;have f2: ∀p o o',(((H4.push (.map false [] [])).push p).push o).set (H4.n+1+1) o'=((H4.push (.map false [] [])).push p).push o':=fun p o o'=>push_set ((H4.push (.map false [] [])).push p) o o';have f2g: ∀p o,(((H4.push (.map false [] [])).push p).push o).get (H4.n+1+1)=some o:=fun p o=>get_push_new ((H4.push (.map false [] [])).push p) o;have hTl:(roundsT srtN (adjN adj) n n).rs.length≤n:=by rw [←hrs.length_eq];exact hrl
   have hcalm:Calm (adjN adj) (roundsT srtN (adjN adj) n n).rs (fun v=>v<n∧0≤gi s.fa v):=by refine ⟨hP.cl,fun S hS i hi hni=> ?_,fun i hni k hk=>⟨hA i hni.1 k hk,(hS0 i hni.1 hni.2 k hk)⟩⟩;rw [←hany,List.any_eq_false] at hc;have h3:=hc S hS;rw [Bool.not_eq_true,List.any_eq_false] at h3;have h4:=h3 i hi;unfold badB at h4;rw [decide_eq_true hni.2,Bool.true_and,Bool.not_eq_true,Bool.or_eq_false_iff] at h4;refine ⟨by have:=h4.1;simp at this;omega,fun h=> ?_⟩;have:=h4.2;rw [List.contains_eq_mem] at this;simp [h] at this
   obtain ⟨d,hd⟩: ∃d,n=d+(roundsT srtN (adjN adj) n n).rs.length:=⟨n-(roundsT srtN (adjN adj) n n).rs.length,by omega⟩;generalize hH8:Hp.push (Hp.push (Hp.push H4 (.map false [] [])) (.cells (genOf 123) (genOf 123) 0 [.map H4.n])) (.cells (genOf 124) (genOf 124) 0 [.fn (.func 63) [] [.ptr (H4.n+1) (genOf 123) 0 1,.ptr H.n (genOf 25) 0 2,.ptr (H4.n+1+1) (genOf 124) 0 1]])=H8;have e8:Ext H4 H8:=by rw [←hH8];exact ((Ext.push _ _).trans (Ext.push _ _)).trans (Ext.push _ _)
   have n8:H8.n=H4.n+1+1+1:=by rw [←hH8];rfl
   have hF:FM ss es (H4.n+1) H.n (H4.n+1+1) H4.n (genOf 123) (genOf 25) (genOf 124) H8 []:=by
    refine ⟨?_,e8.get g4,?_,?_⟩
    · rw [←hH8,get_push_old _ _ _ (by simp only [n_push];omega)];exact get_push_new (H4.push _) _
    · rw [←hH8];exact get_push_new ((H4.push _).push _) _
    · rw [←hH8,get_push_old _ _ _ (by simp only [n_push];omega),get_push_old _ _ _ (by simp only [n_push];omega)];exact get_push_new H4 _
   obtain ⟨H9,l9,q63,hF9,hl9,hn9,hfr9⟩:=c63 pr lf hp ss es er adj n (H4.n+1) H.n (H4.n+1+1) H4.n (genOf 123) (genOf 25) (genOf 124) (roundsT srtN (adjN adj) n n).rs (fun v=>v<n∧0≤gi s.fa v) hes hg hlen hs.okCell hn hlf htot hcalm (fun v hv=>(hP.mem v).2 hv) (by omega)
    (roundsT srtN (adjN adj) n n).rs.length (k+5+d) 0 H8 [] (by omega) ⟨by omega,by rw [hS00];omega⟩ (by rw [List.take_length];exact (hP.mem 0).2 (by omega)) hF (fun p hp=>by cases hp)
   unfold EV at q63;rw [show k+5+d+(roundsT srtN (adjN adj) n n).rs.length=k+n+5 by omega] at q63;rw [Int.natCast_zero] at q63;have hgc:gc (H4.n+1+1+1) (.int .i64 (lpN (adjN adj) (roundsT srtN (adjN adj) n n).rs.length 0:Nat)) H9=H9:=gc_same _ _ _ (by rw [hn9,n8]);rw [←hH8] at q63;simp only [go_sem,hl,h1,f1,f1g,f2,f2g,mkFn_E1,q63,hgc,hc,Nat.le_refl];exact ⟨H9,rfl,hE3.trans (hE.trans ⟨by rw [hn9,n8];omega,fun i hi=>by rw [hfr9 i (by omega),e8.2 i hi]⟩)⟩
 · rw [hc];simp only [go_sem,h2];exact ⟨H4,rfl,hE3.trans hE⟩
end
open Go Go.Proofs.Tryz
set_option maxRecDepth 100000
set_option maxHeartbeats 2000000
section
variable (pr:Nat→Option (List Val→Hp→FRes)) (lf:Nat)
structure Prims:Prop where
  no:noPr pr
  p98:pr 98=none
  p153:pr 153=none
  p235:pr 235=some (pSeq 156 3)
  p155:pr 155=some pSort
  p60:pr 60=some (pSortF 61)
theorem c18 (hp:Prims pr) (k:Nat) (ss es:Val) (sr er:List (List Val)) (adj:List (List (List Val))) (H:Hp) (g:Gph lf ss es sr er adj) (hsh:shapeB sr.length adj=true):
  ∃(H':Hp) (rs:List (List Nat)),EV pr lf (k+sr.length+6) 18 [.agg [ss,es]] H= .ret (.tup [.sl (rs.map fun S=> [setV S]) false,.int .i64 0]) H'∧Ext H H'∧MsOf (roundsT srtN (adjN adj) sr.length sr.length).rs rs:=by
 obtain ⟨hs,he,hg,hsl,hn,hm,hrow,hbig⟩:=g;obtain ⟨hn0,hn4,hal,hto⟩:=shape_of hsh;have hel:er.length=sr.length:=by rw [hg.len,hal]
 have hp':=hp.no;unfold EV;rw [evalFn_S (E1 pr) okd lf (k+sr.length+5) 18 8 _ H f18 _ (hp' 18 (by decide)) (fns_18 pr) rfl rfl];obtain ⟨H1,h1,e1⟩:=c9 pr lf (hp' 9 (by decide)) (hp' 30 (by decide)) (hp' 55 (by decide)) (hp' 31 (by decide)) (k+sr.length+1) ss es sr er adj H hs he hg hsl hn (fun l hl=>(hrow l hl).2);rw [hsh] at h1;have e2:=Ext.gc e1 (.bool true);generalize hG:gc H.n (.bool true) H1=H2 at*;obtain ⟨H3,rs,h37,hrs,e3⟩:=cc37 pr lf hp' hp.p98 hp.p153 hp.p235 hp.p155 hp.p60 ss es sr er adj hs he hg sr.length rfl hel hn4 hn0 hbig (fun l hl=>⟨(hrow l hl).1,hto l hl⟩) k H2;simp only [go_sem,hs.opdV,he.opdV,hs.okCell,he.okCell,h1,hG,h37];exact ⟨H3,rs,rfl,e2.trans e3,hrs⟩
theorem c20 (hp:Prims pr) (k:Nat) (ss es:Val) (sr er:List (List Val)) (adj:List (List (List Val))) (H:Hp) (g:Gph lf ss es sr er adj) (hsh:shapeB sr.length adj=true) (s:BS) (hS:Srch adj sr.length 0 s):
  ∃H':Hp,EV pr lf (k+sr.length+7) 20 [.agg [ss,es]] H= .ret (.tup [.bool (decide (longV (adjN adj) sr.length s.fa≥0)),.int .i64 0]) H'∧Ext H H':=by
 obtain ⟨hs,he,hg,hsl,hn,hm,hrow,hbig⟩:=g;obtain ⟨hn0,hn4,hal,hto⟩:=shape_of hsh;have hel:er.length=sr.length:=by rw [hg.len,hal]
 have hp':=hp.no;unfold EV;rw [evalFn_S (E1 pr) okd lf (k+sr.length+6) 20 9 _ H f20 _ (hp' 20 (by decide)) (fns_20 pr) rfl rfl];obtain ⟨H1,h1,e1⟩:=c9 pr lf (hp' 9 (by decide)) (hp' 30 (by decide)) (hp' 55 (by decide)) (hp' 31 (by decide)) (k+sr.length+2) ss es sr er adj H hs he hg hsl hn (fun l hl=>(hrow l hl).2);rw [hsh] at h1;have e2:=Ext.gc e1 (.bool true);generalize hG:gc H.n (.bool true) H1=H2 at*;obtain ⟨H3,h38,e3⟩:=c38 pr lf hp' hp.p98 hp.p153 hp.p235 hp.p155 hp.p60 ss es sr er adj hs he hg sr.length rfl hel hn4 hn0 hbig (fun l hl=>⟨(hrow l hl).1,hto l hl⟩) k H2 s hS;unfold EV at h38;simp only [go_sem,hs.opdV,he.opdV,hs.okCell,he.okCell,h1,hG,h38];exact ⟨_,rfl,e2.trans (Ext.gc e3 _)⟩
theorem c22 (hp:Prims pr) (k:Nat) (ss es:Val) (sr er:List (List Val)) (adj:List (List (List Val))) (H:Hp) (g:Gph lf ss es sr er adj) (hsh:shapeB sr.length adj=true) (s:BS) (hS:Srch adj sr.length 0 s):
  ∃H':Hp,EV pr lf (k+sr.length+7) 22 [.agg [ss,es]] H= .ret (.tup [.int .i64 (if longV (adjN adj) sr.length s.fa<0 then 0 else longV (adjN adj) sr.length s.fa),.int .i64 (if longV (adjN adj) sr.length s.fa<0 then 4 else 0)]) H'∧Ext H H':=by
 obtain ⟨hs,he,hg,hsl,hn,hm,hrow,hbig⟩:=g;obtain ⟨hn0,hn4,hal,hto⟩:=shape_of hsh;have hel:er.length=sr.length:=by rw [hg.len,hal]
 have hp':=hp.no;unfold EV;rw [evalFn_S (E1 pr) okd lf (k+sr.length+6) 22 12 _ H f22 _ (hp' 22 (by decide)) (fns_22 pr) rfl rfl];obtain ⟨H1,h1,e1⟩:=c9 pr lf (hp' 9 (by decide)) (hp' 30 (by decide)) (hp' 55 (by decide)) (hp' 31 (by decide)) (k+sr.length+2) ss es sr er adj H hs he hg hsl hn (fun l hl=>(hrow l hl).2);rw [hsh] at h1;have e2:=Ext.gc e1 (.bool true);generalize hG:gc H.n (.bool true) H1=H2 at*;obtain ⟨H3,h38,e3⟩:=c38 pr lf hp' hp.p98 hp.p153 hp.p235 hp.p155 hp.p60 ss es sr er adj hs he hg sr.length rfl hel hn4 hn0 hbig (fun l hl=>⟨(hrow l hl).1,hto l hl⟩) k H2 s hS;unfold EV at h38
 cases hc:decide (longV (adjN adj) sr.length s.fa<0) with
 | true=>
   have hc2:longV (adjN adj) sr.length s.fa<0:=by simpa using hc
   simp only [go_sem,hs.opdV,he.opdV,hs.okCell,he.okCell,h1,hG,h38,hc,hc2];exact ⟨_,rfl,e2.trans (Ext.gc e3 _)⟩
 | false=>
   have hc2: ¬longV (adjN adj) sr.length s.fa<0:=by simpa using hc
   simp only [go_sem,hs.opdV,he.opdV,hs.okCell,he.okCell,h1,hG,h38,hc,hc2];exact ⟨_,rfl,e2.trans (Ext.gc e3 _)⟩
end
open Go Go.Proofs.Tryz
set_option maxRecDepth 100000
set_option maxHeartbeats 4000000
theorem longV_calm {A n fa} (h:0≤longV A n fa):((roundsT srtN A n n).rs.any fun S=>S.any (badB A fa S))=false∧longV A n fa=(lpN A (roundsT srtN A n n).rs.length 0:Nat):=by
 unfold longV at h⊢;split
 · next hc=>rw [if_pos hc] at h;omega
 · next hc=>exact ⟨by simpa using hc,rfl⟩
theorem bad_calm {n:Nat} {A:Nat→List Nat} {s:BS} (hP:Parts n A (roundsT srtN A n n).rs) (hA: ∀i,i<n→ ∀k∈A i,k<n) (hS0: ∀v,v<n→0≤gi s.fa v→ ∀k∈A v,0≤gi s.fa k)
  (hc:((roundsT srtN A n n).rs.any fun S=>S.any (badB A s.fa S))=false):Calm A (roundsT srtN A n n).rs (fun v=>v<n∧0≤gi s.fa v):=by
 refine ⟨hP.cl,fun S hS i hi hni=> ?_,fun i hni k hk=>⟨hA i hni.1 k hk,(hS0 i hni.1 hni.2 k hk)⟩⟩;rw [List.any_eq_false] at hc;have h3:=hc S hS;rw [Bool.not_eq_true,List.any_eq_false] at h3;have h4:=h3 i hi;unfold badB at h4;rw [decide_eq_true hni.2,Bool.true_and,Bool.not_eq_true,Bool.or_eq_false_iff] at h4;refine ⟨by have:=h4.1;simp at this;omega,fun h=> ?_⟩;have:=h4.2;rw [List.contains_eq_mem] at this;simp [h] at this
theorem Walk.snoc {A:Nat→List Nat}: ∀(m:Nat) {a c d:Nat},Walk A m a c→d∈A c→Walk A (m+1) a d
 |0,a,c,d,h,hd=>⟨d,by rw [show a=c from h];exact hd,rfl⟩
 |m+1,a,c,d,⟨b,hb,hw⟩,hd=>⟨b,hb,Walk.snoc m hw hd⟩
structure Gin (lf:Nat) (ss es:Val) (sr er:List (List Val)) (adj:List (List (List Val))):Prop where
  hs:IsSl ss sr
  he:IsSl es er
  hg:OkG er adj
  hsl:sr.length<4611686018427387904
  hn:er.length<lf
  hm:sr.length<lf
  hrow: ∀l∈adj,l.length≤3000000000000∧l.length<lf
  hst: ∀r∈sr,∃x y,r= [x,y]∧OkS lf [x,y]
  big:1000000000000000<lf
theorem retC_frz (E:Env) (f n0 tm v H) (h:pub depthP v H=some (v,H)):retC E f n0 tm (.ret v H)= .ok v tm (gc n0 v H):=by simp only [retC,h];split<;>rfl
theorem pub_sl2 (rows:List (List Val)) (c:Bool) (k:IntKind) (a:Int) (H:Hp):pub depthP (Val.tup [.sl rows c,.int k a]) H=some (Val.tup [.sl rows c,.int k a],H):=by show (match mapH (pub 49) [Val.sl rows c,.int k a] H with|some (cs,H)=>fL cs fun cs=>some (Val.tup cs,H)|none=>none)=_;rfl
theorem pub_nl2 (k:IntKind) (a:Int) (H:Hp):pub depthP (Val.tup [.nilsl,.int k a]) H=some (Val.tup [.nilsl,.int k a],H):=by show (match mapH (pub 49) [Val.nilsl,.int k a] H with|some (cs,H)=>fL cs fun cs=>some (Val.tup cs,H)|none=>none)=_;rfl
theorem pub_bo2 (b:Bool) (k:IntKind) (a:Int) (H:Hp):pub depthP (Val.tup [.bool b,.int k a]) H=some (Val.tup [.bool b,.int k a],H):=by show (match mapH (pub 49) [Val.bool b,.int k a] H with|some (cs,H)=>fL cs fun cs=>some (Val.tup cs,H)|none=>none)=_;rfl
theorem retC_MV (E:Env) (f:Nat) (H H':Hp) (v:Val) (w:List Int) (k:IntKind) (e:Int) (hk:E.keep f=false) (h:MV H.n H' v w) (he:Ext H H'):
  ∃(v':Val) (H2:Hp),(∀tm,retC E f H.n tm (.ret (.tup [v,.int k e]) H')= .ok (.tup [v',.int k e]) tm H2)∧IsSl v' (w.map iR)∧Ext H H2:=by
 rcases h with ⟨rfl,rfl⟩|⟨id,j,d,rfl,hg,hid,hd,hj⟩
 · exact ⟨.nilsl,gc H.n (.tup [.nilsl,.int k e]) H',fun tm=>retC_frz _ _ _ _ _ _ (pub_nl2 k e H'),.inl ⟨rfl,rfl⟩,Ext.gc he _⟩
 · have hp:=pub_ref 47 H' id _ _ d 0 w false hg hd;generalize hF:Hp.set H' id _=F at hp;have hE:Ext H F:=by rw [←hF];exact Ext.set he hid _
   refine ⟨.sl (w.map iR) false,gc H.n (.tup [.sl (w.map iR) false,.int k e]) F,fun tm=> ?_,.inr ⟨false,rfl⟩,Ext.gc hE _⟩;refine retC_pub E f H.n tm _ _ _ _ hk ?_;have h2:pub 49 (.int k e) F=some (Val.int k e,F):=rfl;show (match mapH (pub 49) [Val.ref id (genOf 3+j) 0 1 w.length false,.int k e] H' with|some (cs,H)=>fL cs fun cs=>some (Val.tup cs,H)|none=>none)=_;simp only [mapH,hp,h2,fL_eq]
section
variable (pr:Nat→Option (List Val→Hp→FRes)) (lf:Nat)
@[go_sem] theorem ia_45_0 (s):indexAddrP (E1 pr) 45 (.lp s 0 0) (.int .i64 0)=some (.lp s 0 0):=by kernel_rfl
@[go_sem] theorem ia_45_1 (s):indexAddrP (E1 pr) 45 (.lp s 0 0) (.int .i64 1)=some (.lp s 0 1):=by kernel_rfl
theorem p6_ok (H:Hp):pCl [] (.bool true) [] H= .ret (.bool true) H:=rfl
end
open Go Go.Proofs.Tryz
set_option maxRecDepth 100000
section
variable {P:Program}
theorem rd_struct {n t vs fs} (h:RdV P (n+1) t vs) (hu:P.underlying t=some (.struct fs)) (ht:tilesB P t=true):RdF P (RdV P n) (fs.toList.map (·.type)) vs:=by unfold RdV at h;rw [hu] at h;exact h ht
theorem rd_slice {n t vs e} (h:RdV P (n+1) t vs) (hu:P.underlying t=some (.slice e)) (hc:0<P.cellsOf e): ∃x rows,vs= [x]∧IsSl x rows∧rows.length*P.bytesOf e≤reachBytes∧ ∀r∈rows,r.length=P.cellsOf e∧RdV P n e r:=by unfold RdV at h;rw [hu] at h;exact h hc
theorem rd_int {n t vs k} (h:RdV P (n+1) t vs) (hu:P.underlying t=some (.int k)): ∃a,vs= [.int k a]∧(Lit.int k a).wf=true:=by unfold RdV at h;rw [hu] at h;exact h
theorem rd_str {n t vs} (h:RdV P (n+1) t vs) (hu:P.underlying t=some .string): ∃l m,vs= [.str l m]∧l≤reachBytes:=by unfold RdV at h;rw [hu] at h;exact h
end
def stTypes (P:Program) (t:TypeId):Option (List TypeId):=match P.underlying t with
 |some (.struct fs)=>some (fs.toList.map (·.type))
 |_=>none
theorem rd_st {P:Program} {n t vs ts} (h:RdV P (n+1) t vs) (hs:stTypes P t=some ts) (ht:tilesB P t=true):RdF P (RdV P n) ts vs:=by
 unfold stTypes at hs
 cases hu:P.underlying t with
 |none=>rw [hu] at hs;cases hs
 | some u=>
   rw [hu] at hs;cases u<;>cases hs;exact rd_struct h hu ht
theorem len1 {α:Type} {l:List α} (h:l.length=1): ∃x,l= [x]:=List.length_eq_one_iff.1 h
theorem u22:prog.underlying 22=some (.slice 56):=by kernel_rfl
theorem u23:prog.underlying 23=some (.slice 47):=by kernel_rfl
theorem u47:prog.underlying 47=some (.slice 51):=by kernel_rfl
theorem u28:prog.underlying 28=some (.slice 3):=by kernel_rfl
theorem u53:prog.underlying 53=some (.slice 71):=by kernel_rfl
theorem u54:prog.underlying 54=some (.slice 53):=by kernel_rfl
theorem u3:prog.underlying 3=some (.int .i64):=by kernel_rfl
theorem u5:prog.underlying 5=some (.int .u8):=by kernel_rfl
theorem u69:prog.underlying 69=some (.int .i64):=by kernel_rfl
theorem u9:prog.underlying 9=some .string:=by kernel_rfl
theorem s25:stTypes prog 25=some [22,23]:=by kernel_rfl
theorem s56:stTypes prog 56=some [53,54]:=by kernel_rfl
theorem s51:stTypes prog 51=some [49,3]:=by kernel_rfl
theorem s49:stTypes prog 49=some [3,28,3]:=by kernel_rfl
theorem s71:stTypes prog 71=some [69,3,9,9,53,53]:=by kernel_rfl
theorem tl25:tilesB prog 25=true:=by kernel_rfl
theorem tl56:tilesB prog 56=true:=by kernel_rfl
theorem tl51:tilesB prog 51=true:=by kernel_rfl
theorem tl49:tilesB prog 49=true:=by kernel_rfl
theorem tl71:tilesB prog 71=true:=by kernel_rfl
theorem b56:prog.bytesOf 56=48:=by kernel_rfl
theorem b47:prog.bytesOf 47=24:=by kernel_rfl
theorem b51:prog.bytesOf 51=48:=by kernel_rfl
theorem b71:prog.bytesOf 71=96:=by kernel_rfl
theorem b53:prog.bytesOf 53=24:=by kernel_rfl
theorem b3:prog.bytesOf 3=8:=by kernel_rfl
theorem b5:prog.bytesOf 5=1:=by kernel_rfl
theorem k56:prog.cellsOf 56=2:=by kernel_rfl
theorem k47:prog.cellsOf 47=1:=by kernel_rfl
theorem k51:prog.cellsOf 51=4:=by kernel_rfl
theorem k71:prog.cellsOf 71=6:=by kernel_rfl
theorem k53:prog.cellsOf 53=1:=by kernel_rfl
theorem k3:prog.cellsOf 3=1:=by kernel_rfl
theorem k5:prog.cellsOf 5=1:=by kernel_rfl
theorem reach_eq:reachBytes=140737488351232:=rfl
abbrev lf0:Nat:=1000000000000001
theorem OkT_of: ∀(d:Nat) (n:Nat) (x:Val),2*d+1≤n→RdV prog n 53 [x]→OkT lf0 d x
 |0,n,x,hn,h=>by obtain ⟨m,rfl⟩: ∃m,n=m+1:=⟨n-1,by omega⟩;obtain ⟨y,rows,e,hs,-⟩:=rd_slice h u53 (by rw [k71];omega);cases e;exact ⟨rows,hs⟩
 |d+1,n,x,hn,h=>by obtain ⟨m,rfl⟩: ∃m,n=m+1+1+1:=⟨n-3,by omega⟩;obtain ⟨y,rows,e,hs,hl,hr⟩:=rd_slice h u53 (by rw [k71];omega);cases e;rw [b71,reach_eq] at hl;refine ⟨rows,hs,by unfold lf0;omega,by omega,fun r hr'=> ?_⟩;have hR:=rd_st (hr r hr').2 s71 tl71;obtain ⟨a1,r1,rfl,-,h1,hR⟩:=hR;obtain ⟨a2,r2,rfl,-,h2,hR⟩:=hR;obtain ⟨a3,r3,rfl,-,h3,hR⟩:=hR;obtain ⟨a4,r4,rfl,-,h4,hR⟩:=hR;obtain ⟨a5,r5,rfl,-,h5,hR⟩:=hR;obtain ⟨a6,r6,rfl,-,h6,hR⟩:=hR;obtain rfl:r6= []:=hR;obtain ⟨i1,rfl,-⟩:=rd_int h1 u69;obtain ⟨i2,rfl,-⟩:=rd_int h2 u3;obtain ⟨l1,m1,rfl,hl1⟩:=rd_str h3 u9;obtain ⟨l2,m2,rfl,hl2⟩:=rd_str h4 u9;rw [reach_eq] at hl1 hl2;obtain ⟨y5,-,rfl,-⟩:=rd_slice h5 u53 (by rw [k71];omega);obtain ⟨y6,-,rfl,-⟩:=rd_slice h6 u53 (by rw [k71];omega);exact ⟨.i64,.i64,i1,i2,l1,m1,l2,m2,y5,y6,rfl,by omega,by omega,OkT_of d (m+1) y5 (by omega) h5,OkT_of d (m+1) y6 (by omega) h6⟩
theorem OkS_of {n:Nat} {r:List Val} (hn:200≤n) (h:RdV prog n 56 r): ∃x y,r= [x,y]∧OkS lf0 [x,y]:=by obtain ⟨m,rfl⟩: ∃m,n=m+1+1:=⟨n-2,by omega⟩;obtain ⟨a1,r1,rfl,-,h1,hR⟩:=rd_st h s56 tl56;obtain ⟨a2,r2,rfl,-,h2,hR⟩:=hR;obtain rfl:r2= []:=hR;obtain ⟨x,-,rfl,-⟩:=rd_slice h1 u53 (by rw [k71];omega);obtain ⟨y,rows,rfl,hs,hl,hr⟩:=rd_slice h2 u54 (by rw [k53];omega);rw [b53,reach_eq] at hl;refine ⟨x,y,rfl,x,y,rows,rfl,OkT_of 81 (m+1) x (by omega) h1,hs,by unfold lf0;omega,by omega,fun r hr'=> ?_⟩;obtain ⟨hl1,h3⟩:=hr r hr';rw [k53] at hl1;obtain ⟨z,rfl⟩:=len1 hl1;exact ⟨z,rfl,OkT_of 81 m z (by omega) h3⟩
theorem OkE_of {n:Nat} {r:List Val} (hn:10≤n) (h:RdV prog n 51 r):OkE r:=by obtain ⟨m,rfl⟩: ∃m,n=m+1+1+1:=⟨n-3,by omega⟩;obtain ⟨a1,r1,rfl,-,h1,hR⟩:=rd_st h s51 tl51;obtain ⟨a2,r2,rfl,-,h2,hR⟩:=hR;obtain rfl:r2= []:=hR;obtain ⟨b1,q1,rfl,-,g1,hQ⟩:=rd_st h1 s49 tl49;obtain ⟨b2,q2,rfl,-,g2,hQ⟩:=hQ;obtain ⟨b3',q3,rfl,-,g3,hQ⟩:=hQ;obtain rfl:q3= []:=hQ;obtain ⟨i1,rfl,-⟩:=rd_int g1 u3;obtain ⟨i3,rfl,-⟩:=rd_int g3 u3;obtain ⟨i4,rfl,-⟩:=rd_int h2 u3;obtain ⟨x,rows,rfl,hs,hl,-⟩:=rd_slice g2 u28 (by rw [k3];omega);rw [b3,reach_eq] at hl;exact ⟨i1,x,i3,i4,x,rows,rfl,rfl,hs,by omega⟩
theorem Gin_of {vs:List Val} (h: ∀n,RdV prog n 25 vs): ∃(ss es:Val) (sr er:List (List Val)) (adj:List (List (List Val))),vs= [ss,es]∧Gin lf0 ss es sr er adj:=by
 obtain ⟨a1,r1,rfl,-,h1,hR⟩:=rd_st (h 400) s25 tl25;obtain ⟨a2,r2,rfl,-,h2,hR⟩:=hR;obtain rfl:r2= []:=hR;obtain ⟨ss,sr,rfl,hs,hsl,hsr⟩:=rd_slice h1 u22 (by rw [k56];omega);obtain ⟨es,er,rfl,he,hel,her⟩:=rd_slice h2 u23 (by rw [k47];omega);rw [b56,reach_eq] at hsl;rw [b47,reach_eq] at hel;have hE: ∀r∈er,∃(x:Val) (rows:List (List Val)),r= [x]∧IsSl x rows∧rows.length≤3000000000000∧ ∀e∈rows,OkE e:=fun r hr=>by obtain ⟨-,h3⟩:=her r hr;obtain ⟨x,rows,rfl,hx,hxl,hrr⟩:=rd_slice h3 u47 (by rw [k51];omega);rw [b51,reach_eq] at hxl;exact ⟨x,rows,rfl,hx,by omega,fun e he=>OkE_of (by omega) (hrr e he).2⟩
 have hadj: ∃adj:List (List (List Val)),adj.length=er.length∧ ∀(i:Nat) (r:List Val),er[i]? =some r→ ∃(x:Val) (rows:List (List Val)),r= [x]∧adj[i]? =some rows∧IsSl x rows∧rows.length≤3000000000000∧ ∀e∈rows,OkE e:=by
  clear her hel he h2
  induction er with
  |nil=>exact ⟨[],rfl,fun i r h=>by cases h⟩
  | cons r er ih=>
    obtain ⟨adj,h1,h2⟩:=ih (fun r hr=>hE r (List.mem_cons_of_mem _ hr));obtain ⟨x,rows,e1,e2,e3,e4⟩:=hE r (List.mem_cons_self ..);refine ⟨rows::adj,by simp [h1],fun i r' hr'=> ?_⟩
    cases i with
    |zero=>cases hr';exact ⟨x,rows,e1,rfl,e2,e3,e4⟩
    |succ i=>exact h2 i r' hr'
 obtain ⟨adj,hal,hA⟩:=hadj;refine ⟨ss,es,sr,er,adj,rfl,hs,he,⟨hal.symm,by omega,fun i r hr=> ?_⟩,by omega,by unfold lf0;omega,by unfold lf0;omega,fun l hl=> ?_,fun r hr=>OkS_of (by omega) (hsr r hr).2,by unfold lf0;omega⟩
 · obtain ⟨x,rows,e1,e2,e3,e4,e5⟩:=hA i r hr;exact ⟨x,rows,e1,e2,e3,by omega,e5⟩
 · obtain ⟨i,hi,rfl⟩:=List.getElem_of_mem hl;obtain ⟨x,rows,-,e2,-,e4,-⟩:=hA i _ (List.getElem?_eq_getElem (by omega));rw [List.getElem?_eq_getElem hi] at e2;cases e2;exact ⟨e4,by unfold lf0;omega⟩
open Go Go.Proofs.Tryz Go.ChangeShapes
set_option maxRecDepth 100000
def κ0 (W:World):Kr:=⟨cellAt W,fun b=>match W.heap[b]? with
 |some (.map es c)=>some (.map es c)
 |_=>none,mu0⟩
theorem wr0 (W:World):WR (κ0 W) Hp.empty W where
 frz:=fun _ _ _ h=>h
 mps:=fun b o h=>by
  simp only [κ0] at h;split at h
  · next es c e=>cases h;exact e
  · cases h
 mmap:=fun b o h=>by
  simp only [κ0] at h;split at h
  · next es c e=>cases h;exact ⟨_,_,rfl⟩
  · cases h
 len:=rfl
 obj:=fun id o h=>by simp [Hp.get,Hp.empty] at h
 dom:=fun id g y h=>by simp [κ0,mu0] at h
 blk:=fun id g b C L h=>by simp [κ0,mu0] at h
 sep:=fun id g b C L id' g' C' L' h=>by simp [κ0,mu0] at h
theorem own0 (W:World) (b:Nat): ¬(κ0 W).own b:=fun ⟨_,_,_,_,h⟩=>by simp [κ0,mu0] at h
theorem fr0_heap {W W':World} {κ':Kr} (h:Fr (κ0 W).own (κ0 W) κ' W W') (b:Nat) (hb:b<W.heap.size):W'.heap[b]? =W.heap[b]? :=h.keep b hb (own0 W b)
theorem keptBut_of {W W':World} {κ':Kr} (h:Fr (κ0 W).own (κ0 W) κ' W W') (may:MemPlace→Prop):W.keptBut W' may:=by
 refine ⟨h.os,h.output,fun i hi=> ?_⟩;rw [fr0_heap h i hi]
 cases W.heap[i]? with
 |none=>rfl
 |some o=>cases o<;>simp
theorem sameAt_of {W W':World} {κ':Kr} (h:Fr (κ0 W).own (κ0 W) κ' W W') (p:MemPlace) (hp:p.block<W.heap.size):W.sameAt W' p:=by
 cases p with
 | cell b off=>
   show W'.cell? ⟨b,off,none⟩=W.cell? ⟨b,off,none⟩;unfold World.cell?;rw [fr0_heap h b hp]
 |map b=>exact fr0_heap h b hp
theorem frozen_of {W W':World} {κ':Kr} (h:Fr (κ0 W).own (κ0 W) κ' W W') (a:Addr) (hp:a.block<W.heap.size):W'.frozen? a=W.frozen? a:=by unfold World.frozen?;rw [fr0_heap h a.block hp]
theorem post_same_old {H:Type} {enc:TypeId×Value→H} {P:Program} {f:Func} {s:ChangeSpec} {apart fresh handsOn again:Bool} {W W':World} {args:Array Value} {v:Value} {ds gs:List (DataW H)} {before pa pv:List MemPlace}
  (hW:DataW.Whole enc P f.params.toList s.vars apart W args.toList ds gs before)
  (hres: ∀(b:Nat) (sp:Nat→Bool) (hd:Bool),DataW.TrodAll enc P W' b sp hd f.resultTypes.toList (v.resultList f.resultTypes.size) (s.fn H (ds++gs)).results [])
  (hargs: ∀sp:Nat→Bool,(∀p∈before,sp p.block=true)→DataW.TrodAll enc P W' 0 sp true f.params.toList args.toList (s.fn H (ds++gs)).args pa)
  (hvars: ∀sp:Nat→Bool,(∀p∈before,sp p.block=true)→DataW.TrodVars enc P W' sp s.vars (s.fn H (ds++gs)).vars pv)
  (hps:before=pa++pv) (hk:W.keptBut W' (· ∈before)) (hfz: ∀a:Addr,a.block<W.heap.size→W'.frozen? a=W.frozen? a)
  (hok: ∀(j:Nat) (t:TypeId) (r:Value),f.resultTypes[j]? =some t→(v.resultList f.resultTypes.size)[j]? =some r→Value.okWide P W' .any 0 t r):
  s.post enc P f apart fresh handsOn again W args v W':=by
 have hold: ∀p∈before,(fun b=>decide (b<W.heap.size)) p.block=true:=fun p hp=>by simpa using hW.lt p hp
 have hlt:=hW.lt;refine ⟨ds,gs,before,[],pa,pv,hW,hres _ _ _,hargs _ hold,hvars _ hold,World.keptBut_mono (fun p hp=>⟨hp,?_⟩) hk,fun _=> ?_⟩
 · rw [hps,List.mem_append] at hp;exact Or.inr hp
 · obtain ⟨_,_,_,_,_,hz,hn⟩:=hW;refine ⟨hok,_,_,([]++pa)++pv,⟨[]++pa,pv,trodAll_append (hargs _ (fun _ _=>rfl)) (hres _ _ _),hvars _ (fun _ _=>rfl),rfl,?_,?_⟩,?_⟩
   · intro b off hp;have hb:MemPlace.cell b off∈before:=by rw [hps];simpa using hp
     rw [hfz _ (hlt _ hb)];exact hz b off hb
   · intro ha;have:=hn ha;rw [hps] at this;simpa using this
   · intro p hp _;rw [hps];simpa using hp
end Go.PV
