/- A part of the proof. -/
import Derived.Orders
import Derived.Test.YtiodgpibgiodcaaGreatDoorP00
import Derived.Test.YtiodgpibgiodcaaGreatDoorP03
set_option linter.all false
set_option maxHeartbeats 4000000
namespace Go.aj
def gM (f:Nat->bK->Option bK):List Nat->bK->Option bK
 | [],a=>some a
 | b::l,a=>match f b a with
   |some c=>gM f l c
   |none=>none
structure q4 (ops:Array Oper) (e2:Nat->Nat->Bool):Prop where
  BE: ∀i o e,ops[i]? =some o->e∈o.after->Region.binds .any e=true->e.on<i
  gen: ∀i j,e2 j i=true->j<i/\ ∃o e,ops[i]? =some o/\e∈o.after/\Region.binds .any e=true/\(e.on=j\/e2 j e.on=true)
def Qm (q r:Nat->Bool) (d: ∀k,q k=true->r k=true): ∀(l:List Nat),(l.filter q).length<=(l.filter r).length:=by
 intro l
 induction l with
 |nil=>exact aT _
 | cons a l b=>
   rw [tx,tx]
   cases c:q a with
   |true=>rw [d a c];simpa using b
   | false=>
     cases e:r a with
     |true=>simp only [eJ,if_false,if_true,cl];omega
     |false=>simpa using b
def Qn (q r:Nat->Bool) (d: ∀k,q k=true->r k=true) (i:Nat) (g:q i=false) (j:r i=true): ∀(l:List Nat),i∈l->(l.filter q).length<(l.filter r).length:=by
 intro l
 induction l with
 |nil=>intro a;simp at a
 | cons b l m=>
   intro a;rw [tx,tx];by_cases c:b=i
   . subst c;rw [g,j];have:=Qm q r d l;simp only [eJ,if_false,if_true,cl];omega
   . have e:i∈l:=by
      cases a with
      |head=>exact absurd rfl c
      |tail _ a=>exact a
     have:=m e
     cases h:q b with
     |true=>rw [d b h];simpa using this
     | false=>
       cases o:r b with
       |true=>simp only [eJ,if_false,if_true,cl];omega
       |false=>simpa using this
def GM (p:Nat->Bool) (i:Nat) (c:p i=false) (l:List Nat) (b:i∈l):(l.filter λk=> !(p k||decide (k=i))).length<(l.filter λk=> !p k).length:=
 Qn _ _ (λk a=>by simp at a|-;exact a.1) i ai (by simp [c]) l b
section
variable {n len:Nat} {f:Nat->bK->Option bK} {σ:Nat->bK} {R W:Nat->List Nat} {dq:Nat->ou} {e2:Nat->Nat->Bool} {ops:Array Oper}
theorem q4.down (h:q4 ops e2) {p:Nat->Bool} (l: ∀i o e,p i=true->ops[i]? =some o->e∈o.after->Region.binds .any e=true->p e.on=true):
  ∀k j,p k=true->e2 j k=true->p j=true:=by
 intro k
 induction k using Nat.strongRecOn with
 | _ k r=>
   intro j q m;obtain ⟨_,o,e,b,c,d,a⟩:=h.gen k j m;have g:=l k o e q b c d;rcases a with a|a
   . subst a;exact g
   . exact r e.on (h.BE _ _ _ b c d) j g a
theorem vl {a:Array Bool} {k:Nat} (b:k<a.size):a.getD k true=a.getD k false:=by simp [Array.getD,b]
theorem rl {b:Array Bool} {i k:Nat} (d:i<b.size):(b.setIfInBounds i true).getD k false=(b.getD k false||decide (k=i)):=by
 by_cases a:k=i
 . subst a;simp [Array.getD,d]
 . have:i≠k:=λc=>a c.symm;simp only [CK,Array.getElem?_setIfInBounds_ne this,a,decide_false,Bool.or_false]
theorem jF.go (B:jF ops.size len f σ R W dq e2) (v:q4 ops e2): ∀(d t:Nat) (a:Array Bool) (s:bK),a.size=ops.size->
  sB ops.size len σ W dq (λk=>a.getD k false) s->(∀i o e,a.getD i false=true->ops[i]? =some o->e∈o.after->Region.binds .any e=true->a.getD e.on false=true)->
  ((List.range ops.size).filter λk=> !a.getD k false).length<=d->
  gM f (Region.linearise.go .any ops d t a []) s=some (σ ops.size):=by
 have F: ∀(a:Array Bool) (s:bK),a.size=ops.size->sB ops.size len σ W dq (λk=>a.getD k false) s->
   (∀k,k<ops.size->a.getD k false=true)->some s=some (σ ops.size):=by
  intro a s _ h l;rw [B.lens h l]
 intro d
 induction d with
 | zero=>
   intro t a s u h w O;simp only [Region.linearise.go,List.reverse_nil,gM];refine F a s u h λk g=> ?_;have:((List.range ops.size).filter λk=> !a.getD k false)= []:=CS ab;have:=List.filter_eq_nil_iff.1 this k (by simpa using g);simpa using this
 | succ d V=>
   intro t a s u h w O;simp only [Region.linearise.go]
   change gM f (match (Region.ready .any ops a)[t%(Region.ready .any ops a).length]? with
    |some i=>Region.linearise.go .any ops d (t/(Region.ready .any ops a).length) (a.setIfInBounds i true) [i]
    |none=> [].reverse) s=_
   cases x:(Region.ready .any ops a)[t%(Region.ready .any ops a).length]? with
   | none=>
     have S:Region.ready .any ops a= []:=by
      cases U:Region.ready .any ops a with
      |nil=>rfl
      | cons H I=>
        rw [U] at x;have q:t%(H::I).length<(H::I).length:=tF _ ai;simp at x;simp at q;omega
     simp only [List.reverse_nil,gM];refine F a s u h ?_;intro k
     induction k using Nat.strongRecOn with
     | _ k X=>
       intro g
       cases P:a.getD k false with
       |true=>rfl
       | false=>
         exfalso;have r:k∈Region.ready .any ops a:=by refine mem_ready.2 ⟨by rw [vl ab];exact P,ops[k],by simp [g],λe p m=> ?_⟩;have Q:=v.BE k ops[k] e (by simp [g]) p m;exact X e.on Q ab
         rw [S] at r;cases r
   | some i=>
     simp only;rw [linearise_go_acc,List.reverse_singleton,List.singleton_append];have r:=aV x;obtain ⟨A,o,y,l⟩:=mem_ready.1 r;have q:i<ops.size:=(qg.1 y).1;rw [vl ab] at A;have E:=v.down w;have T: ∀c,e2 c i=true->a.getD c false=true:=by
      intro c b;obtain ⟨_,G,e,C,M,N,j⟩:=v.gen i c b;rw [y] at C;cases C;have D:=l e M N;rcases j with j|j
      . subst j;exact D
      . exact E _ _ D j
     obtain ⟨Y,J,K⟩:=B.step h q A T (λc k g b=>E k c g b);simp only [gM,J];refine V _ _ Y (by simpa using u) ?_ ?_ ?_
     . have:(λk=>(a.setIfInBounds i true).getD k false)=λk=>a.getD k false||decide (k=i):=funext λk=>rl ab;rw [this];exact K
     . intro c G e b z p m;rw [rl ab] at b|-;simp only [mL,decide_eq_true_eq] at b|-;rcases b with b|b
       . exact .inl (w c G e b z p m)
       . subst b;rw [y] at z;cases z;exact .inl (l e p m)
     . have:=GM (λk=>a.getD k false) i A (List.range ops.size) (by simpa using q);have L:((List.range ops.size).filter λk=> !(a.setIfInBounds i true).getD k false)=(List.range ops.size).filter λk=> !(a.getD k false||decide (k=i)):=
        CU λk _=>by rw [rl ab]
       rw [L];omega
theorem jF.any (b:jF ops.size len f σ R W dq e2) (e:q4 ops e2) (t:Nat):gM f (Region.schedule true ops t) (σ 0)=some (σ ops.size):=by
 have d: ∀a,(Array.replicate ops.size false).getD a false=false:=by intro a;simp only [CK,CL];split<;>rfl
 simp only [Region.schedule,yI,if_true,Region.linearise];refine b.go e _ _ _ _ ai ?_ (λh i g c=>by rw [d] at c;cases c) ?_
 . rw [show (λa=>(Array.replicate ops.size false).getD a false)=λ_=>false from funext d];exact b.start
 . refine eT (List.length_filter_le _ _) ai
end
end Go.aj
