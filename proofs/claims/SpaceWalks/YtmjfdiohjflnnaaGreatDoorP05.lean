/- A part of the proof: CJ0. -/
import GoSem.ClaimGoes
import GoSem.ClaimSeven
set_option linter.all false
namespace Go.PV
open Go
def cvT (T:Nat→List Nat):Nat→List Nat→List Nat→Nat→List Nat
 |0,_,seen,_=>seen.reverse
 |_,[],seen,_=>seen.reverse
 | n+1,f::todo,seen,m=>match Nat.beq ((m>>>f)%2) 1 with
   |true=>cvT T n todo seen m
   |false=>cvT T n (T f++todo) (f::seen) (m|||(1<<<f))
theorem bit_eq (m f:Nat):Nat.beq ((m>>>f)%2) 1=m.testBit f:=by
 rw [Nat.testBit_eq_decide_div_mod_eq,Nat.shiftRight_eq_div_pow];by_cases h:m/2^f%2=1
 · rw [h];rfl
 · rw [decide_eq_false h];exact Bool.eq_false_iff.2 fun e=>h (Nat.eq_of_beq_eq_true e)
theorem cvT_eq {P:Program} {T:Nat→List Nat} (h: ∀f,(P.funcs[f]?).elim [] P.leadsTo=T f): ∀(n:Nat) (todo seen:List Nat) (m:Nat),(∀f,m.testBit f=seen.contains f)→P.closureVia n todo seen=cvT T n todo seen m
 |0,todo,seen,m,_=>by simp [Program.closureVia,cvT]
 |n+1,[],seen,m,_=>by simp [Program.closureVia,cvT]
 | n +1,f::todo,seen,m,hm=>by
   rw [Program.closureVia,cvT,bit_eq,hm f]
   cases hc:seen.contains f with
   |true=>simpa using cvT_eq h n todo seen m hm
   | false=>
     simp only [Bool.false_eq_true,if_false];rw [h f];refine cvT_eq h n _ _ _ fun g=> ?_;rw [Nat.testBit_or,hm g,Nat.one_shiftLeft,Nat.testBit_two_pow,List.contains_cons];by_cases e:g=f
     · subst e;simp
     · have: ¬f=g:=fun h=>e h.symm;simp [e,this]
theorem map_get {α:Type} {F:Func→α} {l:List Func} {L:List α} (h:l.map F=L) (g:Nat):(l[g]?).map F=L[g]? :=by rw [←h,List.getElem?_map]
theorem arr_get {α:Type} {P:Program} {F:Func→α} {L:List α} (h:P.funcs.toList.map F=L) (g:Nat):(P.funcs[g]?).map F=L[g]? :=by rw [←map_get h,Array.getElem?_toList]
theorem elim_get {P:Program} {F:Func→List Nat} {L:List (List Nat)} (h:P.funcs.toList.map F=L) (g:Nat):(P.funcs[g]?).elim [] F=(L[g]?).getD []:=by rw [←arr_get h];cases P.funcs[g]? <;>rfl
theorem bind_get {α:Type} {P:Program} {F:Func→Option α} {L:List (Option α)} (h:P.funcs.toList.map F=L) (g:Nat):(P.funcs[g]?).bind F=(L[g]?).bind id:=by rw [←arr_get h];cases P.funcs[g]? <;>rfl
def sparse {α:Type} (l:List (Nat×α)) (d:α):Nat→Nat→List α
 |0,_=> []
 | n +1,i=>(match l with
   | []=>d::sparse [] d n (i+1)
   | (j,x)::r=>match Nat.beq i j with
     |true=>x::sparse r d n (i+1)
     |false=>d::sparse ((j,x)::r) d n (i+1))
inductive BL (α:Type) where
  |leaf:List α→BL α
  |node:Nat→BL α→BL α→BL α
def BL.get {α:Type}:BL α→Nat→Option α
 | .leaf l,i=>l[i]?
 | .node k a b,i=>match Nat.blt i k with
   |true=>a.get i
   |false=>b.get (i-k)
def BL.list {α:Type}:BL α→List α
 | .leaf l=>l
 | .node _ a b=>a.list++b.list
def BL.ok {α:Type}:BL α→Bool
 | .leaf _=>true
 | .node k a b=>Nat.beq a.list.length k&&a.ok&&b.ok
theorem BL.get_eq {α:Type}: ∀(t:BL α) (i:Nat),t.ok=true→t.get i=t.list[i]?
 | .leaf l,i,_=>rfl
 | .node k a b,i,h=>by
   simp only [BL.ok,Bool.and_eq_true] at h;have hk:=Nat.eq_of_beq_eq_true h.1.1;rw [BL.get,BL.list,List.getElem?_append,hk]
   cases hc:Nat.blt i k with
   | true=>
     have:i<k:=Nat.le_of_ble_eq_true hc;rw [if_pos this];exact a.get_eq i h.1.2
   | false=>
     have: ¬i<k:=fun hlt=>by have:=Nat.ble_eq_true_of_le (Nat.succ_le_of_lt hlt);rw [Nat.blt] at hc;rw [this] at hc;cases hc
     rw [if_neg this];exact b.get_eq _ h.2
theorem goes_none {P:Program} (h: ∀g:Nat,(P.funcs[g]?).any Func.goes=false) (f:FuncId):P.goes f=false:=by
 unfold Program.goes;have h1:((P.closure f).any fun g=>(P.funcs[g]?).any Func.goes)=false:=by refine Bool.eq_false_iff.2 fun e=> ?_;obtain ⟨g,-,hg⟩:=List.any_eq_true.1 e;rw [h g] at hg;cases hg
 have h2:P.funcs.any Func.goes=false:=by rw [Array.any_eq_false];intro g hlt;have:=h g;rw [Array.getElem?_eq_getElem hlt] at this;simpa using this
 rw [h1,h2];simp
theorem goesBy_none {P:Program} {c:OpenClaim} (h: ∀g:Nat,(P.funcs[g]?).any Func.goes=false) (hs:c.start= .entering):false=c.goesBy P:=by
 unfold OpenClaim.goesBy Program.goesAt Program.goesFrom;rw [hs]
 cases P.funcNamed c.func with
 |none=>rfl
 |some f=>simp [goes_none h f]
end Go.PV
