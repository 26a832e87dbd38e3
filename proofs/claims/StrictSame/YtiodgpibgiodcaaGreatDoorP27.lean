/- A part of the proof. -/
import GoSem.ClaimGoes
import GoSem.ClaimSeven
import Derived.Test.YtiodgpibgiodcaaGreatDoorP00
import Derived.Test.YtiodgpibgiodcaaGreatDoorP22
set_option linter.all false
set_option maxHeartbeats 4000000
namespace Go.aj
open Go Go.Proofs Go.Proofs.Tryz
set_option maxRecDepth 100000
def Sq:prog.funcs.toList.all (λfn=> !Func.goes fn)=true:=aq
def Ib (g:Nat):(prog.funcs[g]?).any Func.goes=false:=by
 cases a:prog.funcs[g]? with
 |none=>rfl
 | some fn=>
   have:=ba.1 Sq fn (aV (i:=g) (by rw [CN];exact a));simpa using this
theorem goes:false=jx.goesBy prog:=by
 unfold OpenClaim.goesBy Program.goesAt Program.goesFrom;show false=_
 cases prog.funcNamed jx.func with
 |none=>rfl
 | some d=>
   have f:prog.funcs.any Func.goes=false:=by rw [Array.any_eq_false];intro a g;have:=Ib a;rw [Array.getElem?_eq_getElem g] at this;simpa using this
   have e:((prog.closure d).any λa=>(prog.funcs[a]?).any Func.goes)=false:=by refine aon.2 λc=> ?_;obtain ⟨a,-,b⟩:=kB.1 c;rw [Ib a] at b;cases b
   simp [Program.goes,e,f];rfl
end Go.aj
