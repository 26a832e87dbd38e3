/- A part of the proof. -/
import Derived.KernelRfl
import Derived.Test.YtiodgpibgiodcaaGreatDoorP00
import Derived.Test.YtiodgpibgiodcaaGreatDoorP10
import Derived.Test.YtiodgpibgiodcaaGreatDoorP16
set_option linter.all false
set_option maxHeartbeats 4000000
namespace Go.aj
open Go Go.Proofs.Tryz
set_option maxRecDepth 100000
def aaP:(List.range 390).map l.T=(List.range 390).map (tN l.T prog.info?):=aq
def aaQ:(List.range 390).all (Fy l)=true:=by decide+kernel
def aaM:(List.range 410).map l.fns=(List.range 410).map (tN l.fns λf=>prog.funcs[f]?):=aq
def aaO:(List.range 410).all (D3 l)=true:=by decide+kernel
def mixed:prog.follows .mixedOrders=true:=aq
abbrev qD (a n:Nat):Prop:=(List.range' a n).all (ug l R)=true
def YJ:qD 0 54:=by decide+kernel
def n_:qD 54 52:=by decide+kernel
def pc:qD 106 79:=by decide+kernel
def zE:qD 185 73:=by decide+kernel
def EB:qD 258 59:=by decide+kernel
def YK:qD 317 60:=by decide+kernel
def YL:qD 377 33:=by decide+kernel
def Ze {f:Nat} (d:f<410):ug l R f=true:=by
 have a: ∀b c,qD b c->b<=f->f<b+c->ug l R f=true:=λb c d e g=>ba.1 d f (List.mem_range'_1.2 ⟨e,g⟩);by_cases h:f<54
 . exact a _ _ YJ ab ab
 by_cases e:f<106
 . exact a _ _ n_ ab ab
 by_cases g:f<185
 . exact a _ _ pc ab ab
 by_cases i:f<258
 . exact a _ _ zE ab ab
 by_cases j:f<317
 . exact a _ _ EB ab ab
 by_cases k:f<377
 . exact a _ _ YK ab ab
 exact a _ _ YL ab ab
def F6 {p:Nat->Bool}: ∀ {l:List Nat},(∀f∈l,p f=true)->nq p l=true
 | [],_=>Ob _
 |_::_,a=>Oa (a _ (dF ..)) (F6 λf b=>a f (h8 _ b))
def J9 {f:Nat}: ∀ {l:List Nat},f∈l->hv f l=true
 | c ::l,a=>by
   unfold hv;split
   . rfl
   . rename_i b;rcases b2.1 a with rfl|a
     . simp at b
     . exact J9 a
def YZ:nq (ug l R) (List.range 410)=true:=F6 λ_ a=>Ze (h9.1 a)
theorem Xa:(List.range 410).all (λf=>hv f (List.range 410)||D_ l R f)=true:=ba.2 λ_ a=>by rw [J9 a];rfl
def QL:prog.stoodInHeld 88=false/\prog.eqGuardType prog.depth 88=false:=⟨aq,aq⟩
def QK:prog.stoodInHeld 166=false/\prog.eqGuardType prog.depth 166=false:=⟨aq,aq⟩
def QY: ∀t,l.nD t=true->prog.stoodInHeld t=false/\prog.eqGuardType prog.depth t=false:=by
 intro t a;have a:hv t BH=true:=a;simp only [BH,hv] at a;split at a
 . rename_i b;rw [gk b];exact QL
 split at a
 . rename_i b;rw [gk b];exact QK
 cases a
def kQ:uQ l prog R:=WB QY aaP aaQ aaM aaO mixed YZ Xa (λ_=>rfl) V7
end Go.aj
