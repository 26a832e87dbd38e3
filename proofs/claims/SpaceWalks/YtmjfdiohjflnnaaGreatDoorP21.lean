/- A part of the proof: SQ. -/
import Derived.KernelRfl
import Derived.Test.YtmjfdiohjflnnaaGreatDoorP07
import Derived.Test.YtmjfdiohjflnnaaGreatDoorP20
set_option linter.all false
namespace Go.PV
open Go Go.Proofs.Tryz
set_option maxRecDepth 100000
theorem tabT:(List.range 541).map E0.T=(List.range 541).map (keepS E0.T prog.info?):=by kernel_rfl
theorem tabZ:(List.range 541).all (zokB E0)=true:=by decide+kernel
theorem tabF:(List.range 550).map E0.fns=(List.range 550).map (keepS E0.fns fun f=>prog.funcs[f]?):=by kernel_rfl
theorem tabN:(List.range 550).all (nameB E0)=true:=by decide+kernel
theorem mixed:prog.follows .mixedOrders=true:=by kernel_rfl
abbrev rgn (a n:Nat):Prop:=(List.range' a n).all (regB E0 okd)=true
theorem r0:rgn 0 60:=by decide+kernel
theorem r1:rgn 60 85:=by decide+kernel
theorem r2:rgn 145 54:=by decide+kernel
theorem r3:rgn 199 46:=by decide+kernel
theorem r4:rgn 245 54:=by decide+kernel
theorem r5:rgn 299 52:=by decide+kernel
theorem r6:rgn 351 80:=by decide+kernel
theorem r7:rgn 431 55:=by decide+kernel
theorem r8:rgn 486 64:=by decide+kernel
theorem rgs {f:Nat} (h:f<550):regB E0 okd f=true:=by
 have g: ∀a n,rgn a n→a≤f→f<a+n→regB E0 okd f=true:=fun a n h h1 h2=>List.all_eq_true.1 h f (List.mem_range'_1.2 ⟨h1,h2⟩);by_cases h0:f<60
 · exact g _ _ r0 (by omega) (by omega)
 by_cases h1:f<145
 · exact g _ _ r1 (by omega) (by omega)
 by_cases h2:f<199
 · exact g _ _ r2 (by omega) (by omega)
 by_cases h3:f<245
 · exact g _ _ r3 (by omega) (by omega)
 by_cases h4:f<299
 · exact g _ _ r4 (by omega) (by omega)
 by_cases h5:f<351
 · exact g _ _ r5 (by omega) (by omega)
 by_cases h6:f<431
 · exact g _ _ r6 (by omega) (by omega)
 by_cases h7:f<486
 · exact g _ _ r7 (by omega) (by omega)
 exact g _ _ r8 (by omega) (by omega)
theorem allB_of {p:Nat→Bool}: ∀ {l:List Nat},(∀f∈l,p f=true)→allB p l=true
 | [],_=>allB_nil _
 |_::_,h=>allB_cons (h _ (List.mem_cons_self ..)) (allB_of fun f hf=>h f (List.mem_cons_of_mem _ hf))
theorem memN_of {f:Nat}: ∀ {l:List Nat},f∈l→memN f l=true
 | x ::l,h=>by
   unfold memN;split
   · rfl
   · rename_i hb;rcases List.mem_cons.1 h with rfl|h
     · simp at hb
     · exact memN_of h
theorem regs:allB (regB E0 okd) (List.range 550)=true:=allB_of fun _ hf=>rgs (List.mem_range.1 hf)
theorem nregs:(List.range 550).all (fun f=>memN f (List.range 550)||noDrawB E0 okd f)=true:=List.all_eq_true.2 fun _ hf=>by rw [memN_of hf];rfl
theorem e313:prog.stoodInHeld 313=false∧prog.eqGuardType prog.depth 313=false:=⟨by kernel_rfl,by kernel_rfl⟩
theorem eqOK: ∀t,E0.eqt t=true→prog.stoodInHeld t=false∧prog.eqGuardType prog.depth t=false:=by
 intro t h;have h:memN t eqTs=true:=h;simp only [eqTs,memN] at h;split at h
 · rename_i hb;rw [Nat.eq_of_beq_eq_true hb];exact e313
 cases h
theorem tabOK:TabOK E0 prog okd:=mkTab eqOK tabT tabZ tabF tabN mixed regs nregs (fun _=>rfl) liesOK
end Go.PV
