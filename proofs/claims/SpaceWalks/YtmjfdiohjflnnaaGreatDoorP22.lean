/- A part of the proof: KB9. -/
import Derived.Test.YtmjfdiohjflnnaaGreatDoorP20
import Derived.Test.YtmjfdiohjflnnaaGreatDoorP21
set_option linter.all false
namespace Go.PV
open Go Go.Proofs Go.Proofs.Tryz
set_option maxRecDepth 100000
def prW (f:Nat):Option (List Val→Hp→FRes):=match f with
 |235=>some (pSeq 156 3)
 |155=>some pSort
 |60=>some (pSortF 61)
 |6=>some (pCl [] (.bool true))
 |_=>none
theorem regions1 (pr:Nat→Option (List Val→Hp→FRes)) (f:Nat): ∀c,regionsOK (E1 pr) okd f c=regionsOK E0 okd f c:=by
 intro c
 induction c with
 |region id ops dr=>cases dr<;>rfl
 |seq a b ih1 ih2=>simp only [regionsOK,ih1,ih2]
 |cond x a b ih1 ih2=>simp only [regionsOK,ih1,ih2]
 |block n a ih=>simp only [regionsOK,ih]
 |loop a ih=>simp only [regionsOK,ih]
 |_=>rfl
theorem tabOK1 (h6: ∀us H,CallOK E0 prog 6 us H (pCl [] (.bool true) us H)):TabOK (E1 prW) prog okd where
 env:=⟨tabOK.env.zok,tabOK.env.T,tabOK.env.fns,tabOK.env.eqt,tabOK.env.lies⟩
 mixed:=tabOK.mixed
 regions:=fun f fn c h1 h2=>(regions1 prW f c).trans (tabOK.regions f fn c h1 h2)
 prim:=fun f p hp args H=>by
  have:f=235∧p=pSeq 156 3∨f=155∧p=pSort∨f=60∧p=pSortF 61∨f=6∧p=pCl [] (.bool true):=by
   have hp:prW f=some p:=hp;unfold prW at hp;split at hp
   · cases hp;exact .inl ⟨rfl,rfl⟩
   · cases hp;exact .inr (.inl ⟨rfl,rfl⟩)
   · cases hp;exact .inr (.inr (.inl ⟨rfl,rfl⟩))
   · cases hp;exact .inr (.inr (.inr ⟨rfl,rfl⟩))
   · cases hp
  rcases this with ⟨rfl,rfl⟩|⟨rfl,rfl⟩|⟨rfl,rfl⟩|⟨rfl,rfl⟩
  · exact pSeq_call _ args H
  · exact pSort_call _ args H
  · exact pSortF_call _ args H
  · exact h6 args H
end Go.PV
