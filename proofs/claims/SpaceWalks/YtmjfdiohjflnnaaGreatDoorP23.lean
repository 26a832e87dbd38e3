/- A part of the proof: CT0. -/
import Derived.LaidByTextLater
import Derived.SevenTiedAt
import Derived.Test.YtmjfdiohjflnnaaGreatDoorRows
set_option linter.all false
namespace Go.PV
open Go Go.Proofs.YtmjfdiohjflnnaaGreatDoor
set_option maxRecDepth 100000
def mKey:MemPlace→Nat
 | .cell b off=>2*(b*4096+off%4096)
 | .map b=>2*b+1
def mOk:MemPlace→Bool
 | .cell _ off=>Nat.blt off 4096
 | .map _=>true
def nodupB:List MemPlace→Nat→Bool
 | [],_=>true
 |p::ps,acc=>mOk p&&(!Nat.testBit acc (mKey p))&&nodupB ps (acc|||(1<<<mKey p))
theorem nodupB_ok: ∀(ps:List MemPlace) (acc:Nat),nodupB ps acc=true→ps.Nodup∧ ∀p∈ps,acc.testBit (mKey p)=false∧mOk p=true
 | [],_,_=>⟨List.nodup_nil,fun p h=>by cases h⟩
 | p::ps,acc,h=>by
   simp only [nodupB,Bool.and_eq_true,Bool.not_eq_true'] at h;obtain ⟨h1,h2⟩:=nodupB_ok ps _ h.2;have h3: ∀q∈ps,acc.testBit (mKey q)=false∧mOk q=true∧mKey q≠mKey p:=fun q hq=>by obtain ⟨a,b⟩:=h2 q hq;rw [Nat.testBit_or,Nat.one_shiftLeft,Nat.testBit_two_pow,Bool.or_eq_false_iff] at a;exact ⟨a.1,b,fun e=>by rw [e] at a;simp at a⟩
   refine ⟨List.nodup_cons.2 ⟨fun hm=>(h3 p hm).2.2 rfl,h1⟩,fun q hq=> ?_⟩;rcases List.mem_cons.1 hq with rfl|hq
   · exact ⟨h.1.2,h.1.1⟩
   · exact ⟨(h3 q hq).1,(h3 q hq).2.1⟩
noncomputable def laidL:List (String×DataW Unit):=Rows.spaceWaysRow.laid
end Go.PV
