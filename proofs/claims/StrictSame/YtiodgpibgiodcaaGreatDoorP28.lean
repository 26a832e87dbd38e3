/- StrictSame: the whole definition with its frames and rules is sound, is a fixed point of Whole, and looks as told. The second form is proved: for every definition whose bulk is at most 1048576, the statement's function returns true and does not panic. -/
import Derived.Test.YtiodgpibgiodcaaGreatDoorCards
import Derived.Test.YtiodgpibgiodcaaGreatDoorTie
import Derived.Test.YtiodgpibgiodcaaGreatDoorP00
import Derived.Test.YtiodgpibgiodcaaGreatDoorP26
import Derived.Test.YtiodgpibgiodcaaGreatDoorP27
set_option linter.all false
set_option maxHeartbeats 4000000
namespace Go.aj
open Go Go.Proofs Go.Proofs.YtiodgpibgiodcaaGreatDoor Go.ChangeShapes Go.WideShapes Go.ChangeAt Go.RowKit
set_option maxRecDepth 100000
def ZM:Rows.StrictSameUptoSaid:=
 OpenClaim.holds_of_cond (p:=Tryz.pinned) 5 Tryz.f5 rfl rfl rfl rfl rfl rfl rfl ⟨rfl,rfl,rfl,rfl,rfl⟩ rfl rfl rfl rfl rfl Go.aj.HN Tryz.func5 TW
  (of_decide_eq_true aq) (by unfold Func.isWrapper;first|(rw [if_pos (by decide+kernel)];kernel_rfl)|(rw [if_neg (by decide+kernel)];exact ⟨rfl,rfl⟩))
  (λd e b c _ a=>by rw [OpenClaim.pre_eq_preRow];exact Go.aj.lifted d e b c a)
def Yp (f:FuncId) (fn:Func) (c:Tryz.pinned.checked.prog.funcNamed "voussoir/voussoirlaw12.StrictSame" =some f) (d:Tryz.pinned.checked.prog.funcs[f]? =some fn):
    true=Tryz.pinned.checked.prog.looks []/\ ∀(j:Nat) t,fn.params[j]? =some t->Tryz.pinned.checked.prog.wantsStandIn t=false:=by
 obtain rfl:f=5:=aow (c.symm.trans Go.aj.HN);obtain rfl:fn=Tryz.f5:=(aow (Tryz.func5.symm.trans d)).symm;refine ⟨aq,λj t a=> ?_⟩;rw [show Tryz.f5.params= #[31] by kernel_rfl] at a;have:=Array.mem_of_getElem? a;have:t=31:=by simpa using this
 have b:Tryz.prog.wantsStandIn 31=false:=aq;rw [this];exact b
def ac6:Rows.StrictSameUptoCardSaid:=
 Claim7.holds_tied_plain_at .later [] _ _ _ _ ZM (λ_ a=>by cases a) aq (λ_ a=>by cases a) strictSameUpto_row_tie rfl ⟨rfl,rfl⟩ aq rfl Yp goes
end Go.aj
namespace Go.Proofs.YtiodgpibgiodcaaGreatDoor
theorem strictSame_upto_card:Rows.StrictSameUptoCardSaid:=Go.aj.ac6
end Go.Proofs.YtiodgpibgiodcaaGreatDoor
