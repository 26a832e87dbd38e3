/- StrictBack: what is heated is plugged to what it was; what heating takes out is no value, what cooling puts back is one. The second form is proved: for every definition and term whose bulk is at most 1048576, the statement's function returns true and does not panic. -/
import Derived.Test.YtiodgpibgiodcaaGreatDoorCards
import Derived.Test.YtiodgpibgiodcaaGreatDoorTie
import Derived.Test.YtiodgpibgiodcaaGreatDoorP00
import Derived.Test.YtiodgpibgiodcaaGreatDoorP26
import Derived.Test.YtiodgpibgiodcaaGreatDoorP27
set_option linter.all false
set_option maxHeartbeats 4000000
namespace Go.aj
open Go Go.Proofs Go.Proofs.YtiodgpibgiodcaaGreatDoor Go.ChangeShapes Go.WideShapes Go.ChangeAt Go.RowKit
set_option maxRecDepth 100000
def ZM:Rows.StrictBackUptoSaid:=
 OpenClaim.holds_of_cond (p:=Tryz.pinned) 3 Tryz.f3 rfl rfl rfl rfl rfl rfl rfl ⟨rfl,rfl,rfl,rfl,rfl⟩ rfl rfl rfl rfl rfl Go.aj.HN Tryz.func3 TW
  (of_decide_eq_true aq) (by unfold Func.isWrapper;first|(rw [if_pos (by decide+kernel)];kernel_rfl)|(rw [if_neg (by decide+kernel)];exact ⟨rfl,rfl⟩))
  (λd e b c _ a=>by rw [OpenClaim.pre_eq_preRow];exact Go.aj.lifted d e b c a)
def Yp (f:FuncId) (fn:Func) (e:Tryz.pinned.checked.prog.funcNamed "voussoir/voussoirlaw12.StrictBack" =some f) (g:Tryz.pinned.checked.prog.funcs[f]? =some fn):
    true=Tryz.pinned.checked.prog.looks []/\ ∀(j:Nat) t,fn.params[j]? =some t->Tryz.pinned.checked.prog.wantsStandIn t=false:=by
 obtain rfl:f=3:=Option.some.inj (e.symm.trans Go.aj.HN);obtain rfl:fn=Tryz.f3:=(Option.some.inj (Tryz.func3.symm.trans g)).symm;refine ⟨aq,λj t b=> ?_⟩;rw [show Tryz.f3.params= #[31,35] by kernel_rfl] at b;have:=Array.mem_of_getElem? b;have:t=31\/t=35:=by simpa using this
 have c:Tryz.prog.wantsStandIn 31=false:=aq;have d:Tryz.prog.wantsStandIn 35=false:=aq;rcases this with a|a
 . rw [a];exact c
 . rw [a];exact d
def ac6:Rows.StrictBackUptoCardSaid:=
 Claim7.holds_tied_plain_at .later [] _ _ _ _ ZM (λ_ a=>by cases a) aq (λ_ a=>by cases a) strictBackUpto_row_tie rfl ⟨rfl,rfl⟩ aq rfl Yp goes
end Go.aj
namespace Go.Proofs.YtiodgpibgiodcaaGreatDoor
theorem strictBack_upto_card:Rows.StrictBackUptoCardSaid:=Go.aj.ac6
end Go.Proofs.YtiodgpibgiodcaaGreatDoor
