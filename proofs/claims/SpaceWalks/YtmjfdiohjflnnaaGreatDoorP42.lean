/- SpaceWalks, in its upto form: for every graph and indices whose bulk is at most 1048576, Shape, Final, Reach, Way, Depths, Rounds, Ends and Longest return what the chapter says, or the error (the card of the statement's second form; the condition is that form's bulk, no other). -/
import Derived.Test.YtmjfdiohjflnnaaGreatDoorCards
import Derived.Test.YtmjfdiohjflnnaaGreatDoorP18
import Derived.Test.YtmjfdiohjflnnaaGreatDoorP22
import Derived.Test.YtmjfdiohjflnnaaGreatDoorP29
import Derived.Test.YtmjfdiohjflnnaaGreatDoorP32
import Derived.Test.YtmjfdiohjflnnaaGreatDoorP33
import Derived.Test.YtmjfdiohjflnnaaGreatDoorP34
import Derived.Test.YtmjfdiohjflnnaaGreatDoorP35
import Derived.Test.YtmjfdiohjflnnaaGreatDoorP36
import Derived.Test.YtmjfdiohjflnnaaGreatDoorP37
import Derived.Test.YtmjfdiohjflnnaaGreatDoorP38
import Derived.Test.YtmjfdiohjflnnaaGreatDoorP39
import Derived.Test.YtmjfdiohjflnnaaGreatDoorP40
import Derived.Test.YtmjfdiohjflnnaaGreatDoorP41
set_option linter.all false
namespace Go.PV
open Go Go.Proofs.Tryz
set_option maxRecDepth 1000000
theorem m337_0:MTab E0 prog okd tab337_0:=mOver mtab fun _=>trivial
theorem k337_0: ∀us H,CallOK E0 prog 337 us H (pCl ca337_0 cv337_0 us H):=pCl_ok (fun f args H=>evalM_ok m337_0 1000 f args H) cl337_0
theorem kq337:fxOK E0 prog okd 337 (.prim (pCls [(ca337_0,cv337_0)])):=pCls_ok _ (by intro p hp us H;simp only [List.mem_cons,List.not_mem_nil,or_false] at hp;subst hp;exact k337_0 us H)
theorem m105_0:MTab E0 prog okd tab105_0:=mOver mtab fun _=>⟨trivial,at1 kq337,trivial⟩
theorem k105_0: ∀us H,CallOK E0 prog 105 us H (pCl ca105_0 cv105_0 us H):=pCl_ok (fun f args H=>evalM_ok m105_0 1000 f args H) cl105_0
theorem kq105:fxOK E0 prog okd 105 (.prim (pCls [(ca105_0,cv105_0)])):=pCls_ok _ (by intro p hp us H;simp only [List.mem_cons,List.not_mem_nil,or_false] at hp;subst hp;exact k105_0 us H)
theorem m65_0:MTab E0 prog okd tab65_0:=mOver mtab fun _=>⟨trivial,at1 kq105,⟨trivial,at1 kq337,trivial⟩⟩
theorem k65_0: ∀us H,CallOK E0 prog 65 us H (pCl ca65_0 cv65_0 us H):=pCl_ok (fun f args H=>evalM_ok m65_0 1000 f args H) cl65_0
theorem kq65:fxOK E0 prog okd 65 (.prim (pCls [(ca65_0,cv65_0)])):=pCls_ok _ (by intro p hp us H;simp only [List.mem_cons,List.not_mem_nil,or_false] at hp;subst hp;exact k65_0 us H)
theorem m26_0:MTab E0 prog okd tab26_0:=mOver mtab fun _=>⟨trivial,at1 kq65,⟨trivial,at1 kq105,⟨trivial,at1 kq337,trivial⟩⟩⟩
theorem k26_0: ∀us H,CallOK E0 prog 26 us H (pCl ca26_0 cv26_0 us H):=pCl_ok (fun f args H=>evalM_ok m26_0 1000 f args H) cl26_0
theorem kq26:fxOK E0 prog okd 26 (.prim (pCls [(ca26_0,cv26_0)])):=pCls_ok _ (by intro p hp us H;simp only [List.mem_cons,List.not_mem_nil,or_false] at hp;subst hp;exact k26_0 us H)
theorem m67_0:MTab E0 prog okd tab67_0:=mOver mtab fun _=>⟨trivial,at1 kq26,⟨trivial,at1 kq65,⟨trivial,at1 kq105,⟨trivial,at1 kq337,trivial⟩⟩⟩⟩
theorem k67_0: ∀us H,CallOK E0 prog 67 us H (pCl ca67_0 cv67_0 us H):=pCl_ok (fun f args H=>evalM_ok m67_0 1000 f args H) cl67_0
theorem kq67:fxOK E0 prog okd 67 (.prim (pCls [(ca67_0,cv67_0)])):=pCls_ok _ (by intro p hp us H;simp only [List.mem_cons,List.not_mem_nil,or_false] at hp;subst hp;exact k67_0 us H)
theorem m68_0:MTab E0 prog okd tab68_0:=mOver mtab fun _=>⟨trivial,at1 kq26,⟨trivial,at1 kq65,⟨trivial,at1 kq67,⟨trivial,at1 kq105,⟨trivial,at1 kq337,trivial⟩⟩⟩⟩⟩
theorem k68_0: ∀us H,CallOK E0 prog 68 us H (pCl ca68_0 cv68_0 us H):=pCl_ok (fun f args H=>evalM_ok m68_0 1000 f args H) cl68_0
theorem kq68:fxOK E0 prog okd 68 (.prim (pCls [(ca68_0,cv68_0)])):=pCls_ok _ (by intro p hp us H;simp only [List.mem_cons,List.not_mem_nil,or_false] at hp;subst hp;exact k68_0 us H)
theorem m27_0:MTab E0 prog okd tab27_0:=mOver mtab fun _=>⟨trivial,at1 kq26,⟨trivial,at1 kq65,⟨trivial,at1 kq67,⟨trivial,at1 kq68,⟨trivial,at1 kq105,⟨trivial,at1 kq337,trivial⟩⟩⟩⟩⟩⟩
theorem k27_0: ∀us H,CallOK E0 prog 27 us H (pCl ca27_0 cv27_0 us H):=pCl_ok (fun f args H=>evalM_ok m27_0 1000 f args H) cl27_0
theorem m27_1:MTab E0 prog okd tab27_1:=mOver mtab fun _=>⟨trivial,at1 kq26,⟨trivial,at1 kq65,⟨trivial,at1 kq67,⟨trivial,at1 kq68,⟨trivial,at1 kq105,⟨trivial,at1 kq337,trivial⟩⟩⟩⟩⟩⟩
theorem k27_1: ∀us H,CallOK E0 prog 27 us H (pCl ca27_1 cv27_1 us H):=pCl_ok (fun f args H=>evalM_ok m27_1 1000 f args H) cl27_1
theorem kq27:fxOK E0 prog okd 27 (.prim (pCls [(ca27_0,cv27_0),(ca27_1,cv27_1)])):=pCls_ok _ (by
 intro p hp us H;simp only [List.mem_cons,List.not_mem_nil,or_false] at hp;rcases hp with rfl|rfl
 · exact k27_0 us H
 · exact k27_1 us H)
theorem m6_0:MTab E0 prog okd tab6_0:=mOver mtab fun _=>⟨trivial,at1 kq26,⟨trivial,at1 kq27,⟨trivial,at1 kq65,⟨trivial,at1 kq67,⟨trivial,at1 kq68,⟨trivial,at1 kq105,⟨trivial,at1 kq337,trivial⟩⟩⟩⟩⟩⟩⟩
theorem k6_0: ∀us H,CallOK E0 prog 6 us H (pCl ca6_0 cv6_0 us H):=pCl_ok (fun f args H=>evalM_ok m6_0 1000 f args H) cl6_0
open Go Go.Proofs.YtmjfdiohjflnnaaGreatDoor Go.Proofs
set_option maxRecDepth 100000
theorem a3':Rows.spaceWalksUptoRow.wfByText (Rows.OpenSpec.upto Rows.spaceWalksSpec)=true:=by kernel_rfl
theorem a4':Tryz.pinned.checked.prog.mainIs=some (true,"b5f1a488004e4e40a579d1d4dca9f81167856f68a327efc5b61bdfe0942cb7c1".toList):=by kernel_rfl
theorem a5':true=Tryz.pinned.checked.prog.looks []:=by kernel_rfl
theorem w25':Tryz.prog.wantsStandIn 25=false:=by kernel_rfl
theorem w3':Tryz.prog.wantsStandIn 3=false:=by kernel_rfl
theorem plain3 (f:FuncId) (fn:Func) (hf:Tryz.pinned.checked.prog.funcNamed Rows.spaceWalksUptoRow.func=some f) (hfn:Tryz.pinned.checked.prog.funcs[f]? =some fn):
  true=Tryz.pinned.checked.prog.looks []∧ ∀(j:Nat) t,fn.params[j]? =some t→Tryz.pinned.checked.prog.wantsStandIn t=false:=by
 obtain rfl:f=3:=Option.some.inj (hf.symm.trans Go.PV.fnm');obtain rfl:fn=Tryz.f3:=(Option.some.inj (Tryz.func3.symm.trans hfn)).symm;refine ⟨a5',fun j t ht=> ?_⟩;rw [Tryz.params3] at ht;have:=Array.mem_of_getElem? ht;have:t=25∨t=3:=by simpa using this
 rcases this with h|h
 · subst h;exact w25'
 · subst h;exact w3'
theorem row_tie3:Rows.spaceWalksUptoRow.laidByTextAt .later Tryz.pinned [.data,.listed,.data,.data,.data] true:=
 OpenClaim.laidByTextAt_later rfl rfl tie noOwnUnsafe
theorem primsW3:Prims prW where
 no:=fun f hf=>by
  have h:f≠235∧f≠155∧f≠60∧f≠6:=by
   have key: ∀f∈ [9,10,12,14,16,18,20,22,25,30,31,32,33,36,37,38,40,4,5,55,56,57,58,59,61,62,63,64,97,98,99,100,101,104,154,156],f≠235∧f≠155∧f≠60∧f≠6:=by decide
   exact key f hf
  unfold prW;split<;>simp_all
 p98:=rfl
 p153:=rfl
 p235:=rfl
 p155:=rfl
 p60:=rfl
theorem noW3:NoW prW:=⟨rfl,rfl,rfl,rfl,rfl,rfl,rfl,rfl,rfl,rfl,rfl,rfl,rfl,rfl⟩
theorem runW3:RunW:=fun W hL c0 x1 x2 b hb h0 h1 h2=>walks_run prW (tabOK1 k6_0) primsW3 noW3 rfl W (by rw [←laid_same];exact hL) c0 x1 x2 b hb h0 h1 h2
theorem cardW3:Rows.SpaceWalksUptoCardSaid:=
 Claim7.holds_tied_plain_at .later [] _ _ _ _ (said3 runW3) (fun _ h=>by cases h) a3' (fun _ h=>by cases h) row_tie3 rfl ⟨rfl,rfl⟩ a4' rfl plain3 goes'
end Go.PV
namespace Go.Proofs.YtmjfdiohjflnnaaGreatDoor
theorem spaceWalks_upto_card:Rows.SpaceWalksUptoCardSaid:=Go.PV.cardW3
end Go.Proofs.YtmjfdiohjflnnaaGreatDoor
