/- SpaceWays holds for every graph, every two indices and every list of choices (the card of the statement; no condition). -/
import Derived.Test.YtmjfdiohjflnnaaGreatDoorCards
import Derived.Test.YtmjfdiohjflnnaaGreatDoorP18
import Derived.Test.YtmjfdiohjflnnaaGreatDoorP26
import Derived.Test.YtmjfdiohjflnnaaGreatDoorP27
import Derived.Test.YtmjfdiohjflnnaaGreatDoorP28
import Derived.Test.YtmjfdiohjflnnaaGreatDoorP29
import Derived.Test.YtmjfdiohjflnnaaGreatDoorP30
import Derived.Test.YtmjfdiohjflnnaaGreatDoorP31
import Derived.Test.YtmjfdiohjflnnaaGreatDoorP32
import Derived.Test.YtmjfdiohjflnnaaGreatDoorP33
import Derived.Test.YtmjfdiohjflnnaaGreatDoorP34
import Derived.Test.YtmjfdiohjflnnaaGreatDoorP35
set_option linter.all false
namespace Go.PV
open Go Go.Proofs.Tryz
set_option maxRecDepth 1000000
theorem m337_0:MTab E0 prog okd tab337_0:=mOver mtab fun _=>trivial
theorem k337_0: ∀us H,CallOK E0 prog 337 us H (pCl ca337_0 cv337_0 us H):=pCl_ok (fun f args H=>evalM_ok m337_0 1000 f args H) cl337_0
theorem kq337:fxOK E0 prog okd 337 (.prim (pCls [(ca337_0,cv337_0)])):=pCls_ok _ (by
  intro p hp us H
  simp only [List.mem_cons,List.not_mem_nil,or_false] at hp
  subst hp
  exact k337_0 us H)
theorem m105_0:MTab E0 prog okd tab105_0:=mOver mtab fun _=>⟨trivial,at1 kq337,trivial⟩
theorem k105_0: ∀us H,CallOK E0 prog 105 us H (pCl ca105_0 cv105_0 us H):=pCl_ok (fun f args H=>evalM_ok m105_0 1000 f args H) cl105_0
theorem kq105:fxOK E0 prog okd 105 (.prim (pCls [(ca105_0,cv105_0)])):=pCls_ok _ (by
  intro p hp us H
  simp only [List.mem_cons,List.not_mem_nil,or_false] at hp
  subst hp
  exact k105_0 us H)
theorem m65_0:MTab E0 prog okd tab65_0:=mOver mtab fun _=>⟨trivial,at1 kq105,⟨trivial,at1 kq337,trivial⟩⟩
theorem k65_0: ∀us H,CallOK E0 prog 65 us H (pCl ca65_0 cv65_0 us H):=pCl_ok (fun f args H=>evalM_ok m65_0 1000 f args H) cl65_0
theorem kq65:fxOK E0 prog okd 65 (.prim (pCls [(ca65_0,cv65_0)])):=pCls_ok _ (by
  intro p hp us H
  simp only [List.mem_cons,List.not_mem_nil,or_false] at hp
  subst hp
  exact k65_0 us H)
theorem m26_0:MTab E0 prog okd tab26_0:=mOver mtab fun _=>⟨trivial,at1 kq65,⟨trivial,at1 kq105,⟨trivial,at1 kq337,trivial⟩⟩⟩
theorem k26_0: ∀us H,CallOK E0 prog 26 us H (pCl ca26_0 cv26_0 us H):=pCl_ok (fun f args H=>evalM_ok m26_0 1000 f args H) cl26_0
theorem kq26:fxOK E0 prog okd 26 (.prim (pCls [(ca26_0,cv26_0)])):=pCls_ok _ (by
  intro p hp us H
  simp only [List.mem_cons,List.not_mem_nil,or_false] at hp
  subst hp
  exact k26_0 us H)
theorem m67_0:MTab E0 prog okd tab67_0:=mOver mtab fun _=>⟨trivial,at1 kq26,⟨trivial,at1 kq65,⟨trivial,at1 kq105,⟨trivial,at1 kq337,trivial⟩⟩⟩⟩
theorem k67_0: ∀us H,CallOK E0 prog 67 us H (pCl ca67_0 cv67_0 us H):=pCl_ok (fun f args H=>evalM_ok m67_0 1000 f args H) cl67_0
theorem kq67:fxOK E0 prog okd 67 (.prim (pCls [(ca67_0,cv67_0)])):=pCls_ok _ (by
  intro p hp us H
  simp only [List.mem_cons,List.not_mem_nil,or_false] at hp
  subst hp
  exact k67_0 us H)
theorem m68_0:MTab E0 prog okd tab68_0:=mOver mtab fun _=>⟨trivial,at1 kq26,⟨trivial,at1 kq65,⟨trivial,at1 kq67,⟨trivial,at1 kq105,⟨trivial,at1 kq337,trivial⟩⟩⟩⟩⟩
theorem k68_0: ∀us H,CallOK E0 prog 68 us H (pCl ca68_0 cv68_0 us H):=pCl_ok (fun f args H=>evalM_ok m68_0 1000 f args H) cl68_0
theorem kq68:fxOK E0 prog okd 68 (.prim (pCls [(ca68_0,cv68_0)])):=pCls_ok _ (by
  intro p hp us H
  simp only [List.mem_cons,List.not_mem_nil,or_false] at hp
  subst hp
  exact k68_0 us H)
theorem m27_0:MTab E0 prog okd tab27_0:=mOver mtab fun _=>⟨trivial,at1 kq26,⟨trivial,at1 kq65,⟨trivial,at1 kq67,⟨trivial,at1 kq68,⟨trivial,at1 kq105,⟨trivial,at1 kq337,trivial⟩⟩⟩⟩⟩⟩
theorem k27_0: ∀us H,CallOK E0 prog 27 us H (pCl ca27_0 cv27_0 us H):=pCl_ok (fun f args H=>evalM_ok m27_0 1000 f args H) cl27_0
theorem m27_1:MTab E0 prog okd tab27_1:=mOver mtab fun _=>⟨trivial,at1 kq26,⟨trivial,at1 kq65,⟨trivial,at1 kq67,⟨trivial,at1 kq68,⟨trivial,at1 kq105,⟨trivial,at1 kq337,trivial⟩⟩⟩⟩⟩⟩
theorem k27_1: ∀us H,CallOK E0 prog 27 us H (pCl ca27_1 cv27_1 us H):=pCl_ok (fun f args H=>evalM_ok m27_1 1000 f args H) cl27_1
theorem kq27:fxOK E0 prog okd 27 (.prim (pCls [(ca27_0,cv27_0),(ca27_1,cv27_1)])):=pCls_ok _ (by
  intro p hp us H
  simp only [List.mem_cons,List.not_mem_nil,or_false] at hp
  rcases hp with rfl|rfl
  · exact k27_0 us H
  · exact k27_1 us H)
theorem m6_0:MTab E0 prog okd tab6_0:=mOver mtab fun _=>⟨trivial,at1 kq26,⟨trivial,at1 kq27,⟨trivial,at1 kq65,⟨trivial,at1 kq67,⟨trivial,at1 kq68,⟨trivial,at1 kq105,⟨trivial,at1 kq337,trivial⟩⟩⟩⟩⟩⟩⟩
theorem k6_0: ∀us H,CallOK E0 prog 6 us H (pCl ca6_0 cv6_0 us H):=pCl_ok (fun f args H=>evalM_ok m6_0 1000 f args H) cl6_0
end Go.PV
namespace Go.PV
open Go Go.Proofs.YtmjfdiohjflnnaaGreatDoor Go.Proofs
set_option maxRecDepth 100000
theorem primsW:Prims prW where
  no:=fun f hf=>by
    have h:f≠235∧f≠155∧f≠60∧f≠6:=by
      have key: ∀f∈ [9,10,12,14,16,18,20,22,25,30,31,32,33,36,37,38,40,4,5,55,56,57,58,59,61,62,63,64,97,98,99,100,101,104,154,156],f≠235∧f≠155∧f≠60∧f≠6:=by decide
      exact key f hf
    unfold prW
    split<;>simp_all
  p98:=rfl
  p153:=rfl
  p235:=rfl
  p155:=rfl
  p60:=rfl
theorem runW:Run:=fun W hL c0 c1 x2 h0 h1 h2=>ways_run prW (tabOK1 k6_0) primsW rfl W hL c0 c1 x2 h0 h1 h2
theorem cardW:Rows.SpaceWaysCardSaid:=
  Claim7.holds_tied_plain_at .later [] _ _ _ _ (said runW) (fun _ h=>by cases h) a3 (fun _ h=>by cases h) row_tie rfl ⟨rfl,rfl⟩ a4 rfl plain goes
end Go.PV
namespace Go.Proofs.YtmjfdiohjflnnaaGreatDoor
theorem spaceWays_card:Rows.SpaceWaysCardSaid:=Go.PV.cardW
end Go.Proofs.YtmjfdiohjflnnaaGreatDoor
