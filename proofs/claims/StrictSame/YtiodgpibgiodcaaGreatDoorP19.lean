/- A part of the proof. -/
import Derived.OpenShut
import Derived.ProofKit
import Derived.Shelf.Abstract
import Derived.Test.YtiodgpibgiodcaaGreatDoorRows
import Derived.WalkKit
import Derived.Test.YtiodgpibgiodcaaGreatDoorP00
import Derived.Test.YtiodgpibgiodcaaGreatDoorP18
set_option linter.all false
set_option maxHeartbeats 4000000
namespace Go.aj
open Go Go.Proofs Go.Proofs.Tryz Go.ChangeShapes Go.WideShapes Go.ChangeAt Go.RowKit
open Go.Proofs.YtiodgpibgiodcaaGreatDoor (Rows.strictSameUptoRow)
set_option maxRecDepth 100000
noncomputable abbrev jx:OpenClaim:=Rows.strictSameUptoRow
noncomputable def nzm (k:Nat):String:=jx.named.getD k ""
def aaR {P:Program} {W:World} {name:String} {k:IntKind} {zs:List Int} {g:Nat} (M:nj) (f:Lib.TabIs P W name k zs) (h:P.globalNamed name=some g):
    bt (cellAt W) M eQ (.b5 (zs.map (aa.int k)) 0) (.pointer (some ⟨g,0,none⟩)):=by
 refine .b5 _ 0 g 0 (λa=> .int k (zs.getD a 0)) (λa d=> ?_) (λa i b=> ?_)
 . rw [di] at d;have:=f.cell h a d;rw [sP] at this;rw [gH];exact this
 . rw [hO] at b
   cases c:zs[a]? with
   |none=>rw [c] at b;cases b
   | some e=>
     rw [c] at b;cases b;have:zs.getD a 0=e:=by simp [List.getD,c]
     rw [this];exact .int k e
def uJ (g:Nat):List Int:=match rm g with
 | .b5 a _=>a.map λb=>match b with
   | .int _ c=>c
   |_=>0
 |_=> []
def z8 {W:World} (h:laidMetH prog jx.laid W) (M:nj) (i g t n e:Nat) (k:IntKind) (j:jx.laid.filter (λx=>x.1==nzm i)= [(nzm i,Lib.tabData k (uJ g))]) (a:prog.globalNamed (nzm i)=some g)
    (f:(prog.globals[g]?).map (·.type)=some t) (m:prog.underlying t=some (.array n e)) (o:prog.underlying e=some (.int k)) (c:prog.cellsOf e=1) (d:prog.cellsOf t=n) (l:rm g= .b5 ((uJ g).map (aa.int k)) 0):
    bt (cellAt W) M eQ (rm g) (.pointer (some ⟨g,0,none⟩)):=by
 have b:=h.filter (λx=>x.1==nzm i);rw [j] at b;rw [l];exact aaR _ (Lib.tabIs_of_head a f m o c d b) a
def kq {W:World} (b:laidMetH prog jx.laid W):jD G (eS W):=by
 intro a;show bt (cellAt W) (eS W).M eQ (rm a) _;by_cases c:a=1
 . subst c;exact z8 b _ 0 1 315 256 5 .u8 aq aq aq aq aq aq aq aq
 by_cases d:a=2
 . subst d;exact z8 b _ 2 2 339 20 309 .u64 aq aq aq aq aq aq aq aq
 by_cases e:a=4
 . subst e;exact z8 b _ 3 4 370 32 5 .u8 aq aq aq aq aq aq aq aq
 by_cases f:a=5
 . subst f;exact z8 b _ 4 5 371 64 5 .u8 aq aq aq aq aq aq aq aq
 have:rm a= .bad:=by unfold rm;split<;>simp_all
 rw [this];exact .bad _
end Go.aj
