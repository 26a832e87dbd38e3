/- A part of the proof: KB8, PvLay, PvP5, PvP6, PvP7, PvP8, PvP9, LiesT. -/
import Derived.BigQuiet
import Derived.Deep.QuietTactic
import Derived.KernelRfl
import Derived.LoopIn
import Derived.LoopNIn
import Derived.OwnWalkIn
import Derived.RangeFuncBox
import Derived.RangeFuncLeaves
import Derived.Shelf.Lays
import Derived.Shelf.SlGeneric
import Derived.Shelf.SlIterI.Collect
import Derived.Shelf.SlLaysF
import Derived.Shelf.SlLaysZI
import Derived.Shelf.SlSortCmp.NoneTotal
import Derived.Shelf.Slices.In.SortNone
import Derived.Shelf.Sort.Plain
import Derived.TacticsInMore
import Derived.WalkKit
import Derived.Test.YtmjfdiohjflnnaaGreatDoorP01
import Derived.Test.YtmjfdiohjflnnaaGreatDoorP04
import Derived.Test.YtmjfdiohjflnnaaGreatDoorP06
import Derived.Test.YtmjfdiohjflnnaaGreatDoorP07
import Derived.Test.YtmjfdiohjflnnaaGreatDoorP15
import Derived.Test.YtmjfdiohjflnnaaGreatDoorP18
import Derived.Test.YtmjfdiohjflnnaaGreatDoorP19
import Derived.Test.YtmjfdiohjflnnaaGreatDoorProg
set_option linter.all false
namespace Go.PV
open Go Go.Proofs Go.Proofs.Tryz Go.ChangeShapes Go.WideShapes Go.ChangeAt Go.RowKit
open Go.Proofs.YtmjfdiohjflnnaaGreatDoor (Rows.spaceWaysRow Rows.spaceWaysSpec Rows.SpaceWaysSaid)
set_option maxRecDepth 100000
end Go.PV
namespace Go.Proofs
open Go.Shelf
def Tryz.lays189_ren:Go.Shelf.Ren:=⟨fun|189=>155|125=>103|257=>236|128=>165|129=>166|294=>343|295=>344|296=>345|297=>346|298=>347|299=>348|216=>349|300=>350|301=>351|328=>430|329=>238|330=>239|331=>431|332=>432|215=>433|343=>475|n=>n,fun|28=>28|3=>3|46=>179|0=>0|51=>251|53=>254|4=>4|183=>259|182=>258|131=>125|5=>5|9=>9|218=>332|222=>336|228=>412|229=>270|n=>n,fun|n=>n⟩
theorem Tryz.lays189:Go.Proofs.Lays.n189 Tryz.prog Tryz.lays189_ren:= {
 mixed:=by kernel_rfl,
 f125:=Tryz.func103.trans (congrArg some (by kernel_rfl)),
 f128:=Tryz.func165.trans (congrArg some (by kernel_rfl)),
 f129:=Tryz.func166.trans (congrArg some (by kernel_rfl)),
 f189:=Tryz.func155.trans (congrArg some (by kernel_rfl)),
 f215:=Tryz.func433.trans (congrArg some (by kernel_rfl)),
 f216:=Tryz.func349.trans (congrArg some (by kernel_rfl)),
 f257:=Tryz.func236.trans (congrArg some (by kernel_rfl)),
 f294:=Tryz.func343.trans (congrArg some (by kernel_rfl)),
 f295:=Tryz.func344.trans (congrArg some (by kernel_rfl)),
 f296:=Tryz.func345.trans (congrArg some (by kernel_rfl)),
 f297:=Tryz.func346.trans (congrArg some (by kernel_rfl)),
 f298:=Tryz.func347.trans (congrArg some (by kernel_rfl)),
 f299:=Tryz.func348.trans (congrArg some (by kernel_rfl)),
 f300:=Tryz.func350.trans (congrArg some (by kernel_rfl)),
 f301:=Tryz.func351.trans (congrArg some (by kernel_rfl)),
 f328:=Tryz.func430.trans (congrArg some (by kernel_rfl)),
 f329:=Tryz.func238.trans (congrArg some (by kernel_rfl)),
 f330:=Tryz.func239.trans (congrArg some (by kernel_rfl)),
 f331:=Tryz.func431.trans (congrArg some (by kernel_rfl)),
 f332:=Tryz.func432.trans (congrArg some (by kernel_rfl)),
 f343:=Tryz.func475.trans (congrArg some (by kernel_rfl)),
 t0:=Tryz.underlying0,
 a0:=Tryz.isAgg0,
 z0:=Tryz.sizeOf0,
 v0:=Tryz.zeroValue0,
 t3:=Tryz.underlying3,
 a3:=Tryz.isAgg3,
 z3:=Tryz.sizeOf3,
 v3:=Tryz.zeroValue3,
 t4:=Tryz.underlying4,
 a4:=Tryz.isAgg4,
 z4:=Tryz.sizeOf4,
 v4:=Tryz.zeroValue4,
 t5:=Tryz.underlying5,
 a5:=Tryz.isAgg5,
 z5:=Tryz.sizeOf5,
 v5:=Tryz.zeroValue5,
 t9:=Tryz.underlying9,
 a9:=Tryz.isAgg9,
 z9:=Tryz.sizeOf9,
 v9:=Tryz.zeroValue9,
 t28:=Tryz.underlying28,
 a28:=Tryz.isAgg28,
 z28:=Tryz.sizeOf28,
 v28:=Tryz.zeroValue28,
 t46:=Tryz.underlying179,
 a46:=Tryz.isAgg179,
 z46:=Tryz.sizeOf179,
 v46:=Tryz.zeroValue179,
 t51:=Tryz.underlying251,
 a51:=Tryz.isAgg251,
 z51:=Tryz.sizeOf251,
 v51:=Tryz.zeroValue251,
 t53:=Tryz.underlying254,
 a53:=Tryz.isAgg254,
 z53:=Tryz.sizeOf254,
 v53:=Tryz.zeroValue254,
 t131:=Tryz.underlying125,
 a131:=Tryz.isAgg125,
 z131:=Tryz.sizeOf125,
 v131:=Tryz.zeroValue125,
 t182:=Tryz.underlying258,
 a182:=Tryz.isAgg258,
 z182:=Tryz.sizeOf258,
 v182:=Tryz.zeroValue258,
 t183:=Tryz.underlying259,
 a183:=Tryz.isAgg259,
 z183:=Tryz.sizeOf259,
 v183:=Tryz.zeroValue259,
 t218:=Tryz.underlying332,
 a218:=Tryz.isAgg332,
 z218:=Tryz.sizeOf332,
 v218:=Tryz.zeroValue332,
 t222:=Tryz.underlying336,
 a222:=Tryz.isAgg336,
 z222:=Tryz.sizeOf336,
 v222:=Tryz.zeroValue336,
 t228:=Tryz.underlying412,
 a228:=Tryz.isAgg412,
 z228:=Tryz.sizeOf412,
 v228:=Tryz.zeroValue412,
 t229:=Tryz.underlying270,
 a229:=Tryz.isAgg270,
 z229:=Tryz.sizeOf270,
 v229:=Tryz.zeroValue270}
def Tryz.laysSF_ren:Go.Shelf.Ren:=⟨fun|6=>60|15=>103|14=>102|28=>165|29=>166|20=>157|21=>158|22=>159|23=>160|24=>161|25=>162|26=>163|27=>164|46=>237|47=>238|48=>239|49=>240|50=>241|57=>352|n=>n,fun|22=>36|24=>28|25=>122|3=>3|39=>179|0=>0|53=>251|55=>254|4=>4|46=>259|45=>258|50=>125|5=>5|9=>9|66=>332|70=>336|76=>412|77=>270|n=>n,fun|n=>n⟩
theorem Tryz.laysSF:Go.Proofs.SlLaysF.n6 Tryz.prog Tryz.laysSF_ren:= {
 mixed:=by kernel_rfl,
 f6:=⟨Tryz.f60.name,by decide,Tryz.func60.trans (congrArg some (by kernel_rfl))⟩,
 f14:=⟨Tryz.f102.name,by decide,Tryz.func102.trans (congrArg some (by kernel_rfl))⟩,
 f15:=Tryz.func103.trans (congrArg some (by kernel_rfl)),
 f20:=⟨Tryz.f157.name,by decide,Tryz.func157.trans (congrArg some (by kernel_rfl))⟩,
 f21:=⟨Tryz.f158.name,by decide,Tryz.func158.trans (congrArg some (by kernel_rfl))⟩,
 f22:=⟨Tryz.f159.name,by decide,Tryz.func159.trans (congrArg some (by kernel_rfl))⟩,
 f23:=⟨Tryz.f160.name,by decide,Tryz.func160.trans (congrArg some (by kernel_rfl))⟩,
 f24:=⟨Tryz.f161.name,by decide,Tryz.func161.trans (congrArg some (by kernel_rfl))⟩,
 f25:=⟨Tryz.f162.name,by decide,Tryz.func162.trans (congrArg some (by kernel_rfl))⟩,
 f26:=⟨Tryz.f163.name,by decide,Tryz.func163.trans (congrArg some (by kernel_rfl))⟩,
 f27:=⟨Tryz.f164.name,by decide,Tryz.func164.trans (congrArg some (by kernel_rfl))⟩,
 f28:=Tryz.func165.trans (congrArg some (by kernel_rfl)),
 f29:=Tryz.func166.trans (congrArg some (by kernel_rfl)),
 f46:=⟨Tryz.f237.name,by decide,Tryz.func237.trans (congrArg some (by kernel_rfl))⟩,
 f47:=Tryz.func238.trans (congrArg some (by kernel_rfl)),
 f48:=Tryz.func239.trans (congrArg some (by kernel_rfl)),
 f49:=⟨Tryz.f240.name,by decide,Tryz.func240.trans (congrArg some (by kernel_rfl))⟩,
 f50:=⟨Tryz.f241.name,by decide,Tryz.func241.trans (congrArg some (by kernel_rfl))⟩,
 f57:=⟨Tryz.f352.name,by decide,Tryz.func352.trans (congrArg some (by kernel_rfl))⟩,
 t0:=Tryz.underlying0,
 a0:=Tryz.isAgg0,
 z0:=Tryz.sizeOf0,
 v0:=Tryz.zeroValue0,
 t3:=Tryz.underlying3,
 a3:=Tryz.isAgg3,
 z3:=Tryz.sizeOf3,
 v3:=Tryz.zeroValue3,
 t4:=Tryz.underlying4,
 a4:=Tryz.isAgg4,
 z4:=Tryz.sizeOf4,
 v4:=Tryz.zeroValue4,
 t5:=Tryz.underlying5,
 a5:=Tryz.isAgg5,
 z5:=Tryz.sizeOf5,
 v5:=Tryz.zeroValue5,
 t9:=Tryz.underlying9,
 a9:=Tryz.isAgg9,
 z9:=Tryz.sizeOf9,
 v9:=Tryz.zeroValue9,
 t22:=Tryz.underlying36,
 a22:=Tryz.isAgg36,
 z22:=Tryz.sizeOf36,
 v22:=Tryz.zeroValue36,
 a24:=Tryz.isAgg28,
 z24:=Tryz.sizeOf28,
 t25:=Tryz.underlying122,
 a25:=Tryz.isAgg122,
 z25:=Tryz.sizeOf122,
 v25:=Tryz.zeroValue122,
 t39:=Tryz.underlying179,
 a39:=Tryz.isAgg179,
 z39:=Tryz.sizeOf179,
 v39:=Tryz.zeroValue179,
 t45:=Tryz.underlying258,
 a45:=Tryz.isAgg258,
 z45:=Tryz.sizeOf258,
 v45:=Tryz.zeroValue258,
 t46:=Tryz.underlying259,
 a46:=Tryz.isAgg259,
 z46:=Tryz.sizeOf259,
 v46:=Tryz.zeroValue259,
 t50:=Tryz.underlying125,
 a50:=Tryz.isAgg125,
 z50:=Tryz.sizeOf125,
 v50:=Tryz.zeroValue125,
 t53:=Tryz.underlying251,
 a53:=Tryz.isAgg251,
 z53:=Tryz.sizeOf251,
 v53:=Tryz.zeroValue251,
 t55:=Tryz.underlying254,
 a55:=Tryz.isAgg254,
 z55:=Tryz.sizeOf254,
 v55:=Tryz.zeroValue254,
 t66:=Tryz.underlying332,
 a66:=Tryz.isAgg332,
 z66:=Tryz.sizeOf332,
 v66:=Tryz.zeroValue332,
 t70:=Tryz.underlying336,
 a70:=Tryz.isAgg336,
 z70:=Tryz.sizeOf336,
 v70:=Tryz.zeroValue336,
 t76:=Tryz.underlying412,
 a76:=Tryz.isAgg412,
 z76:=Tryz.sizeOf412,
 v76:=Tryz.zeroValue412,
 t77:=Tryz.underlying270,
 a77:=Tryz.isAgg270,
 z77:=Tryz.sizeOf270,
 v77:=Tryz.zeroValue270}
def Tryz.laysAS_ren:Go.Shelf.Ren:=⟨fun|11=>235|n=>n,fun|24=>28|26=>3|28=>185|0=>0|33=>115|4=>4|n=>n,fun|n=>n⟩
theorem Tryz.laysAS:Go.Proofs.SlLaysZI.n11 Tryz.prog Tryz.laysAS_ren:= {
 mixed:=by kernel_rfl,
 f11:=⟨Tryz.f235.name,by decide,Tryz.func235.trans (congrArg some (by kernel_rfl))⟩,
 t0:=Tryz.underlying0,
 a0:=Tryz.isAgg0,
 z0:=Tryz.sizeOf0,
 v0:=Tryz.zeroValue0,
 t24:=Tryz.underlying28,
 a24:=Tryz.isAgg28,
 z24:=Tryz.sizeOf28,
 v24:=Tryz.zeroValue28,
 t26:=Tryz.underlying3,
 a26:=Tryz.isAgg3,
 z26:=Tryz.sizeOf3,
 v26:=Tryz.zeroValue3,
 t28:=Tryz.underlying185,
 a28:=Tryz.isAgg185,
 z28:=Tryz.sizeOf185,
 v28:=Tryz.zeroValue185,
 i26:=by kernel_rfl}
end Go.Proofs
namespace Go.PV
open Go.Sort Go.Proofs
set_option maxRecDepth 100000
theorem sub_got {cs a:List Val} {off n:Nat} (h:sub cs off n=some a):a.length=n∧off+n≤cs.length∧ ∀j,j<n→cs[off+j]? =a[j]? :=by
 unfold sub at h;split at h
 · next hle=>
   cases h;refine ⟨by rw [List.length_take,List.length_drop];omega,hle,fun j hj=> ?_⟩;rw [List.getElem?_take,if_pos hj,List.getElem?_drop]
 · cases h
theorem row_cells {κ:Kr} {H:Hp} {w:World} (hw:WR κ H w) {id gen off d ro b o cap len:Nat} {cs a:List Val} (hp:VK κ (.ref id gen off 1 len false) (.slice (some ⟨b,o,none⟩) len cap)) (hc:H.get id=some (.cells gen d ro cs)) (hd:d≤gen)
  (ha:sub cs off len=some a):b<w.heap.size∧ ∀j,j<len→ ∃(v:Val) (x:Value),a[j]? =some v∧w.cell? ⟨b,o+j,none⟩=some x∧VK κ v x∧w.frozen? ⟨b,o+j,none⟩=false:=by
 obtain ⟨al,hle,hget⟩:=sub_got ha;unfold VK at hp
 cases hp with
 | ref _ _ _ _ _ _ b' C L cap' h1 h2 h3 h4 h5 h6 h7=>
   obtain ⟨b0,C0,hcR⟩:=hw.obj _ _ hc;have e:=hcR.at_;rw [h1] at e;simp only [Option.some.injEq,Prod.mk.injEq] at e;obtain ⟨rfl,rfl,rfl⟩:=e;refine ⟨hw.blk _ _ _ _ _ h1,fun j hj=> ?_⟩;have hcont:=(hcR.cont gen b C cs.length hd h1).2;have hja:j<a.length:=by omega
   obtain ⟨x,hx1,hx2⟩:=hcont (off+j) a[j] (by omega) (by omega) (by rw [hget j hj,List.getElem?_eq_getElem hja]);refine ⟨a[j],x,List.getElem?_eq_getElem hja,?_,hx2,?_⟩
   · rw [cell?_eq,←hx1];congr 1;omega
   · obtain ⟨c,ety,lo,hi,hb1,hb2,hb3⟩:=hcR.free;have hr:=hcR.room;unfold World.frozen?;simp only [hb1];have:=hb3 (off-C.s+j) (by omega);simpa using this
theorem arg1 {κ:Kr} {v:Val} {xs:Array Value} (hl: [v].length=xs.size) (ha: ∀(i:Nat) (u:Val) (x:Value),[v][i]? =some u→xs[i]? =some x→VK κ u x): ∃x,xs= #[x]∧VK κ v x:=by
 obtain ⟨m⟩:=xs
 match m,hl with
 | [x],_=>exact ⟨x,rfl,ha 0 _ _ rfl rfl⟩
theorem arg2 {κ:Kr} {u v:Val} {xs:Array Value} (hl: [u,v].length=xs.size) (ha: ∀(i:Nat) (u':Val) (x:Value),[u,v][i]? =some u'→xs[i]? =some x→VK κ u' x): ∃x y,xs= #[x,y]∧VK κ u x∧VK κ v y:=by
 obtain ⟨m⟩:=xs
 match m,hl with
 | [x,y],_=>exact ⟨x,y,rfl,ha 0 _ _ rfl rfl,ha 1 _ _ rfl rfl⟩
theorem enters155 (args:Array Value) (w:World):(callFunc 155 args).run Tryz.prog w= .ok (.enter 155 args) w:=enters_of Tryz.func155 (by kernel_rfl) rfl args w
theorem sort_int (blk off cap:Nat) (zs:List Int) (w:World) (hH:Holds (Value.int .i64) w blk off zs.toArray) (hblk:blk<w.heap.size) (hsz:zs.length<4611686018427387904):
  Calls Tryz.prog 155 #[.slice (some ⟨blk,off,none⟩) zs.length cap] w fun e w'=>
   e= .returned (.tuple #[])∧ ∃n os,w'=grow (putRow (Value.int .i64) (Sort.ahead w n) blk off (zs.mergeSort fun x y=>decide (x≤y)).toArray) os:=
 Any.slices_Sort_int Tryz.lays189 blk off cap zs w hH hblk hsz
theorem sort_none (p:Option Addr) (cap:Nat) (w:World):Calls Tryz.prog 155 #[.slice p 0 cap] w fun e w'=>e= .returned (.tuple #[])∧w'=w:=
 Any.slices_Sort_int_none Tryz.lays189 p cap w
theorem pSort_call (E:Env) (args:List Val) (H:Hp):CallOK E Tryz.prog 155 args H (pSort args H):=by
 intro hne κ w xs hw hg hl ha;unfold pSort at hne⊢;split at hne
 case h_3=>exact absurd rfl hne
 case h_1=>
  obtain ⟨x,rfl,hx⟩:=arg1 hl ha;unfold VK at hx;cases hx;refine .inl ⟨155,_,enters155 _ _,(sort_none none 0 w).mono ?_⟩;rintro e w' ⟨rfl,rfl⟩;exact ⟨_,_,κ,rfl,hw,Fr.refl fun _ h=>h,.tup [] #[] rfl fun i v x h=>by cases h⟩
 rename_i id gen off len;obtain ⟨x,rfl,hx⟩:=arg1 hl ha;split at hne
 case h_2=>exact absurd rfl hne
 rename_i g d ro cs hget;split at hne
 case h_2=>exact absurd rfl hne
 rename_i hdec;obtain ⟨rfl,hro,hd,hlen⟩:=of_decide_eq_true hdec;split at hne
 case h_2=>exact absurd rfl hne
 rename_i a hsub;split at hne
 case h_2=>exact absurd rfl hne
 rename_i l hints;split at hne
 case h_2=>exact absurd rfl hne
 rename_i c hupd;have hal:=intsOf_some hints;obtain ⟨al,hle,-⟩:=sub_got hsub;have hx0:=hx;unfold VK at hx0;obtain ⟨b,o,cap,rfl⟩: ∃b o cap,x= .slice (some ⟨b,o,none⟩) len cap:=by cases hx0;exact ⟨_,_,_,rfl⟩
 obtain ⟨hb,hrow⟩:=row_cells hw hx hget hd hsub;have hll:l.length=len:=by rw [←al,hal,List.length_map]
 have hH:Holds (Value.int .i64) w b o l.toArray:=fun j hj=>by
  have hj':j<len:=by simpa [hll] using hj
  obtain ⟨v,y,h1,h2,h3,h4⟩:=hrow j hj';have hjl:j<l.length:=by omega
  rw [hal,List.getElem?_map,List.getElem?_eq_getElem hjl] at h1;cases h1;unfold VK at h3;cases h3;refine ⟨?_,h4⟩;rw [h2];simp [hjl]
 subst hll;refine .inl ⟨155,_,enters155 _ _,(sort_int b o cap l w hH hb hlen).mono ?_⟩;rintro e w' ⟨rfl,n,os,rfl⟩;simp only [fL_eq,fH_eq];have hsz:(sortI l).length=l.length:=by unfold sortI;exact List.length_mergeSort l
 obtain ⟨h1,h2⟩:=sort_row Tryz.prog hw hx hget hro (vs:=(sortI l).map (Val.int .i64)) (Value.int .i64) (sortI l).toArray (by simpa using hsz)
  ⟨by simp,fun i v x hv hx=>by
   rw [List.getElem?_map] at hv;rw [Array.getElem?_map] at hx;have e:(sortI l).toArray[i]? =(sortI l)[i]? :=by simp
   rw [e] at hx
   cases hz:(sortI l)[i]? with
   |none=>rw [hz] at hv;cases hv
   |some z=>rw [hz] at hv hx;cases hv;cases hx;exact .int _ _⟩
  (fun i y hy=>by
   rw [Array.getElem?_map] at hy
   cases hz:(sortI l).toArray[i]? with
   |none=>rw [hz] at hy;cases hy
   |some z=>rw [hz] at hy;cases hy;rfl) hupd n os
 exact ⟨_,_,κ,rfl,h1,h2,.tup [] #[] rfl fun i v x h=>by cases h⟩
open Go.Sort Go.Proofs Go.RowKit
set_option maxRecDepth 100000
theorem cmp61 (w:World) (bx ox cx by_ oy cy:Nat) (nx ny:Nat) (kx ky:Int) (h1:w.cell? ⟨bx,ox,none⟩=some (.int .i64 kx)) (h2:w.cell? ⟨by_,oy,none⟩=some (.int .i64 ky)) (hx:0<nx) (hy:0<ny) (hs:(IntKind.i64.wrap (kx-ky))=kx-ky):
  Calls Tryz.prog 61 #[.slice (some ⟨bx,ox,none⟩) nx cx,.slice (some ⟨by_,oy,none⟩) ny cy] w fun e w'=>e= .returned (.int .i64 (kx-ky))∧ ∃q,w'=w.drewN q:=by
 go_enter Tryz.func61,Tryz.ntmps61
 go_wp2
 go_quiet (fail)
 go_wp2
 go_ret
 exact ⟨rfl,_,rfl⟩
theorem key_slice {κ:Kr} {v:Val} {x:Value} {k:Int} (hk:keyOf v=some k) (hx:VK κ v x): ∃b o n cap,x= .slice (some ⟨b,o,none⟩) n cap∧0<n∧κ.F b o=some (.int .i64 k):=by
 unfold keyOf at hk;split at hk
 case h_2=>cases hk
 rename_i a rest c;cases hk;unfold VK at hx
 cases hx with
 | sl _ _ ad cap kk b o X h1 h2 h3 h4 h5 h6 h7=>
   have e:=h4 (by simp);subst e;have e1:=h5 0 _ rfl;simp only [List.length_cons,List.length_nil] at e1;have hF:=h6 0 0 (by simp) (by omega);have hv:=h7 0 0 _ _ rfl rfl;simp only [Nat.zero_mul,Nat.add_zero] at hF;refine ⟨b,o,_,cap,rfl,by simp,?_⟩;rw [hF];generalize X 0 0=z at hv;cases hv;rfl
theorem enters60 (args:Array Value) (w:World):(callFunc 60 args).run Tryz.prog w= .ok (.enter 60 args) w:=enters_of Tryz.func60 (by kernel_rfl) rfl args w
theorem enters61 (args:Array Value) (w:World):(callFunc 61 args).run Tryz.prog w= .ok (.enter 61 args) w:=enters_of Tryz.func61 (by kernel_rfl) rfl args w
theorem small_of {l:List (Int×Val)} (h:smallK l=true) {i:Nat} (hi:i<l.length): -1000000≤l[i].1∧l[i].1≤1000000:=by have:=List.all_eq_true.1 h _ (List.getElem_mem hi);simpa using this
theorem pSortF_call (E:Env) (args:List Val) (H:Hp):CallOK E Tryz.prog 60 args H (pSortF 61 args H):=by
 intro hne κ w xs hw hg hl ha;unfold pSortF at hne⊢;split at hne
 case h_2=>exact absurd rfl hne
 rename_i id gen off m f;obtain ⟨x,y,rfl,hx,hy⟩:=arg2 hl ha;split at hne
 case h_2=>exact absurd rfl hne
 rename_i g d ro cs hget;split at hne
 case h_2=>exact absurd rfl hne
 rename_i hdec;obtain ⟨rfl,rfl,hro,hd,hlen⟩:=of_decide_eq_true hdec;split at hne
 case h_2=>exact absurd rfl hne
 rename_i a hsub;split at hne
 case h_2=>exact absurd rfl hne
 rename_i l hpairs;split at hne
 case h_2=>exact absurd rfl hne
 rename_i hnd;split at hne
 case h_2=>exact absurd rfl hne
 rename_i c hupd;simp only [Bool.and_eq_true,decide_eq_true_eq] at hnd;obtain ⟨hnd,hsm⟩:=hnd;obtain ⟨hal,hkey⟩:=pairsK_some hpairs;obtain ⟨al,hle,-⟩:=sub_got hsub;have hy0:y= .func (.func 61) #[] #[]:=by
  unfold VK at hy
  cases hy with
  | fn _ _ _ xs ys h1 h2 h3 h4=>
    obtain ⟨p⟩:=xs;obtain ⟨q⟩:=ys
    cases p with
    | nil=>cases q with
      |nil=>rfl
      |cons _ _=>cases h2
    |cons _ _=>cases h1
 subst hy0;have hx0:=hx;unfold VK at hx0;obtain ⟨b,o,cap,rfl⟩: ∃b o cap,x= .slice (some ⟨b,o,none⟩) (m+1) cap:=by cases hx0;exact ⟨_,_,_,rfl⟩
 obtain ⟨hb,hrow⟩:=row_cells hw hx hget hd hsub;have hll:l.length=m+1:=by rw [←al,hal,List.length_map]
 have hX: ∀j:Fin (m+1),∃z:Value,w.cell? ⟨b,o+j.1,none⟩=some z∧VK κ (l[j.1]'(by omega)).2 z∧w.frozen? ⟨b,o+j.1,none⟩=false:=fun j=>by obtain ⟨v,z,h1,h2,h3,h4⟩:=hrow j.1 j.2;rw [hal,List.getElem?_map,List.getElem?_eq_getElem (by omega)] at h1;cases h1;exact ⟨z,h2,h3,h4⟩
 let enc:Fin (m+1)→Value:=fun j=>Classical.choose (hX j);have henc: ∀j:Fin (m+1),w.cell? ⟨b,o+j.1,none⟩=some (enc j)∧VK κ (l[j.1]'(by omega)).2 (enc j)∧w.frozen? ⟨b,o+j.1,none⟩=false:=fun j=>Classical.choose_spec (hX j)
 clear_value enc
 have hks: ∀j:Fin (m+1),∃b' o' n' c',enc j= .slice (some ⟨b',o',none⟩) n' c'∧0<n'∧κ.F b' o'=some (.int .i64 (l[j.1]'(by omega)).1):=fun j=>key_slice (hkey _ (List.getElem_mem _)) (henc j).2.1;have hone:OneCell enc:=fun j=>by obtain ⟨b',o',n',c',e,-⟩:=hks j;rw [e];rfl
 let dF:Array (Fin (m+1)):=(List.finRange (m+1)).toArray;have hdF:dF.size=m+1:=by simp [dF]
 have hH:Holds enc w b o dF:=fun j hj=>by
  have hj':j<m+1:=by omega
  have e:dF[j]! =⟨j,hj'⟩:=by rw [getElem!_pos dF j hj];simp [dF]
  rw [e];exact ⟨(henc ⟨j,hj'⟩).1,(henc ⟨j,hj'⟩).2.2⟩
 let cf:Fin (m+1)→Fin (m+1)→Int:=fun i j=>(l[i.1]'(by omega)).1-(l[j.1]'(by omega)).1;have hmid: ∀(q:Nat) (os:Array Go.Obj) (dk:Array (Fin (m+1))) (cs':List Val),dk.size=m+1→upd cs off (dk.toList.map fun i=>(l[i.1]'(by omega)).2)=some cs'→
     WR κ (H.set id (.cells gen gen ro cs')) (sortWorld enc w b o q dk os)∧Fr κ.own κ κ w (sortWorld enc w b o q dk os):=fun q os dk cs' hds hu=>by
  refine sort_row Tryz.prog hw hx hget hro enc dk hds ⟨by simp,fun i v z hv hz=> ?_⟩ (fun i z hz=> ?_) hu q os
  · rw [List.getElem?_map] at hv;rw [Array.getElem?_map] at hz;have e:dk[i]? =dk.toList[i]? :=by simp
    rw [e] at hz
    cases hq:dk.toList[i]? with
    |none=>rw [hq] at hv;cases hv
    |some j=>rw [hq] at hv hz;cases hv;cases hz;exact (henc j).2.1
  · rw [Array.getElem?_map] at hz
    cases hq:dk[i]? with
    |none=>rw [hq] at hz;cases hz
    |some j=>rw [hq] at hz;cases hz;exact hone j
 have hcmp:CmpLays1 Tryz.prog 61 #[] enc cf b o dF.size w:=fun q os dk hds i j=>by
  obtain ⟨bx,ox,nx,cx,ex,px,fx⟩:=hks i;obtain ⟨by_,oy,ny,cy,ey,py,fy⟩:=hks j;have hu: ∃cs',upd cs off (dk.toList.map fun i=>(l[i.1]'(by omega)).2)=some cs':=by unfold upd;rw [if_pos (by simp;omega)];exact ⟨_,rfl⟩
  obtain ⟨cs',hu⟩:=hu;obtain ⟨hW,-⟩:=hmid q os dk cs' (by omega) hu;have c1:=hW.frz _ _ _ fx;have c2:=hW.frz _ _ _ fy;rw [ex,ey];have s1:=small_of hsm (i:=i.1) (by omega);have s2:=small_of hsm (i:=j.1) (by omega);refine (cmp61 (sortWorld enc w b o q dk os) bx ox cx by_ oy cy nx ny _ _ (by rw [cell?_eq];exact c1) (by rw [cell?_eq];exact c2) px py ?_).mono ?_
  · generalize (l[i.1]'(by omega)).1=p at s1⊢;generalize (l[j.1]'(by omega)).1=r at s2⊢;unfold IntKind.wrap;simp [IntKind.bits,IntKind.signed];omega
  · rintro e w' ⟨rfl,q',rfl⟩;exact ⟨rfl,q', #[],by rw [grow_empty]⟩
 have hO:SWO (ltOf cf):= {
  irrefl:=fun x=>by simp [ltOf,cf]
  trans:=fun x y z h1 h2=>by simp [ltOf,cf] at h1 h2⊢;omega
  ntrans:=fun x y z h1 h2=>by simp [ltOf,cf] at h1 h2⊢;omega}
 have hT: ∀x y,(ltOf cf) x y=false→(ltOf cf) y x=false→x=y:=fun x y h1 h2=>by
  simp [ltOf,cf] at h1 h2;have e:(l[x.1]'(by omega)).1=(l[y.1]'(by omega)).1:=by omega
  have hx':x.1<(l.map (·.1)).length:=by simp;omega
  have hy':y.1<(l.map (·.1)).length:=by simp;omega
  have hp:=List.pairwise_iff_getElem.1 hnd;rcases Nat.lt_trichotomy x.1 y.1 with hlt|he|hlt
  · exact absurd (by simpa using e) (hp _ _ hx' hy' hlt)
  · exact Fin.ext he
  · exact absurd (by simpa using e.symm) (hp _ _ hy' hx' hlt)
 refine .inl ⟨60,_,enters60 _ _,?_⟩;have hcall:=Any.slices_SortFunc_total Tryz.laysSF enc hone cf hO 61 #[] b o cap dF w enters61 hcmp hH hb (by omega) hT;rw [hdF] at hcall;refine hcall.mono ?_;rintro e w' ⟨rfl,q,os,rfl⟩;simp only [fL_eq,fH_eq];have hmm:(dF.toList.mergeSort fun x y=> !(ltOf cf) y x).map (fun i:Fin (m+1)=>l[i.1]'(by omega))=l.mergeSort leK:=by
  rw [List.map_mergeSort (s:=leK)]
  · congr 1;apply List.ext_getElem
    · simp [dF,hll]
    · intro i h1 h2;simp [dF]
  · intro i _ j _;unfold leK ltOf;simp only [cf];rw [Bool.eq_iff_iff];simp
 have hu2:upd cs off ((dF.toList.mergeSort fun x y=> !(ltOf cf) y x).toArray.toList.map fun i=>(l[i.1]'(by omega)).2)=some c:=by rw [←hupd,←hmm,List.map_map];rfl
 obtain ⟨h1,h2⟩:=hmid q os _ c (by simp [hdF]) hu2;exact ⟨_,_,κ,rfl,h1,h2,.tup [] #[] rfl fun i v x h=>by cases h⟩
open Go Go.Proofs Go.RowKit Go.Maps Go.Sort Go.Shelf
attribute [local go_sem] Oper.semAt_some
section
variable {P:Program} {ρ:Ren}
def GivesB (F:Fence) (n:Nat) (P:Program) (g:Nat) (lb:Array Value) (S:List Int→Prop) (N:Nat) (w:World):Prop:=
 ∀ (l:Nat) (J:List Int→World→Prop) (W:World),Below w.heap.size w W→AbidesFrom W.heap.size J→(∀pre W1,J pre W1→Below w.heap.size w W1)→
   (∀pre x W1,J pre W1→pre.length<N→YieldAt F (n-1) P l #[encZ x] W1 fun e W'=>e= .returned (.bool true)∧J (pre++ [x]) W'∧KeepsWalks W1 W')→
   J [] W→CallsIn F n P g (#[.func (.yield l) #[] #[]]++lb) W fun e W'=>(∃v,e= .returned v)∧ ∃xs,S xs∧J xs W'
set_option maxRecDepth 100000 in
set_option maxHeartbeats 2000000 in
theorem collect_own (L:SlLaysZI.n11 P ρ) (F:Fence) (n:Nat) (h11:F.fn (ρ.f 11)) (hro:F.round=none) (hn:2≤n) (g:Nat) (lb:Array Value) (hFg:F.fn g) (eg: ∀args w,(callFunc g args).run P w= .ok (.enter g args) w)
  (S:List Int→Prop) (N:Nat) (hN:N≤maxLen) (hNb:N*8≤140737488355328) (w:World) (hseq:GivesB F (n-1) P g lb S N w):
  CallsIn F n P (ρ.f 11) #[.slice none 0 0,.func (.func g) #[] lb] w fun e w'=> ∃(v:Value) (ss:List Int),e= .returned v∧S ss∧w'.ownsRow w.heap.size (ρ.t 26) 1 v ss.length (ss.map encZ)∧(v= .slice none 0 0↔ss= [])∧Below w.heap.size w w':=by
 have h1:1≤n:=by omega
 have mixed:=L.mixed;have t0:=L.t0;have a0:=L.a0;have z0:=L.z0;have v0:=L.v0;have t24:=L.t24;have a24:=L.a24;have z24:=L.z24;have v24:=L.v24;have t26:=L.t26;have a26:=L.a26;have z26:=L.z26;have v26:=L.v26;have t28:=L.t28;have a28:=L.a28;have z28:=L.z28;have v28:=L.v28;have hne:ρ.t 24≠ρ.t 26:=fun e=>by have h:=L.t24;rw [e,L.t26] at h;cases h
 have u0:=run_underlying L.t0;have u24:=run_underlying L.t24;have u26:=run_underlying L.t26;have u28:=run_underlying L.t28;obtain ⟨_,_,FG⟩:=L.f11;refine callsIn_of_wp_marks FG rfl h11 ?_ hro;simp only [SlBodyZ.n11_ntmps ρ,List.size_toArray,List.length_cons,List.length_nil,Nat.reduceAdd,Nat.reduceSub,Array.replicate_succ,Array.replicate_zero,List.push_toArray,List.append_toArray,List.nil_append,List.cons_append]
 gi_wp2
 refine wpIn_rangeFunc ?_;intro fn hfn;rw [hro];obtain ⟨W0,hW0⟩: ∃W0,w.alloc (.cells #[.slice none 0 0] (ρ.t 24))=W0:=⟨_,rfl⟩;have hs0:W0.heap.size=w.heap.size+1:=by rw [←hW0];simp
 have hv0:W0.heap[w.heap.size]? =some (.cells #[.slice none 0 0] (ρ.t 24) (0,0)):=by rw [←hW0];exact World.alloc_heap_new w _
 have hb0:Below w.heap.size w W0:=by rw [←hW0];exact (Below.refl _ w).alloc (Nat.le_refl _) _
 rw [hW0];obtain ⟨W1,hW1⟩: ∃W1,(W0.alloc (.deferred (some []))).alloc (.loop (AnyZI.apRec ρ fn (.func (.func g) #[] lb) w.heap.size W0.heap.size .ready none))=W1:=⟨_,rfl⟩;have hold: ∀k,k<W0.heap.size→W1.heap[k]? =W0.heap[k]? :=fun k hk=>by rw [←hW1];exact (Below.heap_alloc _ _ k (by simp;omega)).trans (Below.heap_alloc _ _ k hk)
 have hb1:Below w.heap.size w W1:=by rw [←hW1];exact (hb0.alloc hb0.size _).alloc (by have:=hb0.size;simp;omega) _
 have hs1:W1.heap.size=W0.heap.size+2:=by rw [←hW1];simp
 have hM:AnyZI.ApAt ρ w fn (.func (.func g) #[] lb) w.heap.size (W0.heap.size+1) W0.heap.size [] W1:=
  ⟨⟨_,(hold w.heap.size (by omega)).trans hv0,⟨rfl,.inl ⟨rfl,rfl⟩⟩,by simp⟩,
   by rw [←hW1];have:=World.alloc_heap_new (W0.alloc (.deferred (some []))) (.loop (AnyZI.apRec ρ fn (.func (.func g) #[] lb) w.heap.size W0.heap.size .ready none));rwa [World.size_alloc] at this,
   by rw [←hW1];exact (Below.heap_alloc _ _ _ (by simp)).trans (World.alloc_heap_new W0 _),hb1⟩
 refine ⟨W0.heap.size+1,[{target:= .collected W0.heap.size,args:= #[]}],W1,{target:= .fn (.func g) lb,args:= #[.func (.yield (W0.heap.size+1)) #[] #[]]},W1,g,
  #[.func (.yield (W0.heap.size+1)) #[] #[]]++lb,W1,?_,?_,?_,?_,fun _=>h1,?_⟩
 · rw [←hW1];exact run_enterLoop_outer _ _ _ _ _
 · simp [resolve,go_sem]
 · intro f' hf';simp [Target.leads] at hf';subst hf';exact hFg
 · simp [invoke,go_sem,eg]
 · refine (hseq (W0.heap.size+1) (AnyZI.ApAt ρ w fn (.func (.func g) #[] lb) w.heap.size (W0.heap.size+1) W0.heap.size) W1 hb1 (AnyZI.ap_abides ρ _ _ _ _ _ _ _ hb1.size) (fun _ _ h=>h.below)
    (fun pre x W hJ hl=>AnyZI.apYield {L with} F (n-1-1) w fn hfn _ w.heap.size (W0.heap.size+1) W0.heap.size (by omega) (by omega) (by omega) (Nat.le_refl _) (by omega) N hN hNb pre x W hJ hl) hM).mono ?_
   rintro e W2 ⟨⟨v0,rfl⟩,ss,hS,h2⟩;obtain ⟨v,hv,hrow,hnil⟩:=h2.box;have hend:=run_endLoop (P:=P) h2.L (by simp [AnyZI.apRec]);obtain ⟨W3,hW3⟩: ∃W3,W2.putObj (W0.heap.size+1) (.loop {AnyZI.apRec ρ fn (.func (.func g) #[] lb) w.heap.size W0.heap.size .ready none with state:= .exhausted})=W3:=⟨_,rfl⟩;rw [hW3] at hend;have hg3:W2.grownBy W3 (some (W0.heap.size+1)):=by rw [←hW3];exact grownBy_putObj_a _ _ _
   have hv3:W3.heap[w.heap.size]? =some (.cells #[v] (ρ.t 24) (0,0)):=by rw [←hW3];exact (World.putObj_heap_other (by omega)).trans hv
   have hK3:W3.heap[W0.heap.size]? =some (.deferred (some [])):=by rw [←hW3];exact (World.putObj_heap_other (by omega)).trans h2.K
   have hrow3:=hrow.kept hg3 (ownsRow_ne_a hrow h2.L (fun cur e=>by first|cases e|exact hne (Go.Obj.cells.inj e).2.1));have hb3:Below w.heap.size w W3:=h2.below.grown hg3 h2.below.size (fun k e=>by cases e;omega);obtain ⟨hc3,hf3⟩:=cell_of_box_a hv3;clear hW3;refine ⟨none,W3,hend,?_⟩
   gi_wp2
   rw [←hs0];refine ⟨by simp,.inl ⟨_,_,rfl,run_takeDeferred hK3,?_⟩⟩;exact ⟨_,results_tmp rfl _ _ _,v,ss,rfl,hS,hrow3.kept (grownBy_putObj_a _ _ _) (ownsRow_ne_a hrow3 hK3 (fun cur e=>by first|cases e|exact hne (Go.Obj.cells.inj e).2.1)),hnil,hb3.grown (grownBy_putObj_a _ _ _) hb3.size (fun k e=>by cases e;omega)⟩
end
def numOf:Value→Int| .int _ q=>q|_=>0
def uptoZ (zs:List Int) (k:Nat):List Int:=(List.range k).map fun j=>zs[j]?.getD 0
theorem uptoZ_succ (zs:List Int) (k:Nat):uptoZ zs (k+1)=uptoZ zs k++ [zs[k]?.getD 0]:=by simp [uptoZ,List.range_succ]
theorem uptoZ_length (zs:List Int) (k:Nat):(uptoZ zs k).length=k:=by simp [uptoZ]
theorem uptoZ_all (zs:List Int):uptoZ zs zs.length=zs:=by
 apply List.ext_getElem
 · simp [uptoZ]
 · intro i h1 h2;simp [uptoZ,h2]
set_option maxRecDepth 100000 in
set_option maxHeartbeats 2000000 in
theorem vals156 (F:Fence) (n:Nat) (h7:F.fn 156) (hro:F.round=none) (hn:1≤n) (l Bs po b off len cap:Nat) (zs:List Int) (hreach:len*8≤140737488351232) (J:List Int→World→Prop)
  (hJc: ∀pre W,J pre W→ ∀j,j<len→W.cell? ⟨b,off+j,none⟩=some (.int .i64 (zs[j]?.getD 0)))
  (hY: ∀pre x W,J pre W→pre.length<len→YieldAt F (n-1) Tryz.prog l #[.int .i64 x] W fun e W'=>e= .returned (.bool true)∧J (pre++ [x]) W')
  (W:World) (hBs:W.cell? ⟨Bs,po,none⟩=some (.slice (some ⟨b,off,none⟩) len cap)) (h0:J [] W):
  CallsIn F n Tryz.prog 156 #[.func (.yield l) #[] #[],.pointer (some ⟨Bs,po,none⟩)] W fun e W'=>(∃v,e= .returned v)∧J (uptoZ zs len) W':=by
 refine callsIn_of_wp Tryz.func156 rfl h7 ?_ hro;simp only [Tryz.ntmps156,List.size_toArray,List.length_cons,List.length_nil,Nat.reduceAdd,Nat.reduceSub,Array.replicate_succ,Array.replicate_zero,List.push_toArray,List.append_toArray,List.nil_append,List.cons_append]
 gi_wp2
 gi_loopw [7] (fun i wr=> ∃k:Nat,k≤len∧i= .int .i64 k∧J (uptoZ zs k) wr)
  (fun i _=>len-(numOf i).toNat)
 case atStart=>exact ⟨0,Nat.zero_le _,rfl,h0⟩
 case round=>
  obtain ⟨k,hk,rfl,hJs⟩:=hrel;by_cases hlt:k<len
  · obtain ⟨fn,tmps,assign,body,hy,hR⟩:=hY _ (zs[k]?.getD 0) wr hJs (by rw [uptoZ_length];exact hlt);have hcx':=hJc _ _ hJs k hlt
    gi_wp2
    refine hR.mono ?_;rintro e W3 ⟨rfl,hJ3⟩
    gi_wp2
    go_roundw
    case rel=>exact ⟨k+1,by omega,by simp,by rw [uptoZ_succ];exact hJ3⟩
    case measure=>simp [numOf];omega
  · obtain rfl:k=len:=by omega
    gi_wp2
    go_end0
    exact ⟨⟨_,rfl⟩,hJs⟩
open Go Go.Proofs Go.RowKit Go.Maps Go.Sort Go.Shelf
section
variable {κ:Kr} {H:Hp} {w w':World}
theorem WR.below (hw:WR κ H w) (hB:Below w.heap.size w w'):WR κ H w':=by
 have hc: ∀b o v,cellAt w b o=some v→cellAt w' b o=some v:=fun b o v h=>by
  have:b<w.heap.size:=by
   unfold cellAt at h
   cases hb:w.heap[b]? with
   |none=>rw [hb] at h;cases h
   |some x=>exact (Array.getElem?_eq_some_iff.1 hb).1
  unfold cellAt at h⊢;rw [hB.block b this];exact h
 refine ⟨fun b o v h=>hc _ _ _ (hw.frz _ _ _ h),fun b o h=> ?_,hw.mmap,hw.len,fun id o h=> ?_,hw.dom,fun id g b C L h=>Nat.lt_of_lt_of_le (hw.blk _ _ _ _ _ h) hB.size,hw.sep⟩
 · have h1:=hw.mps _ _ h;rw [hB.block b (Array.getElem?_eq_some_iff.1 h1).1];exact h1
 · refine (hw.obj _ _ h).carry (fun _ _ _ h=>h) (fun _ _ h=>h) (fun _ _ _ h=>h) (fun _=>rfl) (fun g b C L hm=> ?_) (fun _ _ _ _ _ _ h=>h) (fun _ _ _ _ _ h=>h);exact hB.block _ (hw.blk _ _ _ _ _ hm)
theorem new_at (hw:WR κ H w) (hB:Below w.heap.size w w') (o:Obj) (b:Nat) (hb:w.heap.size≤b) (hb':b<w'.heap.size) (C:Cap) (L:Nat) (g0:Nat) (hob:ObjR (κ.addU H.n g0 (b,C,L)) H.n w' o):
  WR (κ.addU H.n g0 (b,C,L)) (H.push o) w'∧Fr κ.own κ (κ.addU H.n g0 (b,C,L)) w w'∧(κ.addU H.n g0 (b,C,L)).μ H.n g0=some (b,C,L):=by
 have hww:=hw.below hB;have hnone: ∀g,κ.μ H.n g=none:=fun g=>by
  cases h:κ.μ H.n g with
  |none=>rfl
  |some y=>have:=hw.dom _ _ _ h;omega
 have hμ: ∀i g y,κ.μ i g=some y→(κ.addU H.n g0 (b,C,L)).μ i g=some y:=by
  intro i g y h;simp only [Kr.addU];rw [if_neg]
  · exact h
  · rintro ⟨rfl,rfl⟩;rw [hnone] at h;simp at h
 have hself:(κ.addU H.n g0 (b,C,L)).μ H.n g0=some (b,C,L):=by simp [Kr.addU]
 have hcase: ∀i g y,(κ.addU H.n g0 (b,C,L)).μ i g=some y→(i=H.n∧g=g0∧y=(b,C,L))∨κ.μ i g=some y:=by
  intro i g y h;simp only [Kr.addU] at h;split at h
  · rename_i hc;simp at h;exact .inl ⟨hc.1,hc.2,h.symm⟩
  · exact .inr h
 refine ⟨⟨hww.frz,hww.mps,hw.mmap,Hp.push_len _ _ hw.len,fun id o' h=> ?_,fun id g y h=> ?_,fun id g b' C' L' h=> ?_,?_⟩,?_,hself⟩
 · rw [Hp.get_push _ hw.len] at h;split at h
   · rename_i e;subst e;simp only [Option.some.injEq] at h;subst h;exact hob
   · rename_i hne;refine (hww.obj _ _ h).carry (fun _ _ _ h=>h) (fun _ _ h=>h) hμ (fun g=> ?_) (fun g b C L hm=>rfl) (fun _ _ _ _ _ _ h=>h) (fun _ _ _ _ _ h=>h);simp only [Kr.addU];rw [if_neg (by rintro ⟨e,_⟩;exact hne e)]
 · simp only [Hp.push];rcases hcase _ _ _ h with ⟨rfl,_,_⟩|h'
   · omega
   · have:=hw.dom _ _ _ h';omega
 · rcases hcase _ _ _ h with ⟨_,_,e⟩|h'
   · simp only [Prod.mk.injEq] at e;omega
   · exact hww.blk _ _ _ _ _ h'
 · intro id g b1 C1 L1 id' g' C2 L2 h1 h2;rcases hcase _ _ _ h1 with ⟨e1,_,y1⟩|h1'
   · rcases hcase _ _ _ h2 with ⟨e2,_,y2⟩|h2'
     · simp only [Prod.mk.injEq] at y1 y2;rw [y1.2.1,y2.2.1];exact ⟨by rw [e1,e2],rfl⟩
     · simp only [Prod.mk.injEq] at y1;have:=hw.blk _ _ _ _ _ h2';omega
   · rcases hcase _ _ _ h2 with ⟨e2,_,y2⟩|h2'
     · simp only [Prod.mk.injEq] at y2;have:=hw.blk _ _ _ _ _ h1';omega
     · exact hw.sep _ _ _ _ _ _ _ _ _ h1' h2'
 · refine ⟨hB.size,fun k hk _=>hB.block k hk,fun _ _ _ h=>h,fun _ _ _ h=> .inl h,fun _ _ h=>h,fun _ _ h=> .inl h,?_,hμ,hB.os,hB.output,hB.tape⟩;rintro k ⟨i,g,C',L',h⟩;rcases hcase _ _ _ h with ⟨_,_,e⟩|h'
   · simp only [Prod.mk.injEq] at e;exact .inr (by omega)
   · exact .inl ⟨_,_,_,_,h'⟩
theorem new_cells_in (hw:WR κ H w) (hB:Below w.heap.size w w') (cs:List Val) (c:Array Value) (e:TypeId) (b:Nat) (hb:w.heap.size≤b) (hblk:w'.heap[b]? =some (.cells c e (0,0))) (hl:cs.length≤c.size)
  (hc: ∀(i:Nat) (v:Val) (x:Value),cs[i]? =some v→c[i]? =some x→VK κ v x) (g0:Nat) (hty: ∀t,tyN g0=t+1→e=t):
  let κ':=κ.addU H.n g0 (b,⟨c.size,0⟩,cs.length)
  WR κ' (H.push (.cells g0 g0 0 cs)) w'∧Fr κ.own κ κ' w w'∧κ'.μ H.n g0=some (b,⟨c.size,0⟩,cs.length):=by
 have hnone: ∀g,κ.μ H.n g=none:=fun g=>by
  cases h:κ.μ H.n g with
  |none=>rfl
  |some y=>have:=hw.dom _ _ _ h;omega
 have hlt:b<w'.heap.size:=(Array.getElem?_eq_some_iff.1 hblk).1;have hF: ∀o,κ.F b o=none:=fun o=>by
  cases h:κ.F b o with
  |none=>rfl
  |some v=>have:=Kr.F_lt hw h;omega
 refine new_at hw hB (.cells g0 g0 0 cs) b hb hlt ⟨c.size,0⟩ cs.length g0 ⟨b,⟨c.size,0⟩,by simp [Kr.addU],hl,Nat.zero_le _,⟨c,e,0,0,hblk,Nat.le_refl _,fun o _=>by omega⟩,fun i v h=>absurd h (Nat.not_lt_zero _),?_,fun o _ _ _=>hF _,?_,Nat.le_refl _,fun t ht=>⟨c,(0,0),by rw [hblk,hty t ht]⟩⟩
 · intro g b' C' L' _ h;have:g=g0∧(b',C',L')=(b,⟨c.size,0⟩,cs.length):=by
    simp only [Kr.addU] at h;split at h
    · rename_i hc;simp at h;exact ⟨hc.2,by simp [h]⟩
    · rw [hnone] at h;simp at h
   obtain ⟨_,e2⟩:=this;simp only [Prod.mk.injEq] at e2;obtain ⟨rfl,rfl,rfl⟩:=e2;refine ⟨Nat.le_refl _,fun i v _ hi hv=> ?_⟩;have hic:i<c.size:=Nat.lt_of_lt_of_le hi hl;refine ⟨c[i],by unfold cellAt;rw [Nat.sub_zero,hblk];simp [hic],?_⟩;refine VR.mono (hc i v c[i] hv (by simp [hic])) (fun _ _ _ h=>h) (fun _ _ h=>h) fun i' g' y h'=> ?_;simp only [Kr.addU];rw [if_neg]
   · exact h'
   · rintro ⟨rfl,rfl⟩;rw [hnone] at h';simp at h'
 · intro g hg;simp only [Kr.addU];rw [if_neg (by rintro ⟨_,e⟩;omega)];exact hnone g
end
open Go Go.Proofs Go.RowKit Go.Maps Go.Sort Go.Shelf
set_option maxRecDepth 100000
theorem unpack_length: ∀(n num:Nat),(unpack n num).length=n
 |0,_=>rfl
 |n+1,num=>by simp [unpack,unpack_length n]
section
variable {κ:Kr} {H:Hp} {w:World}
theorem load1_ok (hw:WR κ H w) {p x:Val} {y:Value} (hp:VK κ p y) (h:loadC 1 false (rowAtP [] H p)=some x): ∃b o z,y= .pointer (some ⟨b,o,none⟩)∧cellAt w b o=some z∧VK κ x z:=by
 cases p with
 | fptr cs off=>
   rw [rowAtP_fptr,loadC_one] at h;split at h
   case isFalse=>cases h
   unfold VK at hp
   cases hp with
   | fptr _ _ b o X h1 h2=>
     rename_i hle;exact ⟨b,_,X off,rfl,hw.frz _ _ _ (h1 _ (by omega)),(h2 _ _ h).of_mu0⟩
 | ptr id gen off lim=>
   rw [rowAtP_ptr] at h;unfold rowH at h;split at h
   case h_2=>cases h
   rename_i g dirty ro cs ho;split at h
   case isFalse=>cases h
   rename_i hd;rw [loadC_one] at h;split at h
   case isFalse=>cases h
   rename_i hle;unfold VK at hp
   cases hp with
   | ptr _ _ _ _ b C L h1 h2 hs=>
     obtain ⟨B,C0,hc⟩:=hw.obj _ _ ho;obtain ⟨h3,h4⟩:=hc.cont _ _ _ _ hd h1;obtain ⟨z,hz1,hz2⟩:=h4 _ x hs (by omega) h;exact ⟨b,_,z,rfl,hz1,hz2⟩
 |lp slot st off=>unfold VK at hp;cases hp
 |_=>simp [rowAtP,loadC] at h
theorem ints_ok (hw:WR κ H w) {v:Val} {x:Value} {a:List Val} {n:Nat} {zs:List Int} (hv:VK κ v x) (h:elemsOf 1 H v=some (a,n)) (hi:intsOf a=some zs) (hn:0<n):
  zs.length=n∧ ∃b o cap,x= .slice (some ⟨b,o,none⟩) n cap∧b<w.heap.size∧ ∀j,j<n→w.cell? ⟨b,o+j,none⟩=some (.int .i64 (zs[j]?.getD 0)):=by
 have ha:=intsOf_some hi;have fin: ∀(b o:Nat),a.length=n→(∀j u,a[j]? =some u→ ∃y,cellAt w b (o+j)=some y∧VK κ u y)→zs.length=n∧b<w.heap.size∧ ∀j,j<n→w.cell? ⟨b,o+j,none⟩=some (.int .i64 (zs[j]?.getD 0)):=fun b o hl hc=>by
  have hzl:zs.length=n:=by rw [←hl,ha,List.length_map]
  have hcell: ∀j,j<n→w.cell? ⟨b,o+j,none⟩=some (.int .i64 (zs[j]?.getD 0)):=fun j hj=>by
   have hjz:j<zs.length:=by omega
   obtain ⟨y,hy1,hy2⟩:=hc j (.int .i64 zs[j]) (by rw [ha,List.getElem?_map,List.getElem?_eq_getElem hjz];rfl);unfold VK at hy2;cases hy2;rw [cell?_eq,hy1,List.getElem?_eq_getElem hjz];rfl
  refine ⟨hzl,?_,hcell⟩;have:=hcell 0 hn;rw [cell?_eq] at this;unfold cellAt at this
  cases hb:w.heap[b]? with
  |none=>rw [hb] at this;cases this
  |some ob=>exact (Array.getElem?_eq_some_iff.1 hb).1
 cases v with
 |nilsl=>simp only [elemsOf,Option.some.injEq,Prod.mk.injEq] at h;omega
 | sl rows c=>
   simp only [elemsOf] at h;split at h
   case isFalse=>cases h
   rename_i hall;simp only [Option.some.injEq,Prod.mk.injEq] at h;obtain ⟨rfl,rfl⟩:=h;unfold VK at hv
   cases hv with
   | sl _ _ ad cap k b o X h1 h2 h3 h4 h5 h6 h7=>
     have hne:rows≠ []:=by intro e;rw [e] at hn;simp at hn
     have hrow: ∀r∈rows,∃u,r= [u]:=fun r hr=>by have:=List.all_eq_true.1 hall r hr;simp only [beq_iff_eq] at this;exact List.length_eq_one_iff.1 this
     have hk:k=1:=by obtain ⟨r,rs,rfl⟩:=List.exists_cons_of_ne_nil hne;obtain ⟨u,rfl⟩:=hrow r (by simp);exact (h5 0 _ rfl).symm
     subst hk;have hflat: ∀(rows:List (List Val)),(∀r∈rows,∃u,r= [u])→rows.flatten.length=rows.length∧ ∀(j:Nat) (u:Val),rows.flatten[j]? =some u→rows[j]? =some [u]:=by
      intro rows
      induction rows with
      |nil=>intro _;exact ⟨rfl,fun j u h=>by cases h⟩
      | cons r rs ih=>
        intro hr;obtain ⟨u,rfl⟩:=hr r (by simp);obtain ⟨e1,e2⟩:=ih fun r' h'=>hr r' (by simp [h']);refine ⟨by simp [e1],fun j u' h'=> ?_⟩
        cases j with
        |zero=>simpa using h'
        |succ j=>exact e2 j u' (by simpa using h')
     obtain ⟨f1,f2⟩:=hflat rows hrow;have e:=h4 hne;subst e;obtain ⟨g1,g2,g3⟩:=fin b o f1 fun j u hu=>by have hr:=f2 j u hu;have hj:j<rows.length:=(List.getElem?_eq_some_iff.1 hr).1;have hF:=h6 j 0 hj (by omega);have hX:=h7 j 0 _ _ hr rfl;exact ⟨X j 0,by rw [show o+j=o+(j*1+0) by omega];exact hw.frz _ _ _ hF,hX.of_mu0⟩
     exact ⟨g1,b,o,cap,rfl,g2,g3⟩
 | ref id gen off k' len c=>
   simp only [elemsOf] at h;split at h
   case h_2=>cases h
   rename_i g dirty ro cs ho;split at h
   case isFalse=>cases h
   rename_i hd;obtain ⟨hd,rfl⟩:=hd;split at h
   case h_2=>cases h
   rename_i a' hsub;simp only [Option.some.injEq,Prod.mk.injEq] at h;obtain ⟨rfl,rfl⟩:=h;obtain ⟨al,hle,hget⟩:=sub_got hsub;unfold VK at hv
   cases hv with
   | ref _ _ _ _ _ _ b C L cap h1 h2 h3 h4 h5 h6 h7=>
     obtain ⟨B,C0,hc⟩:=hw.obj _ _ ho;obtain ⟨h8,h9⟩:=hc.cont _ _ _ _ hd h1;obtain ⟨g1,g2,g3⟩:=fin b (off-C.s) (by omega) fun j u hu=>by have hj:j<a'.length:=(List.getElem?_eq_some_iff.1 hu).1;obtain ⟨y,hy1,hy2⟩:=h9 (off+j) u (by omega) (by omega) (by rw [hget j (by omega)];exact hu);exact ⟨y,by rw [←hy1];congr 1;omega,hy2⟩
     exact ⟨g1,b,_,cap,rfl,g2,g3⟩
 | str len num=>
   simp only [elemsOf] at h;rw [if_pos trivial] at h;simp only [Option.some.injEq,Prod.mk.injEq] at h;obtain ⟨rfl,rfl⟩:=h
   cases hu:unpack len num with
   | nil=>
     exfalso;have:(unpack len num).length=len:=unpack_length len num;rw [hu] at this;simp at this;omega
   |cons b bs=>rw [hu] at hi;simp [intsOf] at hi
 |_=>simp [elemsOf] at h
end
theorem enters235 (args:Array Value) (w:World):(callFunc 235 args).run Tryz.prog w= .ok (.enter 235 args) w:=enters_of Tryz.func235 (by kernel_rfl) rfl args w
theorem enters156 (args:Array Value) (w:World):(callFunc 156 args).run Tryz.prog w= .ok (.enter 156 args) w:=enters_of Tryz.func156 (by kernel_rfl) rfl args w
theorem seq235 (Bs po b off cap:Nat) (zs:List Int) (w:World) (hB:Bs<w.heap.size) (hb:b<w.heap.size) (hN:zs.length≤17592186043904) (hBs:w.cell? ⟨Bs,po,none⟩=some (.slice (some ⟨b,off,none⟩) zs.length cap))
  (hc: ∀j,j<zs.length→w.cell? ⟨b,off+j,none⟩=some (.int .i64 (zs[j]?.getD 0))):
  Calls Tryz.prog 235 #[.slice none 0 0,.func (.func 156) #[] #[.pointer (some ⟨Bs,po,none⟩)]] w fun e w'=> ∃v,e= .returned v∧w'.ownsRow w.heap.size 3 1 v zs.length (zs.map encZ)∧Below w.heap.size w w':=by
 have h:=collect_own (P:=Tryz.prog) (ρ:=Tryz.laysAS_ren) Tryz.laysAS Fence.wide 3 trivial rfl (by omega) 156 #[.pointer (some ⟨Bs,po,none⟩)] trivial enters156 (fun ys=>ys=zs) 17592186043904 (by unfold maxLen;omega) (by omega) w ?_
 · exact (callsIn_wide.1 h).mono fun e w' ⟨v,ss,h1,h2,h3,_,h5⟩=>by subst h2;exact ⟨v,h1,h3,h5⟩
 · intro l J W hW hA hJb hY h0;have:=vals156 Fence.wide (3-1) trivial rfl (by omega) l Bs po b off zs.length cap zs (by omega) J (fun pre W1 hJ j hj=>((hJb pre W1 hJ).cell (p:=⟨b,off+j,none⟩) hb).trans (hc j hj))
    (fun pre x W1 hJ hl=>by obtain ⟨fn,tmps,assign,body,hy,hR⟩:=hY pre x W1 hJ (by omega);exact ⟨fn,tmps,assign,body,hy,hR.mono fun e W' h=>⟨h.1,h.2.1⟩⟩) W ((hW.cell (p:=⟨Bs,po,none⟩) hB).trans hBs) h0
   exact this.mono fun e W' h=>⟨h.1,zs,rfl,by rw [←uptoZ_all zs];exact h.2⟩
theorem tyN_genOf3: ∀t,tyN (genOf 3)=t+1→(3:Nat)=t:=fun t h=>by rw [tyN_genOf] at h;omega
theorem pSeq_call (E:Env) (args:List Val) (H:Hp):CallOK E Tryz.prog 235 args H (pSeq 156 3 args H):=by
 intro hne κ w xs hw hg hl ha;unfold pSeq at hne⊢;split at hne
 case h_2=>exact absurd rfl hne
 rename_i f p;obtain ⟨x,y,rfl,hx,hy⟩:=arg2 hl ha;split at hne
 case h_2=>exact absurd rfl hne
 rename_i hf;obtain rfl:=Nat.eq_of_beq_eq_true hf;split at hne
 case h_2=>exact absurd rfl hne
 rename_i x1 hload;split at hne
 case h_2=>exact absurd rfl hne
 rename_i a n hel;split at hne
 case h_1=>exact absurd rfl hne
 rename_i m;split at hne
 case h_2=>exact absurd rfl hne
 rename_i hcond;simp only [Bool.and_eq_true] at hcond;obtain ⟨zs,hzs⟩:=Option.isSome_iff_exists.1 hcond.1;have hm:=Nat.le_of_ble_eq_true hcond.2;unfold VK at hx;cases hx;obtain ⟨py,rfl,hpy⟩: ∃py,y= .func (.func 156) #[] #[py]∧VK κ p py:=by
  unfold VK at hy
  cases hy with
  | fn _ _ _ xs ys h1 h2 h3 h4=>
    obtain ⟨q⟩:=xs;obtain ⟨r⟩:=ys
    match q,r,h1,h2 with
    | [],[z],_,_=>exact ⟨z,rfl,h4 0 _ _ rfl rfl⟩
 obtain ⟨Bs,po,z,rfl,hz1,hz2⟩:=load1_ok hw hpy hload;obtain ⟨hlen,b,off,cap,rfl,hb,hcells⟩:=ints_ok hw hz2 hel hzs (Nat.succ_pos _);have hB:Bs<w.heap.size:=by
  unfold cellAt at hz1
  cases hh:w.heap[Bs]? with
  |none=>rw [hh] at hz1;cases hz1
  |some ob=>exact (Array.getElem?_eq_some_iff.1 hh).1
 rw [←hlen] at hcells hz1;refine .inl ⟨235,_,enters235 _ _,(seq235 Bs po b off cap zs w hB hb (by omega) (by rw [cell?_eq];exact hz1) hcells).mono ?_⟩;rintro e w' ⟨v,rfl,⟨-,hrow⟩,hbel⟩;rcases hrow with ⟨-,h0⟩|⟨gb,cap',cur,rfl,hge,hblk,hle,-,hsz,htake⟩
 · omega
 simp only [fN_eq,fV_eq,fL_eq,fH_eq];have hal:=intsOf_some hzs;have hcl:a.length≤cur.size:=by rw [hal,List.length_map];omega
 obtain ⟨h1,h2,h3⟩:=new_cells_in hw hbel a cur 3 gb hge hblk hcl (fun i v x hv hx=>by
  rw [hal,List.getElem?_map] at hv
  cases hzi:zs[i]? with
  |none=>rw [hzi] at hv;cases hv
  | some zi=>
    rw [hzi] at hv;cases hv;have hi:i<zs.length:=(List.getElem?_eq_some_iff.1 hzi).1;have e1:(cur.toList.take (zs.length*1))[i]? =(zs.map encZ)[i]? :=by rw [htake]
    rw [List.getElem?_take,if_pos (by omega),List.getElem?_map,hzi] at e1;have e2:cur.toList[i]? =cur[i]? :=by simp
    rw [e2,hx] at e1;cases e1;exact .int _ _) (genOf 3) tyN_genOf3
 have e:a.length=m+1:=by rw [hal,List.length_map,hlen]
 rw [hlen];refine ⟨_,_,_,rfl,h1,h2,?_⟩;have:=VR.ref (F:=(κ.addU H.n (genOf 3) (gb,⟨cur.size,0⟩,a.length)).F) (M:=(κ.addU H.n (genOf 3) (gb,⟨cur.size,0⟩,a.length)).M) H.n (genOf 3) 0 1 (m+1) false gb ⟨cur.size,0⟩ a.length cap' h3 (by omega) (by omega) (fun h=>by cases h) (fun _=>by simp;omega) (by omega) (Nat.zero_le _);unfold VK;simpa using this
open Go Go.Proofs.Tryz
set_option maxRecDepth 100000
theorem row1 (P:Program) (fits:TypeId→Bool) (D k e count:Nat) (hD:D=k+1) (h1:fits e=true) (h2:1≤count) (h3:P.cellsOf e≠0):rowAt P fits D e count 0 1=true:=by subst hD;unfold rowAt;simp [h1,h2,h3]
theorem row2 (P:Program) (fits:TypeId→Bool) (D k e count:Nat) (hD:D=k+1) (h2:1≤count) (h3:P.cellsOf e≠0)
  (h1:(match P.underlying e with
   |some (.struct fs)=> !P.stoodInHeld e&&fs.any fun f=>f.offset≤0&&0<f.offset+P.cellsOf f.type&&rowAt P fits k f.type 1 (0-f.offset) 1
   |some (.array m e')=>rowAt P fits k e' m 0 1
   |_=>false)=true):rowAt P fits D e count 0 1=true:=by
 subst hD;unfold rowAt;have h4:0<count:=by omega
 simp only [h3,if_false,Nat.zero_div,Nat.zero_mod,h4,decide_true,Bool.true_and];rw [Bool.or_eq_true];exact .inr h1
theorem lie1 (P:Program) (D k e count u:Nat) (hD:D=k+1) (j:Nat) (hP:P.depth=j+1) (h1:sameLayout P P.depth e u=true) (h2:1≤count) (h3:P.cellsOf e≠0):liesAt P D e count 0 u 1=true:=by subst hD;unfold liesAt;rw [Bool.or_eq_true];exact .inl (row1 P _ P.depth j e count hP h1 h2 h3)
theorem depthP':prog.depth=(prog.depth-1)+1:=by kernel_rfl
theorem same222:sameLayout prog prog.depth 222 222=true:=by kernel_rfl
theorem cells222:(prog.cellsOf 222 !=0)=true:=by kernel_rfl
theorem cells316:(prog.cellsOf 316 !=0)=true:=by kernel_rfl
theorem in316:(match prog.underlying 316 with
 |some (.struct fs)=> !prog.stoodInHeld 316&&fs.any fun f=>f.offset≤0&&0<f.offset+prog.cellsOf f.type&&rowAt prog (sameLayout prog prog.depth · 222) (prog.depth-1) f.type 1 (0-f.offset) 1
 |some (.array m e')=>rowAt prog (sameLayout prog prog.depth · 222) (prog.depth-1) e' m 0 1
 |_=>false)=true:=by kernel_rfl
theorem liesOK: ∀e u,E0.lies e u=true→ ∀count,1≤count→liesAt prog prog.depth e count 0 u 1=true:=by
 intro e u h count hc;have h:liesF e u=true:=h;unfold liesF at h;simp only [Bool.or_eq_true,Bool.and_eq_true] at h;rcases h with ⟨h1,h2⟩|⟨h1,h2⟩
 · rw [Nat.eq_of_beq_eq_true h1,Nat.eq_of_beq_eq_true h2];exact lie1 prog prog.depth _ 222 count 222 depthP' _ depthP' same222 hc (by have:=cells222;simpa using this)
 · rw [Nat.eq_of_beq_eq_true h1,Nat.eq_of_beq_eq_true h2];have hl: ∀D k,D=k+1→liesAt prog D 316 count 0 222 1=true:=fun D k hD=>by subst hD;unfold liesAt;rw [Bool.or_eq_true];exact .inl (row2 prog _ prog.depth (prog.depth-1) 316 count depthP' hc (by have:=cells316;simpa using this) in316)
   exact hl _ _ depthP'
end Go.PV
