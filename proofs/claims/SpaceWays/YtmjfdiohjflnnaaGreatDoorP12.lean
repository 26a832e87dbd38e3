/- A part of the proof: KB5, KB6, KB7. -/
import Derived.Deep.DeepHandedRow
import Derived.Deep.DeepLaidRun
import Derived.Deep.DeepWitnessRowRef
import Derived.LaidLaws
import Derived.Test.YtmjfdiohjflnnaaGreatDoorP11
set_option linter.all false
namespace Go.PV
open Go Go.Proofs Go.Proofs.Tryz Go.ChangeShapes Go.WideShapes Go.ChangeAt Go.RowKit
open Go.Proofs.YtmjfdiohjflnnaaGreatDoor (Rows.spaceWaysRow Rows.spaceWaysSpec)
set_option maxRecDepth 100000
def whiteZ:List Int:= [9,13,1,32,133,101,160,5760,5600,8192,8202,1,8232,8233,1,8239,8287,48,12288,12288,1]
noncomputable def laidWorld (os:Os):World:=
  let N:=(World.settled prog os).heap.size
  let w0:=World.holding prog os ⟨#[Go.Obj.cells (whiteZ.map fun z=>Value.int .u16 z).toArray 505,Go.Obj.cells #[.slice (some ⟨N,0,none⟩) 7 7,.slice none 0 0,.int .i64 2] 502], #[],[]⟩
  let put (h:Array Go.Obj) (g:Nat) (cs:Array Value):Array Go.Obj:=h.modify g fun
    |Go.Obj.cells _ t frozen=>Go.Obj.cells cs t frozen
    |o=>o
  {w0 with heap:=put (put (put (put (put w0.heap 1 (zs1.map (Value.int .u8)).toArray) 2 (zs2.map (Value.int .u64)).toArray) 3 #[.pointer (some ⟨N+1,0,none⟩)]) 4 (zs4.map (Value.int .u8)).toArray) 5 (zs5.map (Value.int .u8)).toArray}
theorem laid_met (os:Os) (args:Array Value):laidMet prog Rows.spaceWaysRow.laid ((laidWorld os).forCall (fun _ _=>0) ⟨#[],args,[]⟩).memory:=
  laidMet_of_run3 10 (by kernel_rfl) (by kernel_rfl) (by kernel_rfl)
end Go.PV
namespace Go.PV
open Go Go.Proofs Go.Proofs.Tryz Go.ChangeShapes Go.WideShapes Go.ChangeAt Go.RowKit
open Go.Proofs.YtmjfdiohjflnnaaGreatDoor (Rows.spaceWaysRow Rows.spaceWaysSpec)
set_option maxRecDepth 100000
theorem wE3 {H:Type} (P:Program) (t0 t1 t2:TypeId) (d0 d1 d2:DataW H) (h:(DataW.weightsEach P [t0,t1,t2] [d0,d1,d2]).all (· ≤reachBytes)=true):
    (d0.weights P t0).all (· ≤reachBytes)=true∧(d1.weights P t1).all (· ≤reachBytes)=true∧(d2.weights P t2).all (· ≤reachBytes)=true:=by
  simp only [DataW.weightsEach,List.all_append,Bool.and_eq_true] at h
  exact ⟨h.1,h.2.1,h.2.2.1⟩
theorem u25: ∃fs,prog.underlying 25=some (.struct fs):=by
  have h:=s25
  unfold stTypes at h
  split at h
  · next fs e=>exact ⟨fs,e⟩
  · cases h
theorem sz25:decide (25<prog.types.size)=true:=by kernel_rfl
theorem sz45:decide (45<prog.types.size)=true:=by kernel_rfl
theorem agg_of {W:World} {base:Nat} {t:TypeId} {v:Value} (h:Value.okWide prog W .any base t v) (ht:(∃fs,prog.underlying t=some (.struct fs))∨ ∃n e,prog.underlying t=some (.array n e)): ∃cs,v= .agg cs∧cs.size=prog.cellsOf t:=by
  unfold Value.okWide at h
  rcases ht with ⟨fs,e⟩|⟨n,e',e⟩
  all_goals
    rw [e] at h
    obtain ⟨cs,h1,h2,-⟩:=h
    exact ⟨cs,h1,h2⟩
theorem cells_of {W:World} {base:Nat} {v:Value} (h:Value.okWide prog W .any base 46 v):v.cells= #[v]:=by
  unfold Value.okWide Cell.okWide Cell.ok at h
  rw [u46] at h
  cases v<;>first|rfl|exact h.elim
theorem contract (hrun: ∀(W:World),laidMetH prog Rows.spaceWaysRow.laid W→ ∀(c0 c1:Array Value) (x2:Value),Tok2 prog W (κ0 W).M 25 c0.toList→Tok2 prog W (κ0 W).M 45 c1.toList→Tok2 prog W (κ0 W).M 46 [x2]→
      Calls prog 4 #[.agg c0,.agg c1,x2] W fun e W'=>e= .returned (.bool true)∧ ∃κ',Fr (κ0 W).own (κ0 W) κ' W W')
    (H:Type) (enc:TypeId×Value→H) (W:World) (base:Nat) (args:Array Value) (ds gs:List (DataW H)) (before:List MemPlace)
    (hval: ∀(j:Nat) t v,f4.params[j]? =some t→args[j]? =some v→Value.okWide prog W .any base t v)
    (hW:DataW.Whole enc prog f4.params.toList Rows.spaceWaysSpec.vars false W args.toList ds gs before) (hS:(DataW.weightsEach prog (f4.params.toList++(OpenSpec.ofChange Rows.spaceWaysSpec).bare.plain.varTypes prog) (ds++gs)).all (· ≤reachBytes)=true)
    (hL:laidMetH prog Rows.spaceWaysRow.laid W):
    Calls prog 4 args W fun e W'=> ∃v,e= .returned v∧Rows.spaceWaysSpec.post enc prog f4 false true false false W args v W':=by
  have hW':=hW
  obtain ⟨p,q,hA0,hV,rfl,hfz,hnd⟩:=hW
  have hA:DataW.TrodAll enc prog W 0 (fun _=>true) true f4.params.toList args.toList ds p:=hA0
  rw [par4] at hA hval hS
  obtain ⟨v0,vs0,d0,ds0,p0,q0,hargs,rfl,rfl,h0,r0⟩:=trodAll_cons hA
  obtain ⟨v1,vs1,d1,ds1,p1,q1,rfl,rfl,rfl,h1,r1⟩:=trodAll_cons r0
  obtain ⟨v2,vs2,d2,ds2,p2,q2,rfl,rfl,rfl,h2,r2⟩:=trodAll_cons r1
  obtain ⟨rfl,rfl,rfl⟩:=trodAll_nil r2
  obtain rfl:args= #[v0,v1,v2]:=by cases args;simp_all
  obtain ⟨rfl,rfl⟩:=trodVars_none hV
  have hS2:=wE3 prog 25 45 46 d0 d1 d2 hS
  obtain ⟨cs0,rfl,-⟩:=agg_of (hval 0 25 v0 rfl rfl) (.inl u25)
  obtain ⟨cs1,rfl,-⟩:=agg_of (hval 1 45 v1 rfl rfl) (.inr ⟨_,_,u45⟩)
  have hv2:v2.cells= #[v2]:=cells_of (hval 2 46 v2 rfl rfl)
  have k0:Tok2 prog W (κ0 W).M 25 cs0.toList:=by
    obtain ⟨n,hn⟩:=h0
    exact read_ok enc prog W (κ0 W).M _ _ n _ _ ⟨d0,p0,hn,hS2.1⟩
  have k1:Tok2 prog W (κ0 W).M 45 cs1.toList:=by
    obtain ⟨n,hn⟩:=h1
    exact read_ok enc prog W (κ0 W).M _ _ n _ _ ⟨d1,p1,hn,hS2.2.1⟩
  have k2:Tok2 prog W (κ0 W).M 46 [v2]:=by
    obtain ⟨n,hn⟩:=h2
    rw [hv2] at hn
    exact read_ok enc prog W (κ0 W).M _ _ n _ _ ⟨d2,p2,hn,hS2.2.2⟩
  have hlt:=hW'.lt
  refine (hrun W hL cs0 cs1 v2 k0 k1 k2).mono fun e W' ⟨he,κ',hfr⟩=> ?_
  subst he
  have hsame: ∀p∈p0++(p1++(p2++ []))++ [],W.sameAt W' p:=fun p hp=>sameAt_of hfr p (hlt p hp)
  refine ⟨_,rfl,post_same_old (pa:=p0++(p1++(p2++ []))) (pv:= []) hW' (fun _ _ _=>trodAll_cons_mk (shut_bool u4 _) trodAll_mk0) (fun sp hsp=> ?_) (fun _ _=>rfl) rfl
    (keptBut_of hfr _) (fun a ha=>frozen_of hfr a ha) (ok_one (by kernel_rfl) rfl (okWide_bool_mk u4 _))⟩
  refine trodAll_cons_mk (WideElems.Trod_stays laidOut read25 (of_decide_eq_true sz25) h0 (fun p hp=>hsame p (by simp [hp])) (fun p hp=>hsp p (by simp [hp])))
    (trodAll_cons_mk (WideElems.Trod_stays laidOut read45 (of_decide_eq_true sz45) h1 (fun p hp=>hsame p (by simp [hp])) (fun p hp=>hsp p (by simp [hp])))
    (trodAll_cons_mk (WideElems.Trod_stays laidOut read46 (of_decide_eq_true sz46) h2 (fun p hp=>hsame p (by simp [hp])) (fun p hp=>hsp p (by simp [hp]))) trodAll_mk0))
end Go.PV
namespace Go.PV
open Go Go.Proofs Go.Proofs.Tryz Go.ChangeShapes Go.WideShapes Go.ChangeAt Go.RowKit
open Go.Proofs.YtmjfdiohjflnnaaGreatDoor (Rows.spaceWaysRow Rows.spaceWaysSpec Rows.SpaceWaysSaid)
set_option maxRecDepth 100000
def wargs:Array Value:= #[.agg #[.slice none 0 0,.slice none 0 0],.agg #[.int .i64 0,.int .i64 0],.slice none 0 0]
theorem witness_row (os:Os) {H:Type} (enc:TypeId×Value→H):
    (OpenSpec.ofChange Rows.spaceWaysSpec).preRow enc prog f4 Rows.spaceWaysRow.domain false Rows.spaceWaysRow.laid ((laidWorld os).forCall (fun _ _=>0) ⟨#[],wargs,[]⟩).memory wargs:=by
  have hw:(DataW.whole enc prog ((laidWorld os).forCall (fun _ _=>0) ⟨#[],wargs,[]⟩).memory f4.params.toList Rows.spaceWaysSpec.vars false wargs.toList 8).map (fun x=>(x.1,x.2.1))=
      some ([.agg [.nil,.nil],.agg [.lit (.int .i64 0),.lit (.int .i64 0)],.nil],[]):=by kernel_rfl
  obtain ⟨⟨x1,x2,x3⟩,hx,hx1⟩:=Option.map_eq_some_iff.1 hw
  simp only [Prod.mk.injEq] at hx1
  obtain ⟨rfl,rfl⟩:=hx1
  exact OpenSpec.preRow_of_cond 8 hx (by kernel_rfl) (fun k hk=>by cases hk) (by kernel_rfl) (laid_met os _)
theorem variablesRef (os:Os):((laidWorld os).forCall (fun _ _=>0) ⟨#[],wargs,[]⟩).variablesRefB prog=true:=by kernel_rfl
theorem heapRest (os:Os):(((laidWorld os).forCall (fun _ _=>0) ⟨#[],wargs,[]⟩).heap.toList.drop prog.globals.size).take ((begin prog (fun _ _=>0) default).world.heap.size-prog.globals.size)=
      (begin prog (fun _ _=>0) default).world.heap.toList.drop prog.globals.size:=by kernel_rfl
theorem inputOk (os:Os):Input.okWideB prog ((laidWorld os).forCall (fun _ _=>0) ⟨#[],wargs,[]⟩) 4 ⟨#[],wargs,[]⟩=true:=by kernel_rfl
end Go.PV
