/- A part of the proof. -/
import Derived.KernelRfl
import Derived.Attr
set_option linter.all false
namespace Go.aj
theorem ab {p:Prop} (a:p:=by omega):p:=a
theorem dm {p:Prop} (a:p:=by simp -implicitDefEqProofs only [go_sem,hF]):p:=a
theorem ay {p:Prop} (a:p:=by simp only [go_sem,hF]):p:=a
theorem al {p:Prop} (a:p:=by decide):p:=a
theorem aq {p:Prop} (a:p:=by kernel_rfl):p:=a
theorem ai {p:Prop} (a:p:=by simp):p:=a
theorem da {p:Prop} (a:p:=by simp;omega):p:=a
theorem w0 {p:Prop} (a:p:=by simp -implicitDefEqProofs only [go_sem]):p:=a
theorem dC {p:Prop} (a:p:=by simp only [go_sem]):p:=a
theorem og {p:Prop} (a:p:=by simp only [List.length_cons,List.length_nil];omega):p:=a
theorem uF {p:Prop} (a:p:=by rw [List.length_append];omega):p:=a
theorem ah {p:Prop} (a:p:=by grind):p:=a
theorem de {p:Prop} (a:p:=by simp_all):p:=a
theorem aY {p:Prop} (a:p:=by rw [<-hT];clear hT;simp only [go_sem, *]):p:=a
def CK:= @Array.getD_eq_getD_getElem?
def yE:= @Array.getElem?_append
def qg:= @Array.getElem?_eq_some_iff
def yF:= @Array.getElem?_map
def vK:= @Array.getElem?_modify
def vL:= @Array.getElem?_push
def CL:= @Array.getElem?_replicate
def CM:= @Array.getElem?_setIfInBounds
def CN:= @Array.getElem?_toList
def vM:= @Array.length_toList
def yG:= @Array.size_append
def anz:= @Bool.and_assoc
def br:= @Bool.and_eq_true
def tu:= @Bool.and_self
def nR:= @Bool.and_true
def anA:= @Bool.beq_comm
def aon:= @Bool.eq_false_iff
def jU:= @Bool.eq_iff_iff
def yH:= @Bool.false_and
def eJ:= @Bool.false_eq_true
def anB:= @Bool.false_or
def oV:= @Bool.not_eq_true'
def alI:= @Bool.not_true
def mL:= @Bool.or_eq_true
def aiF:= @Bool.true_and
def yI:= @Bool.true_or
def anC:= @List.Pairwise.imp_of_mem
def CO:= @List.Perm.append_right
def rE:= @List.all_append
def aO:= @List.all_cons
def aiG:= @List.all_eq_false
def ba:= @List.all_eq_true
def jm:= @List.all_nil
def CP:= @List.any_eq_false
def kB:= @List.any_eq_true
def fu:= @List.append_assoc
def fw:= @List.append_nil
def jn:= @List.cons.injEq
def bl:= @List.cons_append
def qh:= @List.drop_append_of_le_length
def qi:= @List.drop_drop
def CQ:= @List.drop_eq_getElem_cons
def CR:= @List.drop_eq_nil_of_le
def vN:= @List.drop_left
def tv:= @List.drop_of_length_le
def rF:= @List.drop_zero
def CS:= @List.eq_nil_of_length_eq_zero
def CT:= @List.ext_getElem?
def tw:= @List.filterMap_cons
def CU:= @List.filter_congr
def tx:= @List.filter_cons
def yK:= @List.find?_cons
def aoo:= @List.find?_eq_none
def anD:= @List.flatMap_append
def yL:= @List.flatMap_cons
def vO:= @List.flatMap_def
def anE:= @List.flatMap_eq_nil_iff
def aop:= @List.flatten_append
def iJ:= @List.flatten_cons
def CW:= @List.flatten_nil
def anc:= @List.foldl_append
def amL:= @List.foldl_cons
def yM:= @List.foldr_cons
def kC:= @List.getElem?_append
def yN:= @List.getElem?_append_left
def vP:= @List.getElem?_append_right
def tA:= @List.getElem?_cons_succ
def mM:= @List.getElem?_cons_zero
def lj:= @List.getElem?_eq_getElem
def vQ:= @List.getElem?_eq_none
def e6:= @List.getElem?_eq_some_iff
def hO:= @List.getElem?_map
def yO:= @List.getElem?_mapIdx
def jo:= @List.getElem?_of_mem
def yP:= @List.getElem?_replicate
def CX:= @List.getElem?_take
def ahO:= @List.getElem?_zip_eq_some
def bD:= @List.length_append
def cl:= @List.length_cons
def oW:= @List.length_drop
def amV:= @List.length_eq_zero_iff
def C0:= @List.length_eraseIdx_le
def anF:= @List.length_flatMap
def di:= @List.length_map
def h5:= @List.length_nil
def nS:= @List.length_range
def aiY:= @List.length_set
def yQ:= @List.length_singleton
def h6:= @List.length_take
def vR:= @List.map_append
def vS:= @List.map_congr_left
def fS:= @List.map_cons
def anG:= @List.map_flatten
def tB:= @List.map_map
def rG:= @List.map_nil
def al2:= @List.map_singleton
def cr:= @List.mem_append
def hP:= @List.mem_append_left
def h7:= @List.mem_append_right
def b2:= @List.mem_cons
def h8:= @List.mem_cons_of_mem
def dF:= @List.mem_cons_self
def fC:= @List.mem_flatMap
def kD:= @List.mem_flatten
def cd:= @List.mem_map
def anH:= @List.mem_mapIdx
def aV:= @List.mem_of_getElem?
def tC:= @List.mem_of_mem_eraseIdx
def hQ:= @List.mem_of_mem_take
def C4:= @List.mem_or_eq_of_mem_set
def h9:= @List.mem_range
def bs:= @List.mem_singleton
def a6:= @List.nil_append
def anI:= @List.nodup_append
def dG:= @List.not_mem_nil
def rH:= @List.pairwise_append
def hq:= @List.pairwise_cons
def aoq:= @List.pairwise_flatMap
def ane:= @List.pairwise_map
def aor:= @List.range_succ
def rI:= @List.replicate_succ
def kE:= @List.sum_cons
def fg:= @List.take_add_one
def yT:= @List.take_append_drop
def vT:= @List.take_append_of_le_length
def C7:= @List.take_left'
def bX:= @List.take_length
def fT:= @List.take_of_length_le
def aos:= @List.take_sublist
def C8:= @List.take_succ_cons
def rJ:= @Nat.add_assoc
def iK:= @Nat.add_mul
def aot:= @Nat.add_mul_mod_self_left
def tD:= @Nat.add_sub_cancel
def C9:= @Nat.add_sub_cancel_left
def lU:= @Nat.beq_eq
def h_:= @Nat.ble_eq_true_of_le
def yU:= @Nat.div_add_mod
def aou:= @Nat.div_div_eq_div_mul
def aiJ:= @Nat.div_eq_of_lt
def yV:= @Nat.div_lt_iff_lt_mul
def gk:= @Nat.eq_of_beq_eq_true
def C_:= @Nat.le_add_left
def er:= @Nat.le_of_ble_eq_true
def aT:= @Nat.le_refl
def mN:= @Nat.le_succ
def eT:= @Nat.le_trans
def yX:= @Nat.lt_of_lt_of_le
def qk:= @Nat.lt_or_ge
def aov:= @Nat.lt_succ_iff_lt_or_eq
def vV:= @Nat.lt_trichotomy
def tE:= @Nat.mod_eq_of_lt
def tF:= @Nat.mod_lt
def rK:= @Nat.mul_comm
def kF:= @Nat.mul_le_mul
def fU:= @Nat.mul_le_mul_right
def tG:= @Nat.mul_one
def aiZ:= @Nat.not_lt_zero
def amy:= @Nat.pow_add
def vW:= @Nat.pow_mul
def rL:= @Nat.pow_succ
def yY:= @Nat.shiftLeft_eq
def yZ:= @Nat.shiftRight_eq_div_pow
def ql:= @Nat.succ_mul
def gH:= @Nat.zero_add
def fV:= @Nat.zero_le
def y0:= @Nat.zero_mul
def nT:= @Option.bind_some
def vX:= @Option.getD_some
def tH:= @Option.map_eq_some_iff
def jV:= @Option.map_some
def anJ:= @Option.none_or
def aow:= @Option.some.inj
def N:= @Option.some.injEq
def bz:= @Prod.mk.injEq
attribute [go_sem] Nat.reduceEqDiff Nat.reduceLT Nat.reduceAdd Nat.reduceLeDiff Nat.le_refl Nat.zero_le Bool.false_eq_true
end Go.aj
