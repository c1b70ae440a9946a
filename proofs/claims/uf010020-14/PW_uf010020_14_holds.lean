import PyProof.Rows.All
import PySem.Syntax
import PySem.Value
import PyProof.Raises
import PyProof.Calls
import PyProof.EvalArms
import PyProof.Rules2
import PyProof.FactsAll.str_5
import PyProof.Boot
import PyProof.FactsAll.list_0
import PyProof.FactsAll.list_3
import PyProof.FactsAll.list_4
import PyProof.AttrMissHeap
import PyProof.MakeMany
import PyProof.TupleIter
import PyProof.AutoSeq1
import PyProof.FString5
import PyProof.CallFns
import PyProof.SliceSyntax
import PyProof.SliceList
import PyProof.ForAny
import PyProof.CallRoads
import PyProof.Cells
import PyProof.CompUse
import PyProof.PlainList
import PyProof.ConsumeWalk
import PyProof.MinMaxWalk
import PyProof.StrWalks
import PyProof.CompFree
import PyProof.PureInt
import PyProof.Conv_int_bool
import PyProof.DefCall
import PyProof.MeetsSeq
import PyProof.ListOps
import PyProof.DictKinds
import PyProof.DictTruth
import PyProof.DictStraight
import PyProof.DictIter
import PyProof.TupleKey
import PyProof.DictRoadsH
import PyProof.DictWalks
import PyProof.EnumIter
import PyProof.EnumMake
import PyProof.IsRules
import PyProof.P3Statements
import PyProof.P3Eq
import PyProof.EqLayable
import PyProof.StrLaws
import PyProof.StrOps
import PyProof.StrBlock
import PyProof.RangeIter
import PyProof.WalksMore
import PyProof.RangeFor
import PyProof.InstStore
import PyProof.IsiNone
import PyProof.IsiPairs
import PyProof.IsiSeqPairs
import PyProof.ListCopy
import PyProof.ListIndexNeg
import PyProof.ListTruth
import PyProof.WalkInts
import PyProof.P3In
import PyProof.Rows.News
import PyProof.Rows.Tup
import PyProof.Rows.TupAssign
import PyProof.Rows.Lst
import PyProof.Rows.IntRules
import PyProof.Rows.SetObj
import PyProof.ZipIter
import PyProof.Truth
import PyProof.Rows.StrJoin2
import PyProof.Rows.Exc
import PyProof.Rows.Top
import PyProof.Rows.Chain
import PyProof.Rows.Nodes
import PyProof.Rows.RuleU_int
import PyProof.Rows.RuleB_mul
import PyProof.Rows.RuleB_pow
import PyProof.Rows.RuleB_floordiv
import PyProof.Rows.RuleB_mod
import PyProof.Rows.StrTemp
import PyProof.TupleOps
import PyProof.Rows.TupMore
import PyProof.SliceMore
import PyProof.Rows.TupDisplay
import PyProof.TupleOfSeq
import PyProof.Rows.CallKwBuiltin
import PyProof.SetRoads
import PyProof.Rows.SetFrom
import KE.KItem
import KE.KDictOf
import KE.KSortAsk
import KE.KSortTup
import Wide.FinOn
import OpenK.AllK
import Wide.All
import PySem.Challenge.RW_uf010020_14
set_option Elab.async false
set_option autoImplicit false
namespace Mine
open PySem
theorem aA.{u,v}:type_of% @List.length_map.{u,v}:=@List.length_map.{u,v}
theorem aB.{u}:type_of% @Option.some.inj.{u}:=@Option.some.inj.{u}
theorem aC:type_of% @PySem.wpAny_bind:=@PySem.wpAny_bind
theorem aD:type_of% @Nat.le_trans:=@Nat.le_trans
theorem aE.{u}:type_of% @List.length_append.{u}:=@List.length_append.{u}
theorem aF:type_of% @Bool.and_eq_true_iff:=@Bool.and_eq_true_iff
theorem aG.{u}:type_of% @List.mem_singleton.{u}:=@List.mem_singleton.{u}
theorem aH.{u}:type_of% @List.mem_cons_self.{u}:=@List.mem_cons_self.{u}
theorem aJ.{u,v}:type_of% @List.mem_map.{u,v}:=@List.mem_map.{u,v}
theorem aK:type_of% @PySem.wpAny_pure:=@PySem.wpAny_pure
theorem aM.{u,v}:type_of% @List.map_append.{u,v}:=@List.map_append.{u,v}
theorem aN:type_of% @Nat.le_refl:=@Nat.le_refl
theorem aO:type_of% @decide_eq_true:=@decide_eq_true
theorem aP.{u}:type_of% @List.getElem?_eq_getElem.{u}:=@List.getElem?_eq_getElem.{u}
theorem aQ.{u,v}:type_of% @congrArg.{u,v}:=@congrArg.{u,v}
theorem aR:type_of% @Nat.lt_of_lt_of_le:=@Nat.lt_of_lt_of_le
theorem aS.{u}:type_of% @List.getElem?_eq_some_iff.{u}:=@List.getElem?_eq_some_iff.{u}
theorem aT.{u}:type_of% @List.mem_cons_of_mem.{u}:=@List.mem_cons_of_mem.{u}
theorem aU:type_of% @decide_eq_false:=@decide_eq_false
theorem aW:type_of% @Nat.add_le_add:=@Nat.add_le_add
theorem aX:type_of% @Nat.zero_le:=@Nat.zero_le
theorem aY.{u}:type_of% @List.mem_append.{u}:=@List.mem_append.{u}
theorem aZ.{u}:type_of% @List.mem_cons.{u}:=@List.mem_cons.{u}
theorem bA.{u}:type_of% @List.getD_eq_getElem?_getD.{u}:=@List.getD_eq_getElem?_getD.{u}
theorem bB:type_of% @PySem.Heap.get?_push_of_some:=@PySem.Heap.get?_push_of_some
theorem bC.{u}:type_of% @List.append_assoc.{u}:=@List.append_assoc.{u}
theorem bD:type_of% @of_decide_eq_true:=@of_decide_eq_true
theorem bE:type_of% @List.length_range:=@List.length_range
theorem bF.{u}:type_of% @List.length_cons.{u}:=@List.length_cons.{u}
theorem bG.{u,v}:type_of% @List.getElem?_map.{u,v}:=@List.getElem?_map.{u,v}
theorem bH.{u}:type_of% @List.getElem?_append_left.{u}:=@List.getElem?_append_left.{u}
theorem bI:type_of% @Int.le_trans:=@Int.le_trans
theorem bJ.{u,v,w}:type_of% @List.map_map.{u,v,w}:=@List.map_map.{u,v,w}
theorem bK:type_of% @Classical.byContradiction:=@Classical.byContradiction
theorem bM:type_of% @Nat.le_of_eq:=@Nat.le_of_eq
theorem bO.{u}:type_of% @List.getElem?_append_right.{u}:=@List.getElem?_append_right.{u}
theorem bP:type_of% @Int.toNat_of_nonneg:=@Int.toNat_of_nonneg
theorem bQ:type_of% @PySem.Heap.get?_push_size:=@PySem.Heap.get?_push_size
theorem bR.{u}:type_of% @List.all_eq_true.{u}:=@List.all_eq_true.{u}
theorem bS:type_of% @PySem.wpAny_holding:=@PySem.wpAny_holding
theorem bT.{u}:type_of% @List.mem_of_getElem?.{u}:=@List.mem_of_getElem?.{u}
theorem bU:type_of% @Bool.and_eq_true:=@Bool.and_eq_true
theorem bV.{u}:type_of% @List.append_nil.{u}:=@List.append_nil.{u}
theorem bW:type_of% @Nat.le_add_right:=@Nat.le_add_right
theorem bX:type_of% @Int.add_le_add:=@Int.add_le_add
theorem bY.{u}:type_of% @beq_eq_false_iff_ne.{u}:=@beq_eq_false_iff_ne.{u}
theorem bZ:type_of% @decide_eq_true_eq:=@decide_eq_true_eq
theorem cA.{u}:type_of% @List.nodup_cons.{u}:=@List.nodup_cons.{u}
theorem cB.{u}:type_of% @Array.length_toList.{u}:=@Array.length_toList.{u}
theorem cC:type_of% @Int.lt_of_lt_of_le:=@Int.lt_of_lt_of_le
theorem cD:type_of% @Nat.le_of_ble_eq_true:=@Nat.le_of_ble_eq_true
theorem cE.{u}:type_of% @List.not_mem_nil.{u}:=@List.not_mem_nil.{u}
theorem cF.{u}:type_of% @Array.getElem?_toList.{u}:=@Array.getElem?_toList.{u}
theorem cG.{u}:type_of% @List.nodup_nil.{u}:=@List.nodup_nil.{u}
theorem cI:type_of% @Nat.le_of_lt:=@Nat.le_of_lt
theorem cJ.{u}:type_of% @Option.some_ne_none.{u}:=@Option.some_ne_none.{u}
theorem cL:type_of% @PySem.Heap.SameBut.update:=@PySem.Heap.SameBut.update
theorem cM.{u}:type_of% @List.getElem_mem.{u}:=@List.getElem_mem.{u}
theorem cN:type_of% @Int.le_refl:=@Int.le_refl
theorem cO:type_of% @Int.le_of_eq:=@Int.le_of_eq
theorem cP:type_of% @Nat.mul_le_mul_left:=@Nat.mul_le_mul_left
theorem cQ.{u,v}:type_of% @List.map_cons.{u,v}:=@List.map_cons.{u,v}
theorem cR:type_of% @Nat.lt_of_le_of_lt:=@Nat.lt_of_le_of_lt
theorem cS:type_of% @Nat.le_of_lt_succ:=@Nat.le_of_lt_succ
theorem cT.{u}:type_of% @List.nodup_append.{u}:=@List.nodup_append.{u}
theorem cU:type_of% @Nat.succ_le_succ:=@Nat.succ_le_succ
section
open PySem PySem.W PyProof.Rows
noncomputable def q14:Program:={ PySem.Challenge.pw_uf010020_14 with main:={ PySem.Challenge.pw_uf010020_14.main with body:=([1,2,3,4,6,7,8,9,10,11,12,13,14,15,16,17,18,19,20,21,23,24,25,26,27,28,29,31,32,33,34,35,36,37,38,39,40,41,43,45,46,47,48,49,50,51,52,53,54,55]:List Nat).filterMap fun i=>PySem.Challenge.pw_uf010020_14.main.body[i]? } }
end
section
open PySem PySem.W PyProof.Rows
set_option Elab.async false in
set_option maxRecDepth 100000 in
set_option maxHeartbeats 8000000 in
theorem hl14:LeftO PySem.Challenge.rw_uf010020_14.row.prog q14 [] (fun s=>xlAt q14 [] s&&recOk PySem.Challenge.rw_uf010020_14.row.records s) (Hook.obs Hook.none) (Hook.val Hook.none) 4000:=by
 intro w
 kernel_rfl
set_option maxRecDepth 100000 in
set_option maxHeartbeats 8000000 in
theorem said14:PySem.Challenge.rw_uf010020_14.wellSaid=true:=by
 unfold OpenLaw.wellSaid OpenRow.wellSaid OpenRow.partSaid looksOpen
 repeat' (with_reducible refine look_both ?_ ?_)
 all_goals decide +kernel
end
@[elab_as_elim] theorem rl {α:Sort _}{a b:α}{motive:α→Prop}(h:a=b) (k:motive b):motive a:=h ▸ k
@[elab_as_elim] theorem rr {α:Sort _}{a b:α}{motive:α→Prop}(h:a=b) (k:motive a):motive b:=h ▸ k
@[elab_as_elim] theorem ri {a b:Prop}{motive:Prop→Prop}(h:a↔b) (k:motive b):motive a:=propext h ▸ k
@[elab_as_elim] theorem rj {a b:Prop}{motive:Prop→Prop}(h:a↔b) (k:motive a):motive b:=propext h ▸ k
theorem Tq {P0 P1:Prop}{G:Prop}(h:P0∧P1) (k:P0→P1→G):G:=k h.1 h.2
theorem iE {P0 P1 P2:Prop}{G:Prop}(h:P0∧P1∧P2) (k:P0→P1→P2→G):G:=k h.1 h.2.1 h.2.2
theorem LY {P0 P1 P2 P3:Prop}{G:Prop}(h:P0∧P1∧P2∧P3) (k:P0→P1→P2→P3→G):G:=k h.1 h.2.1 h.2.2.1 h.2.2.2
theorem LZ {P0 P1 P2 P3 P4:Prop}{G:Prop}(h:P0∧P1∧P2∧P3∧P4) (k:P0→P1→P2→P3→P4→G):G:=k h.1 h.2.1 h.2.2.1 h.2.2.2.1 h.2.2.2.2
theorem wT {α:Sort _}{P0:α→Prop}{G:Prop}(h:∃a0,P0 a0) (k:∀a0,P0 a0→G):G:=h.elim fun a0 h=>k a0 h
theorem dF {α:Sort _}{P0 P1:α→Prop}{G:Prop}(h:∃a0,P0 a0∧P1 a0) (k:∀a0,P0 a0→P1 a0→G):G:=h.elim fun a0 h=>k a0 h.1 h.2
theorem fU {α:Sort _}{P0 P1 P2:α→Prop}{G:Prop}(h:∃a0,P0 a0∧P1 a0∧P2 a0) (k:∀a0,P0 a0→P1 a0→P2 a0→G):G:=h.elim fun a0 h=>k a0 h.1 h.2.1 h.2.2
theorem Jp {α:Sort _}{P0 P1 P2 P3:α→Prop}{G:Prop}(h:∃a0,P0 a0∧P1 a0∧P2 a0∧P3 a0) (k:∀a0,P0 a0→P1 a0→P2 a0→P3 a0→G):G:=h.elim fun a0 h=>k a0 h.1 h.2.1 h.2.2.1 h.2.2.2
theorem PS {α:Sort _}{P0 P1 P2 P3 P4:α→Prop}{G:Prop}(h:∃a0,P0 a0∧P1 a0∧P2 a0∧P3 a0∧P4 a0) (k:∀a0,P0 a0→P1 a0→P2 a0→P3 a0→P4 a0→G):G:=h.elim fun a0 h=>k a0 h.1 h.2.1 h.2.2.1 h.2.2.2.1 h.2.2.2.2
theorem wU {α:Sort _}{β:Sort _}{P0:α→β→Prop}{G:Prop}(h:∃a0,∃a1,P0 a0 a1) (k:∀a0 a1,P0 a0 a1→G):G:=h.elim fun a0 h=>h.elim fun a1 h=>k a0 a1 h
theorem qZ {α:Sort _}{β:Sort _}{P0 P1:α→β→Prop}{G:Prop}(h:∃a0,∃a1,P0 a0 a1∧P1 a0 a1) (k:∀a0 a1,P0 a0 a1→P1 a0 a1→G):G:=h.elim fun a0 h=>h.elim fun a1 h=>k a0 a1 h.1 h.2
theorem iY {α:Sort _}{β:Sort _}{P0 P1 P2:α→β→Prop}{G:Prop}(h:∃a0,∃a1,P0 a0 a1∧P1 a0 a1∧P2 a0 a1) (k:∀a0 a1,P0 a0 a1→P1 a0 a1→P2 a0 a1→G):G:=h.elim fun a0 h=>h.elim fun a1 h=>k a0 a1 h.1 h.2.1 h.2.2
theorem PT {α:Sort _}{β:Sort _}{P0 P1 P2 P3:α→β→Prop}{G:Prop}(h:∃a0,∃a1,P0 a0 a1∧P1 a0 a1∧P2 a0 a1∧P3 a0 a1) (k:∀a0 a1,P0 a0 a1→P1 a0 a1→P2 a0 a1→P3 a0 a1→G):G:=h.elim fun a0 h=>h.elim fun a1 h=>k a0 a1 h.1 h.2.1 h.2.2.1 h.2.2.2
theorem Ts {α:Sort _}{β:Sort _}{P0 P1 P2 P3 P4:α→β→Prop}{G:Prop}(h:∃a0,∃a1,P0 a0 a1∧P1 a0 a1∧P2 a0 a1∧P3 a0 a1∧P4 a0 a1) (k:∀a0 a1,P0 a0 a1→P1 a0 a1→P2 a0 a1→P3 a0 a1→P4 a0 a1→G):G:=h.elim fun a0 h=>h.elim fun a1 h=>k a0 a1 h.1 h.2.1 h.2.2.1 h.2.2.2.1 h.2.2.2.2
theorem MA {α:Sort _}{β:Sort _}{γ:Sort _}{P0:α→β→γ→Prop}{G:Prop}(h:∃a0,∃a1,∃a2,P0 a0 a1 a2) (k:∀a0 a1 a2,P0 a0 a1 a2→G):G:=h.elim fun a0 h=>h.elim fun a1 h=>h.elim fun a2 h=>k a0 a1 a2 h
theorem AP {α:Sort _}{β:Sort _}{γ:Sort _}{P0 P1:α→β→γ→Prop}{G:Prop}(h:∃a0,∃a1,∃a2,P0 a0 a1 a2∧P1 a0 a1 a2) (k:∀a0 a1 a2,P0 a0 a1 a2→P1 a0 a1 a2→G):G:=h.elim fun a0 h=>h.elim fun a1 h=>h.elim fun a2 h=>k a0 a1 a2 h.1 h.2
theorem Pv {α:Sort _}{β:Sort _}{γ:Sort _}{P0 P1 P2:α→β→γ→Prop}{G:Prop}(h:∃a0,∃a1,∃a2,P0 a0 a1 a2∧P1 a0 a1 a2∧P2 a0 a1 a2) (k:∀a0 a1 a2,P0 a0 a1 a2→P1 a0 a1 a2→P2 a0 a1 a2→G):G:=h.elim fun a0 h=>h.elim fun a1 h=>h.elim fun a2 h=>k a0 a1 a2 h.1 h.2.1 h.2.2
theorem Jq {α:Sort _}{β:Sort _}{γ:Sort _}{P0 P1 P2 P3:α→β→γ→Prop}{G:Prop}(h:∃a0,∃a1,∃a2,P0 a0 a1 a2∧P1 a0 a1 a2∧P2 a0 a1 a2∧P3 a0 a1 a2) (k:∀a0 a1 a2,P0 a0 a1 a2→P1 a0 a1 a2→P2 a0 a1 a2→P3 a0 a1 a2→G):G:=h.elim fun a0 h=>h.elim fun a1 h=>h.elim fun a2 h=>k a0 a1 a2 h.1 h.2.1 h.2.2.1 h.2.2.2
theorem Jr {α:Sort _}{β:Sort _}{γ:Sort _}{δ:Sort _}{P0 P1:α→β→γ→δ→Prop}{G:Prop}(h:∃a0,∃a1,∃a2,∃a3,P0 a0 a1 a2 a3∧P1 a0 a1 a2 a3) (k:∀a0 a1 a2 a3,P0 a0 a1 a2 a3→P1 a0 a1 a2 a3→G):G:=h.elim fun a0 h=>h.elim fun a1 h=>h.elim fun a2 h=>h.elim fun a3 h=>k a0 a1 a2 a3 h.1 h.2
theorem AQ {α:Sort _}{β:Sort _}{γ:Sort _}{δ:Sort _}{P0 P1 P2:α→β→γ→δ→Prop}{G:Prop}(h:∃a0,∃a1,∃a2,∃a3,P0 a0 a1 a2 a3∧P1 a0 a1 a2 a3∧P2 a0 a1 a2 a3) (k:∀a0 a1 a2 a3,P0 a0 a1 a2 a3→P1 a0 a1 a2 a3→P2 a0 a1 a2 a3→G):G:=h.elim fun a0 h=>h.elim fun a1 h=>h.elim fun a2 h=>h.elim fun a3 h=>k a0 a1 a2 a3 h.1 h.2.1 h.2.2
theorem PU {α:Sort _}{β:Sort _}{γ:Sort _}{δ:Sort _}{ε:Sort _}{P0 P1 P2 P3:α→β→γ→δ→ε→Prop}{G:Prop}(h:∃a0,∃a1,∃a2,∃a3,∃a4,P0 a0 a1 a2 a3 a4∧P1 a0 a1 a2 a3 a4∧P2 a0 a1 a2 a3 a4∧P3 a0 a1 a2 a3 a4) (k:∀a0 a1 a2 a3 a4,P0 a0 a1 a2 a3 a4→P1 a0 a1 a2 a3 a4→P2 a0 a1 a2 a3 a4→P3 a0 a1 a2 a3 a4→G):G:=h.elim fun a0 h=>h.elim fun a1 h=>h.elim fun a2 h=>h.elim fun a3 h=>h.elim fun a4 h=>k a0 a1 a2 a3 a4 h.1 h.2.1 h.2.2.1 h.2.2.2
theorem HU {α:Sort _}{β:Sort _}{γ:Sort _}{δ:Sort _}{ε:Sort _}{ζ:Sort _}{P0 P1 P2:α→β→γ→δ→ε→ζ→Prop}{G:Prop}(h:∃a0,∃a1,∃a2,∃a3,∃a4,∃a5,P0 a0 a1 a2 a3 a4 a5∧P1 a0 a1 a2 a3 a4 a5∧P2 a0 a1 a2 a3 a4 a5) (k:∀a0 a1 a2 a3 a4 a5,P0 a0 a1 a2 a3 a4 a5→P1 a0 a1 a2 a3 a4 a5→P2 a0 a1 a2 a3 a4 a5→G):G:=h.elim fun a0 h=>h.elim fun a1 h=>h.elim fun a2 h=>h.elim fun a3 h=>h.elim fun a4 h=>h.elim fun a5 h=>k a0 a1 a2 a3 a4 a5 h.1 h.2.1 h.2.2
theorem nS {α:Type _}{x:α}{G:Prop}(h:none=some x):G:=nomatch h
theorem Sn {α:Type _}{x:α}{G:Prop}(h:some x=none):G:=nomatch h
theorem fT {G:Prop}(h:false=true):G:=nomatch h
theorem tF {G:Prop}(h:true=false):G:=nomatch h
section
theorem L1 {n k m:Nat}(h:n≤k) (hk:Nat.ble k m=true:=by rfl):n≤m:=aD h (cD hk)
theorem L2 {n k m:Int}(h:n≤k) (hk:decide (k≤m)=true:=by rfl):n≤m:=bI h (bD hk)
theorem A0 {a b:Nat}(h:a=b):b≤a:=bM h.symm
theorem A1 {a b:Int}(h:a=b):b≤a:=cO h.symm
theorem A2 {x:Int}{n:Nat}(h:0≤x) (k:x<n):x.toNat<n:=by omega
theorem A3 {x:Int}{n:Nat}(h:x.toNat<n):x<n:=by omega
theorem A5 {x:Int}{n:Nat}(h:(n:Int)=x):x.toNat=n:=by omega
theorem A6 {x y:Int}(h:x≤y):x.toNat≤y.toNat:=by omega
theorem A7 {x:Int}(h:0≤x):x=(x.toNat:Int):=by omega
theorem A9 {x:Int}{n:Nat}(h:n<x.toNat):(n:Int)<x:=by omega
theorem Bc {m n:Nat}(h:m≤n):(m:Int)≤n:=by omega
theorem FG {m n:Nat}(h:m<n):(m:Int)<n:=by omega
theorem Bf {m n:Nat}(h:(m:Int)<n):m<n:=by omega
theorem N1 {e l c:Nat}(h:e≤l) (hk:Nat.ble (l+1) c=true:=by rfl):e<c:=cR h (cD hk)
theorem N2 {e l c:Nat}(h:l≤e) (hk:Nat.ble c l=true:=by rfl):c≤e:=aD (cD hk) h
theorem N3 {e l c:Nat}(h:l≤e) (hk:Nat.ble (c+1) l=true:=by rfl):c<e:=aR (cD hk) h
theorem N4 {e l:Nat}(h:e<l):e≤l-1:=by omega
theorem N5 {a b c:Nat}(h:a≤b):a-c≤b:=aD (Nat.sub_le _ _) h
theorem Z1 {e l c:Int}(h:e≤l) (hk:decide (l<c)=true:=by rfl):e<c:=Int.lt_of_le_of_lt h (bD hk)
theorem Z2 {e l c:Int}(h:l≤e) (hk:decide (c≤l)=true:=by rfl):c≤e:=bI (bD hk) h
theorem Z3 {e l c:Int}(h:l≤e) (hk:decide (c<l)=true:=by rfl):c<e:=cC (bD hk) h
theorem Z5 {e l:Int}(h:e<l):e≤l-1:=by omega
theorem Z6 {e l:Int}(h:l<e):l+1≤e:=by omega
theorem q1 {a:Nat}{b:Nat}(h0:a+2*b<900):a<1000:=by lia
theorem q2 {a:Nat}{b:Nat}(h0:a+1≤b):b=b-1+1:=by lia
theorem q3 {a:Nat}{b:Nat}(h0:a+10*b<9000):a+1+4<9900:=by lia
theorem q4 {a:Nat}(h0:(↑a:Int)<2 ^ 63):¬(↑a:Int)≥2 ^ 63:=by lia
theorem q5 {a:Nat}  : ¬(↑a:Int)<0:=by lia
theorem q6 {a:Nat}(h0:a≤1100000):¬(↑a:Int)≥2 ^ 63:=by lia
theorem q7 {a:Nat}{b:Nat}(h0:a+10*b<9000):a+200<9900:=by lia
theorem q8 {a:Nat}{b:Nat}{c:Nat}(h0:a≤64) (h1:b+10*c<9000):b+1+a<9900:=by lia
theorem q9 {a:Nat}{b:Nat}(h0:a<b):a≠b:=by lia
theorem SI {a:Nat}  : Int.toNat (0+(↑a:Int)*1)=0+a:=by lia
theorem SJ {a:Int}{b:Nat}{c:Nat}(h0:0≤a) (h1:Int.toNat a<b) (h2:c=b) (h3:c≤1100000):-2 ^ 63≤a∧a<2 ^ 63:=by lia
theorem SK {a:Nat}{b:Nat}{c:Nat}{d:Nat}(h0:a=b) (h1:a≤1100000) (h2:c=d) (h3:a+c≤1100000):b+d≤16777216+1:=by lia
theorem SL {a:Nat}  : (↑(a+1):Int)-1=(↑a:Int):=by lia
theorem PW {a:Nat}{b:Nat}(h0:a+10*(b+1)<9000):a+3+10*b<9000:=by lia
theorem SM {a:Nat}{b:Nat}(h0:a+2*(b+1)<900):a+1+2*b<900:=by lia
theorem SN {a:Nat}(h0:2≤a):¬a<2:=by lia
theorem RM {a:Nat}{b:Nat}{c:Nat}(h0:a=b+(c+1)):a=b+1+c:=by lia
theorem SO {a:Nat}(h0:a≤1000):¬a>(2 ^ 63-1) / 8:=by lia
theorem SQ {a:Nat}{b:Nat}(h0:a+10*b<9000):a+4<9900:=by lia
theorem SS {a:Int}(h0:0<a) (h1:a<1073741824):Int.natAbs a<1073741824:=by omega
theorem RN {a:Int}(h0:0<a):a≠0:=by lia
theorem ST {a:Nat}(h0:a*3≤134217728):(↑a:Int)*3≤2 ^ 27:=by lia
theorem SU {a:Nat}{b:Nat}(h0:a=b):Int.toNat (-1+(↑b:Int))=a-1:=by lia
theorem SV {a:Nat}(h0:0<a):-(↑a:Int)≤-1:=by lia
theorem SW {a:Nat}{b:Nat}{c:Nat}(h0:a+1+b≤c):b≤c-1:=by omega
theorem RO {a:Nat}{b:Nat}{c:Nat}(h0:a+(b+1)≤1100000) (h1:c≤1):a+c+b≤1100000:=by lia
theorem SX {a:Int}(h0:a<1000) (h1:0≤a):Int.natAbs a<2 ^ 10:=by lia
theorem SY {a:Nat}{b:Nat}(h0:¬a<b):¬(↑a:Int)<(↑b:Int):=by lia
theorem SZ {a:Int}(h0:a<100000) (h1:0≤a):Int.natAbs a<2 ^ 17:=by lia
theorem TA {a:Nat}{b:Nat}{c:Nat}(h0:a≤b+c) (h1:b≤c+c):a≤c*3:=by lia
theorem TB {a:Int}(h0:¬a=0):Int.natAbs a≠0:=by lia
theorem TC {a:Nat}{b:Nat}{c:Nat}{d:Nat}(h0:a≤b+c) (h1:b≤d+1):a≤d+(c+1):=by lia
theorem TD {a:Nat}(h0:¬a<6):¬(↑a:Int)<6:=by lia
theorem TE {a:Nat}{b:Int}{c:Int}(h0:a<6) (h1:b<1+c) (h2:c<8):9*(↑a:Int)+b<1000:=by lia
theorem TF {a:Nat}{b:Nat}(h0:a<b):¬b<a:=by lia
theorem TG {a:Int}{b:Int}(h0:a<12) (h1:b<6):20*a+7+b<1000:=by lia
theorem TH {a:Nat}{b:Int}(h0:(↑a:Int)<b) (h1:b≤12):20*(↑a:Int)<1000:=by lia
theorem TI {a:Int}{b:Int}(h0:0≤a) (h1:a≤b-1):0≤a∧a<b:=by lia
theorem TJ {a:Int}{b:Nat}{c:Nat}(h0:a=(↑(b-c):Int)) (h1:c<b):0<a:=by lia
theorem TK {a:Nat}{b:Nat}{c:Int}(h0:a≤b) (h1:c=(↑(a-b):Int)):¬0<c:=by omega
theorem RP {a:Nat}{b:Nat}{c:Int}(h0:a=b-1) (h1:c=(↑b:Int)) (h2:1<c):1≤a:=by lia
theorem TL {a:Int}{b:Nat}(h0:a=(↑(b+1):Int)):a≠0:=by omega
theorem RQ {a:Int}{b:Nat}(h0:a=(↑b:Int)) (h1:0<b):a≠0:=by lia
theorem TM {a:Nat}{b:Nat}  : a+(b+1+1+1+1)=a+(4+b):=by lia
theorem PX {a:Int}{b:Nat}(h0:0≤a) (h1:a≤(↑b:Int)-1):0≤a∧a<(↑b:Int):=by lia
theorem RR {a:Int}{b:Nat}(h0:0≤a) (h1:a<(↑b:Int)-1):0≤a+1∧a+1<(↑b:Int):=by lia
theorem PJ {a:Int}{b:Nat}(h0:a≤(↑b:Int)-1):a<(↑b:Int):=by lia
theorem TN {a:Nat}{b:Nat}{c:Nat}(h0:a≤6) (h1:b≤6*c+1):b+a≤6*(c+1)+1:=by lia
theorem TO {a:Nat}{b:Nat}{c:Nat}{d:Nat}(h0:a+1=b):8*(2880-c)+2*a+d+1<8*(2880-c)+2*b+d+0:=by lia
theorem TP {a:Nat}{b:Nat}{c:Nat}  : 8*(2880-(a+1))+2*b+c+0<8*(2880-a)+2*b+c+1:=by omega
theorem TQ {a:Nat}{b:Nat}{c:Nat}{d:Nat}(h0:a+6*(2880-b)≤c) (h1:d≤6) (h2:b+1≤2880):a+d+6*(2880-(b+1))≤c:=by lia
theorem TR {a:Nat}{b:Nat}{c:Nat}{d:Nat}(h0:a≤2) (h1:b+1≤2880):8*(2880-(b+1))+2*(c+(a+0))+(d+1)+0<8*(2880-b)+2*c+d+1:=by lia
theorem TS {a:Nat}{b:Nat}{c:Nat}(h0:a+6*(2880-b)≤c):a+6*(2880-(b+1))≤c:=by omega
theorem TT {a:Nat}{b:Nat}{c:Nat}(h0:a+1=b):c+a+1=c+b:=by lia
theorem TU {a:Nat}{b:Nat}{c:Nat}{d:Nat}{e:Nat}(h0:¬a=b) (h1:c=a) (h2:b≤a) (h3:d-b≤e+1):d-c≤e:=by lia
theorem TV {a:Nat}{b:Nat}{c:Nat}{d:Nat}(h0:¬a=b) (h1:c=a) (h2:b≤a) (h3:d≤b):d+1≤c:=by lia
theorem TW {a:Nat}{b:Nat}{c:Nat}(h0:a≤b) (h1:c-a≤0) (h2:b≤c):b=a:=by lia
theorem TX {a:Int}{b:Nat}(h0:0≤a) (h1:a≤(↑b:Int)-1):Int.toNat a<b:=by lia
theorem RS {a:Int}{b:Nat}(h0:0≤a) (h1:a≤(↑b:Int)-1):0≤a∧Int.toNat a<b:=by lia
theorem RT {a:Nat}{b:Nat}(h0:a<b):b-(a+1)<b-a:=by omega
theorem TY {a:Nat}{b:Nat}{c:Nat}{d:Nat}{e:Nat}(h0:a+b=c) (h1:c=d) (h2:d≤e) (h3:e≤12):a≤12:=by lia
theorem TZ {a:Nat}{b:Nat}(h0:a+1≤b) (h1:b≤144):144-(b-a)<144-(b-(a+1)):=by omega
theorem UA {a:Nat}{b:Nat}{c:Nat}{d:Int}(h0:(↑(a+(b+c)):Int)≤d):(↑(a+b+c):Int)≤d:=by lia
theorem UB {a:Nat}{b:Nat}{c:Nat}{d:Int}(h0:(↑(a+(b+c)):Int)≤d):(↑(a+b):Int)≤d:=by lia
theorem UC {a:Nat}{b:Nat}{c:Int}(h0:(↑(a+(b+1+1+1)):Int)≤c):(↑(a+3+b):Int)≤c:=by lia
theorem UD {a:Nat}{b:Nat}{c:Int}(h0:(↑(a+(b+1+1+1)):Int)≤c):(↑(a+1):Int)<c-1:=by lia
theorem UE {a:Nat}{b:Nat}{c:Int}(h0:(↑(a+(b+1+1+1)):Int)≤c):(↑a:Int)<c-1:=by lia
theorem UF {a:Nat}{b:Nat}{c:Nat}{d:Int}(h0:a=3*(b+1)-1) (h1:(↑(c+(a+1+1+1)):Int)≤d):(↑(c+3):Int)≤d-1:=by lia
theorem UG {a:Nat}{b:Int}(h0:(↑(a+2):Int)≤b):(↑a:Int)<b-1:=by lia
theorem UH {a:Nat}{b:Nat}{c:Nat}(h0:a≤17) (h1:b≤17*c):a+b≤17*(c+1):=by lia
theorem UI {a:Nat}{b:Nat}(h0:¬a+1<b+1):¬a+1+1<b+1+1:=by lia
theorem UJ {a:Int}{b:Nat}{c:Nat}(h0:a=(↑b:Int)) (h1:¬c+1<b):¬(↑c:Int)<a-1:=by lia
theorem UK {a:Int}{b:Nat}{c:Nat}(h0:a=(↑b:Int)) (h1:c+1<b):(↑c:Int)<a-1:=by lia
theorem UL {a:Nat}{b:Nat}(h0:a+3*b<240):240-(a+3*b+1)<240-(a+3*b)∧240-(a+3*b+3)<240-(a+3*b):=by omega
theorem RU {a:Nat}{b:Nat}(h0:a≤0):¬b<a:=by lia
theorem RW {a:Nat}  : Int.toNat ((↑a:Int)-1)=a-1:=by lia
theorem UM {a:Nat}{b:Nat}(h0:a+2*b≤100):a+2≤1100000:=by lia
theorem UN {a:Int}{b:Int}{c:Nat}{d:Nat}(h0:a<b-1) (h1:b=(↑c:Int)) (h2:d+2*c≤100):a+1<100000:=by lia
theorem UO {a:Int}{b:Nat}{c:Int}(h0:a+(↑(3*b-1):Int)≤c):a+(↑(b-1):Int)+2*(↑b:Int)≤c:=by lia
theorem UP {a:Int}{b:Nat}{c:Int}(h0:a+(↑(3*b-1):Int)≤c):a+3*(↑b:Int)-1≤c:=by lia
theorem UQ {a:Nat}  : a-1+2*a=3*a-1:=by lia
theorem UR {a:Nat}  : (↑a:Int)-1<(↑a:Int):=by lia
theorem US {a:Int}{b:Nat}{c:Int}{d:Nat}(h0:a+3*(↑b:Int)-1≤c) (h1:d<b-1):a+(↑d:Int)<c-1:=by omega
theorem UT {a:Int}{b:Nat}{c:Int}{d:Nat}(h0:a+3*(↑b:Int)-1≤c) (h1:d<b-1):a+(↑b:Int)-1+2*((↑d:Int)+1)≤c-1:=by lia
theorem UU {a:Int}{b:Nat}{c:Nat}(h0:0≤a):0≤a+(↑b:Int)-1+2*((↑c:Int)+1):=by lia
theorem UV {a:Int}{b:Nat}{c:Int}(h0:a+2*(↑(b+1):Int)≤c):a+(↑1:Int)+(↑1:Int)+2*(↑b:Int)≤c:=by lia
theorem UW {a:Int}{b:Nat}{c:Int}(h0:a+2*(↑(b+1):Int)≤c):a<c-1:=by lia
theorem UX {a:Int}  : a+(↑0:Int)=a:=by lia
theorem UY {a:Nat}{b:Nat}{c:Int}(h0:a≤b):c+(↑a:Int)+(↑(b-a):Int)=c+(↑b:Int):=by lia
theorem UZ {a:Nat}{b:Nat}(h0:a+1<b):0+(↑a:Int)<(↑b:Int)-1:=by lia
theorem RX {a:Nat}{b:Nat}(h0:a+1<b):(↑a:Int)+1≤(↑b:Int)-1:=by lia
theorem VA {a:Nat}{b:Nat}{c:Nat}{d:Nat}{e:Nat}{f:Nat}(h0:1≤a) (h1:b+a=c) (h2:b=d+1) (h3:e=d) (h4:c≤f):e+1<f:=by lia
theorem VB {a:Int}{b:Int}{c:Nat}(h0:0≤a) (h1:a<b) (h2:c=Int.toNat (1+a)) (h3:b≤3):1≤c∧c≤3:=by lia
theorem VC {a:Nat}{b:Nat}(h0:a<b) (h1:b≤12):30*(↑a:Int)<1000:=by lia
theorem VD {a:Int}{b:Nat}(h0:a=(↑b:Int)) (h1:1≤b):3*a-1=(↑(3*b-1):Int):=by lia
theorem VE {a:Int}(h0:¬a=1) (h1:a<3) (h2:0<a):a=2:=by lia
theorem VF {a:Nat}{b:Nat}(h0:a+b≤1000):a≤1100000:=by lia
theorem VG {a:Int}(h0:0≤a) (h1:a<5):a=0∨a=1∨a=2∨a=3∨a=4:=by lia
theorem MB {a:Int}(h0:0≤a):Int.toNat (a+1)=Int.toNat a+1:=by lia
theorem PY {a:Int}{b:Int}{c:Int}(h0:a=b+1) (h1:a≤c-1):b<c-1:=by lia
theorem MC {a:Int}(h0:¬a=0) (h1:0≤a) (h2:a<2):a=1:=by lia
theorem PZ {a:Int}{b:Nat}{c:Nat}(h0:a=(↑b:Int)) (h1:¬b<c):¬a<(↑c:Int):=by lia
theorem QA {a:Int}{b:Int}{c:Nat}(h0:¬a<b) (h1:b=(↑c:Int)):¬a<(↑c:Int):=by lia
theorem QB {a:Int}{b:Int}{c:Nat}{d:Nat}{e:Nat}(h0:a<b) (h1:b=(↑c:Int)) (h2:c≤d) (h3:d≤e) (h4:e≤144):Int.toNat (144-b)<Int.toNat (144-a):=by lia
theorem QC {a:Nat}{b:Nat}{c:Nat}(h0:a+b=c) (h1:c≤6):a≤10:=by lia
inductive V where
 |none
 |bool (b:Bool)
 |int (i:Int)
 |str (s:Str)
 |tup (xs:List V)
 |lst (xs:List V)
 |dct (e:Bool) (ks vs:List V)
 |ref (i:Nat)
noncomputable instance MD:DecidableEq V:=fun a b=>Classical.propDecidable (a=b)
set_option genSizeOf false
set_option genInjectivity false
inductive Ty where
 |int | bool | str | tuple | list
deriving DecidableEq
inductive Js where
 |len | all | tuple | join | setlen | intOf | min | max | maxD | isinst (t:Ty)
inductive FH where
 |append | extend | popLast | popAt
inductive Md where
 |plain | rng | enum
inductive T where
 |slot (i:Nat)
 |tup (is:List Nat)
inductive E where
 |var (i:Nat)
 |const (v:V)
 |bin (op:Operator) (a b:E)
 |not (a:E)
 |and (a b:E)
 |or (a b:E)
 |cmp (op:CmpOp) (a b:E)
 |cmp2 (o1 o2:CmpOp) (a b c:E)
 |ite (c t e:E)
 |nil
 |cons (a b:E)
 |sub (a i:E)
 |call (f:Nat) (args:E)
 |prim (p:Js) (args:E)
 |eff (m:FH) (o args:E)
 |box (l:E)
 |disp (es:E)
 |comp (t:T) (md:Md) (it ifs elt:E)
 |listOf (e:E)
 |sorted (e:E)
 |slice (a lo hi:E)
 |cat (a b:E)
 |last (a:E)
 |dpop (o args:E)
 |callB (f:Nat) (args:E)
 |setDef (o args:E)
 |dict0 (e:Bool)
 |dict1 (k v:E)
 |dictOf (e:E)
inductive S where
 |skip
 |seq (a b:S)
 |assign (t:T) (e:E)
 |expr (e:E)
 |setItem (e a i:E)
 |iff (c:E) (t e:S)
 |forr (t:T) (md:Md) (it:E) (body:S)
 |whil (c:E) (body:S)
 |ret (e:E)
 |stuck
noncomputable abbrev Loc:=List (Option V)
noncomputable abbrev Hp:=List V
noncomputable def Ab:Nat:=1100000
noncomputable def gd {α:Type}(b:Bool) (o:Option α):Option α:=match b with
 |true=>o
 |false=>none
noncomputable def br {α:Type}(b:Bool) (x y:α):α:=match b with
 |true=>x
 |false=>y
noncomputable def iZ:V→Option (List V)
 |.lst xs=>some xs
 |_=>none
noncomputable def oG:V→Option (List V×List V)
 |.dct _ ks vs=>some (ks,vs)
 |_=>none
noncomputable def hZ:V→Option (List V)
 |.tup xs=>some xs
 |_=>none
noncomputable def intOf:V→Option Int
 |.int i=>some i
 |_=>none
noncomputable def strOf:V→Option Str
 |.str s=>some s
 |_=>none
noncomputable def boolOf:V→Option Bool
 |.bool b=>some b
 |_=>none
noncomputable def eC (H:Hp):V→Option (List V)
 |.lst xs=>some xs
 |.ref i=>(H[i]?).bind iZ
 |_=>none
noncomputable def V.items (H:Hp):V→Option (List V)
 |.tup xs=>some xs
 |v=>eC H v
noncomputable def gY (H:Hp):V→Option (List V×List V)
 |.dct _ ks vs=>some (ks,vs)
 |.ref i=>(H[i]?).bind oG
 |_=>none
noncomputable def small (xs:List V):Bool:=decide (xs.length≤Ab)
noncomputable def fL (H:Hp):V→Option Bool
 |.none=>some false
 |.bool b=>some b
 |.int i=>some (i != 0)
 |.str s=>gd (decide (s.length≤Ab)) (some (s.length != 0))
 |v=>(v.items H).bind fun xs=>gd (small xs) (some (!xs.isEmpty))
noncomputable def intBits (x:Int):Nat:=if x == 0 then 0 else x.natAbs.log2+1
noncomputable def ME:Operator→Int→Int→Option Int
 |.Add,x,y=>some (x+y)
 |.Sub,x,y=>some (x-y)
 |.Mult,x,y=>gd (decide (intBits x+intBits y≤134217728)) (some (x*y))
 |.FloorDiv,x,y=>gd (decide (0<y∧y<1073741824)) (some (x.fdiv y))
 |.Mod,x,y=>gd (decide (0<y)) (some (x.fmod y))
 |.Pow,x,y=>gd (decide (y=3∧intBits x*3≤134217728)) (some (x ^ 3))
 |_,_,_=>none
noncomputable def gN (a b:Str):Bool:=decide (a.cps.toList<b.cps.toList)
noncomputable def fF {α β:Type}(f:α→Option β):List α→Option (List β)
 |[]=>some []
 |x::xs=>(f x).bind fun y=>(fF f xs).map fun ys=>y::ys
noncomputable def Fm:V→Option PyData
 |.none=>some .none
 |.bool b=>some (.bool b)
 |.int i=>some (.int i)
 |.str s=>some (.str s)
 |_=>none
noncomputable def gO (H:Hp):Nat→V→Option PyData
 |0,v=>Fm v
 |k+1,v=>(match v with
  |.tup xs=>(fF (gO H k) xs).map .tuple
  |.lst xs=>(fF (gO H k) xs).map .list
  |.ref i=>((H[i]?).bind iZ).bind fun xs=>(fF (gO H k) xs).map .list
  |v=>Fm v)
noncomputable def Tt (d:PyData):Bool:=d.canLay0&&decide (d.depth≤64)
noncomputable def AF (H:Hp) (a b:V):Option Bool:=(gO H 12 a).bind fun x=>(gO H 12 b).bind fun y=>gd (Tt x) (gd (Tt y) (some (PyData.eqv x y)))
noncomputable def Cw:V→Bool
 |.str _=>true
 |_=>false
noncomputable def Cy:V→Bool
 |.int _=>true
 |_=>false
noncomputable def MF:V→Bool
 |.str s=>PyData.strOk s
 |.int _=>true
 |_=>false
noncomputable def iA:Nat→V→Bool
 |0,v=>MF v
 |n+1,v=>(match v with
  |.tup xs=>xs.all (iA n)
  |v=>MF v)
noncomputable def nH:V→Bool
 |.tup xs=>xs.all (iA 3)
 |_=>false
noncomputable def fA (ks:List V) (k:V):Bool:=(k::ks).all Cw||((k::ks).all Cy||(k::ks).all nH)
noncomputable def dfind:List V→List V→V→Option V
 |k'::ks,v::vs,k=>if k'=k then some v else dfind ks vs k
 |_,_,_=>none
noncomputable def Tu:List V→List V→V→V→List V
 |k'::ks,v::vs,k,z=>if k'=k then z::vs else v::Tu ks vs k z
 |_,vs,_,_=>vs
noncomputable def MG:PyData→Option (List PyData)
 |.list ys=>some ys
 |.tuple ys=>some ys
 |_=>none
noncomputable def oM (H:Hp) (a b:V):Option Bool:=(gO H 12 a).bind fun x=>(gO H 12 b).bind fun y=>(MG y).bind fun ys=>gd (Tt x) (gd (Tt y) (some (ys.any fun y=>PyData.eqv y x)))
noncomputable def HV (H:Hp) (a b:V):Option Bool:=match b with
 |.str t=>(strOf a).bind fun s=>some (Txt.contains t s)
 |b=>(match gY H b with
  |some q=>gd (fA q.1 a) (some (decide (a∈q.1)))
  |none=>oM H a b)
noncomputable def isNone:V→Bool
 |.none=>true
 |_=>false
noncomputable def Tv (b:Bool):V→Bool
 |.bool c=>c == b
 |_=>false
noncomputable def RY (a:V):V→Option Bool
 |.none=>some (isNone a)
 |.bool b=>some (Tv b a)
 |_=>none
noncomputable def Pw (f:Int→Int→Bool) (a b:V):Option Bool:=(intOf a).bind fun x=>(intOf b).bind fun y=>some (f x y)
noncomputable def VH (a b:V):Option Bool:=match a with
 |.str x=>(strOf b).bind fun y=>some (!gN y x)
 |a=>Pw (fun x y=>decide (x≤y)) a b
noncomputable def fV (H:Hp):CmpOp→V→V→Option Bool
 |.Lt,a,b=>Pw (fun x y=>decide (x<y)) a b
 |.LtE,a,b=>VH a b
 |.Gt,a,b=>Pw (fun x y=>decide (y<x)) a b
 |.GtE,a,b=>Pw (fun x y=>decide (y≤x)) a b
 |.Eq,a,b=>AF H a b
 |.NotEq,a,b=>(AF H a b).bind fun r=>some (!r)
 |.Is,a,b=>RY a b
 |.IsNot,a,b=>(RY a b).bind fun r=>some (!r)
 |.In,a,b=>HV H a b
 |.NotIn,a,b=>(HV H a b).bind fun r=>some (!r)
noncomputable def HW (H:Hp) (a b:V):Option V:=match a with
 |.tup xs=>(hZ b).bind fun ys=>gd (decide (xs.length+ys.length≤Ab)) (some (.tup (xs++ys)))
 |a=>(eC H a).bind fun xs=>(eC H b).bind fun ys=>gd (decide (xs.length+ys.length≤Ab)) (some (.lst (xs++ys)))
noncomputable def HX (H:Hp) (a b:V):Option V:=(eC H a).bind fun xs=>(intOf b).bind fun n=>gd (decide (0≤n∧n≤1000∧xs.length*n.toNat≤1000)) (some (.lst ((List.replicate n.toNat xs).flatten)))
noncomputable def Cz (H:Hp) (op:Operator) (a b:V):Option V:=match intOf a with
 |some x=>(intOf b).bind fun y=>(ME op x y).bind fun z=>some (.int z)
 |none=>(match op with
  |.Add=>HW H a b
  |.Mult=>HX H a b
  |_=>none)
noncomputable def PK (i:Int) (n:Nat):Bool:=decide (0≤i∧i<n∧i<9223372036854775808)
noncomputable def HY (xs:List V) (i:V):Option V:=(intOf i).bind fun i=>gd (PK i xs.length) xs[i.toNat]?
noncomputable def fH (H:Hp) (a i:V):Option V:=match a with
 |.str s=>(intOf i).bind fun i=>gd (fitsSsize i&&(Txt.charAt s i).isSome) (some (.str (Txt.item s i)))
 |a=>(match gY H a with
  |some q=>gd (fA q.1 i) (dfind q.1 q.2 i)
  |none=>(a.items H).bind fun xs=>HY xs i)
inductive Kd where
 |none | bool | int | str | tuple | list
noncomputable def My (H:Hp):V→Option Kd
 |.none=>some .none
 |.bool _=>some .bool
 |.int _=>some .int
 |.str _=>some .str
 |.tup _=>some .tuple
 |v=>(eC H v).bind fun _=>some .list
noncomputable def Kd.isA:Kd→Ty→Bool
 |.int,.int=>true
 |.bool,.int=>true
 |.bool,.bool=>true
 |.str,.str=>true
 |.tuple,.tuple=>true
 |.list,.list=>true
 |_,_=>false
noncomputable def nJ:List V→Option V
 |[]=>none
 |x::xs=>(match xs with
  |[]=>some x
  |_::_=>none)
noncomputable def Da:List V→Option (V×V)
 |[]=>none
 |x::xs=>(nJ xs).bind fun y=>some (x,y)
noncomputable def AR (H:Hp) (v:V):Option V:=match v with
 |.str s=>gd (decide (s.length≤Ab)) (some (.int s.length))
 |v=>(match gY H v with
  |some q=>gd (small q.1) (some (.int q.1.length))
  |none=>(v.items H).bind fun xs=>gd (small xs) (some (.int xs.length)))
noncomputable def Ac:Int→List Int→Int
 |m,[]=>m
 |m,x::xs=>Ac (if m<x then x else m) xs
noncomputable def maxD (d:Int):List Int→Int
 |[]=>d
 |x::xs=>Ac x xs
noncomputable def Ad (σ:List Str) (v:Str):List Str:=if σ.any (· == v) then σ else σ++[v]
noncomputable def dS (H:Hp):Js→List V→Option V
 |.len,vs=>(nJ vs).bind fun v=>AR H v
 |.all,vs=>(nJ vs).bind fun v=>(v.items H).bind fun xs=>(fF boolOf xs).bind fun bs=>some (.bool (bs.all id))
 |.tuple,vs=>(nJ vs).bind fun v=>(eC H v).bind fun xs=>gd (small xs) (some (.tup xs))
 |.join,vs=>(nJ vs).bind fun v=>(eC H v).bind fun xs=>(fF strOf xs).bind fun ss=>gd (decide ((ss.map (·.length)).sum≤Ab)) (some (.str (Str.join (Str.ofString "") ss)))
 |.setlen,vs=>(nJ vs).bind fun v=>(eC H v).bind fun xs=>(fF strOf xs).bind fun ss=>gd (decide (ss.length≤6)) (some (.int (ss.foldl Ad []).length))
 |.intOf,vs=>(nJ vs).bind fun v=>(boolOf v).bind fun b=>some (.int (if b then 1 else 0))
 |.min,vs=>(Da vs).bind fun q=>(intOf q.1).bind fun a=>(intOf q.2).bind fun b=>some (.int (if b<a then b else a))
 |.max,vs=>(Da vs).bind fun q=>(intOf q.1).bind fun a=>(intOf q.2).bind fun b=>some (.int (if a<b then b else a))
 |.maxD,vs=>(Da vs).bind fun q=>(eC H q.1).bind fun xs=>(fF intOf xs).bind fun is=>(intOf q.2).bind fun d=>gd (small xs) (some (.int (maxD d is)))
 |.isinst t,vs=>(nJ vs).bind fun v=>(My H v).bind fun k=>some (.bool (k.isA t))
noncomputable def refOf:V→Option Nat
 |.ref i=>some i
 |_=>none
noncomputable def MH (H:Hp) (x:V):Option (Nat×List V):=(refOf x).bind fun i=>(H[i]?).bind fun o=>(iZ o).bind fun xs=>gd (small xs) (some (i,xs))
noncomputable def oJ (H:Hp) (m:FH) (x:V) (vs:List V):Option (V×Hp):=(MH H x).bind fun q=>match m with
 |.append=>(nJ vs).bind fun v=>some (.none,H.set q.1 (.lst (q.2++[v])))
 |.extend=>(nJ vs).bind fun v=>(iZ v).bind fun ys=>gd (decide (q.2.length+ys.length≤Ab)) (some (.none,H.set q.1 (.lst (q.2++ys))))
 |.popLast=>gd vs.isEmpty ((q.2[q.2.length-1]?).bind fun v=>some (v,H.set q.1 (.lst (q.2.eraseIdx (q.2.length-1)))))
 |.popAt=>(nJ vs).bind fun v=>(intOf v).bind fun k=>gd (decide (0≤k)) ((q.2[k.toNat]?).bind fun v=>some (v,H.set q.1 (.lst (q.2.eraseIdx k.toNat))))
noncomputable def wV (e:Bool) (ks vs:List V) (k z:V):V:=if k∈ks then .dct e ks (Tu ks vs k z) else .dct e (ks++[k]) (vs++[z])
noncomputable def Db:V→Bool
 |.dct e _ _=>e
 |_=>false
noncomputable def jU (H:Hp) (z x k:V):Option Hp:=(refOf x).bind fun i=>(H[i]?).bind fun o=>match oG o with
 |some q=>gd (fA q.1 k) (gd (small q.1) (some (H.set i (wV (Db o) q.1 q.2 k z))))
 |none=>(iZ o).bind fun xs=>(intOf k).bind fun k=>gd (PK k xs.length) (some (H.set i (.lst (xs.set k.toNat z))))
noncomputable def MI (H:Hp) (x:V):Option (Nat×Bool×List V×List V):=(refOf x).bind fun i=>(H[i]?).bind fun o=>(oG o).bind fun q=>gd (small q.1) (some (i,Db o,q))
noncomputable def kJ (H:Hp) (x k z:V):Option (V×Hp):=(MI H x).bind fun q=>gd (fA q.2.2.1 k) (match dfind q.2.2.1 q.2.2.2 k with
 |some v=>some (v,H)
 |none=>some (z,H.set q.1 (.dct q.2.1 (q.2.2.1++[k]) (q.2.2.2++[z]))))
noncomputable def Jt (v:V):Option (Str×Int):=(hZ v).bind fun xs=>(Da xs).bind fun q=>(strOf q.1).bind fun s=>(intOf q.2).bind fun i=>some (s,i)
noncomputable def Tw (x y:V):Bool:=match Jt x with
 |some p=>(match Jt y with
  |some q=>if p.1=q.1 then decide (p.2<q.2) else gN p.1 q.1
  |none=>false)
 |none=>false
noncomputable def kK (v:V):Bool:=(Jt v).isSome
noncomputable def mC {α:Type}(ans:Nat→Nat→Bool):PySem.W.KasT α→α
 |.ret a=>a
 |.ask i j k=>mC ans (k (ans i j))
noncomputable def Ar (xs:List V):List Nat:=(mC (fun i j=>Tw (xs.getD i .none) (xs.getD j .none)) (PySem.W.kas_sort xs.length)).toList
noncomputable def Ju (x:Str):List Str→List Str
 |[]=>[x]
 |y::ys=>if gN y x then y::Ju x ys else x::y::ys
noncomputable def oN:List Str→List Str
 |[]=>[]
 |x::xs=>Ju x (oN xs)
noncomputable def uR (xs:List V):Option (List V):=gd (decide (xs.length<64)) (match fF strOf xs with
  |some ss=>some ((oN ss).map V.str)
  |none=>gd (xs.all kK) (if xs.length<2 then some xs else some ((Ar xs).map fun i=>xs.getD i .none)))
noncomputable def jK (n:Int):List V:=(List.range n.toNat).map fun (k:Nat)=>V.int (k:Int)
noncomputable def kW:List Nat→List V→Loc→Option Loc
 |[],vs,ρ=>gd vs.isEmpty (some ρ)
 |i::is,vs,ρ=>(match vs with
  |[]=>none
  |v::vs=>gd (decide (i<ρ.length)) (kW is vs (ρ.set i (some v))))
noncomputable def qR (t:T) (v:V) (ρ:Loc):Option Loc:=match t with
 |.slot i=>gd (decide (i<ρ.length)) (some (ρ.set i (some v)))
 |.tup is=>(hZ v).bind fun vs=>kW is vs ρ
noncomputable def gP:V→Option Nat
 |.ref i=>some i
 |_=>none
noncomputable def same (H H0:Hp):Option Nat→Bool
 |none=>true
 |some i=>decide (H[i]? = H0[i]?)
noncomputable def rV {R:Type}(f:V→Hp→(Option V→Hp→Option R)→Option R) (G:Option Nat) (H0:Hp):List V→List V→Hp→(List V→Hp→Option R)→Option R
 |[],ds,H,K=>gd (same H H0 G) (gd (small ds) (K ds H))
 |x::xs,ds,H,K=>gd (same H H0 G) (gd (small ds) (f x H fun o H1=>rV f G H0 xs (ds++o.toList) H1 K))
noncomputable def wW {R:Type}(t:T) (ρ:Loc) (ei ee:Loc→Hp→(V→Hp→Option R)→Option R) (x:V) (H:Hp) (K:Option V→Hp→Option R):Option R:=
 (qR t x ρ).bind fun ρ'=>ei ρ' H fun b H1=>(fL H1 b).bind fun q=>br q (ee ρ' H1 fun v H2=>K (some v) H2) (K none H1)
noncomputable def gJ {R:Type}(t:T) (e:Loc→Hp→(Loc→Hp→Option R)→Option R) (x:V) (ρ:Loc) (H:Hp) (K:Loc→Hp→Option R):Option R:=(qR t x ρ).bind fun ρ'=>e ρ' H K
noncomputable def rA {R:Type}(step:V→Loc→Hp→(Loc→Hp→Option R)→Option R) (G:Option Nat) (H0:Hp):List V→Loc→Hp→(Loc→Hp→Option R)→Option R
 |[],ρ,H,K=>gd (same H H0 G) (K ρ H)
 |x::xs,ρ,H,K=>gd (same H H0 G) (step x ρ H fun ρ' H'=>rA step G H0 xs ρ' H' K)
noncomputable def rB {R:Type}(test:Loc→Hp→(Bool→Hp→Option R)→Option R) (body:Loc→Hp→(Loc→Hp→Option R)→Option R):Nat→Loc→Hp→(Loc→Hp→Option R)→Option R
 |0,_,_,_=>none
 |k+1,ρ,H,K=>test ρ H fun b H1=>br b (body ρ H1 fun ρ' H'=>rB test body k ρ' H' K) (K ρ H1)
noncomputable def Tx (H:Hp):V→Option (List V)
 |.str s=>some (s.cps.toList.map fun c=>.str ⟨#[c]⟩)
 |.dct _ ks _=>some ks
 |.ref i=>(H[i]?).bind fun o=>(match Db o with
  |true=>(oG o).bind fun q=>some q.1
  |false=>iZ o)
 |v=>v.items H
noncomputable def As:Nat→List V→List V
 |_,[]=>[]
 |k,x::xs=>.tup [.int k,x]::As (k+1) xs
noncomputable def nK (md:Md) (H:Hp) (v:V):Option (List V):=match md with
 |.rng=>(intOf v).bind fun n=>gd (decide (-1000000<n∧n<1000000)) (some (jK n))
 |.plain=>Tx H v
 |.enum=>(eC H v).bind fun xs=>gd (small xs) (some (As 0 xs))
noncomputable def Jv (v:V):Option (V×V):=(hZ v).bind fun xs=>(Da xs).bind fun q=>(strOf q.1).bind fun _=>some q
noncomputable def dictFrom (H:Hp) (v:V):Option V:=(v.items H).bind fun xs=>(fF Jv xs).bind fun ps=>gd (decide ((ps.map (·.1)).Nodup∧ps.length≤64)) (some (.dct false (ps.map (·.1)) (ps.map (·.2))))
noncomputable def kD (v:V):Option Nat:=(intOf v).bind fun k=>gd (decide (0≤k)) (some k.toNat)
noncomputable def Px (xs:List V) (l h:V):Option (List V):=gd (small xs) (match isNone l with
 |true=>(kD h).bind fun k=>some (xs.take k)
 |false=>(kD l).bind fun j=>(match isNone h with
  |true=>some (xs.drop j)
  |false=>(kD h).bind fun k=>gd (decide (j≤k)) (some ((xs.drop j).take (k-j)))))
noncomputable def lU (H:Hp) (v l h:V):Option V:=match v with
 |.tup xs=>gd (small xs) (match isNone l with
  |true=>(kD h).bind fun k=>gd (decide (k<xs.length)) (some (.tup (xs.take k)))
  |false=>(kD l).bind fun j=>gd (isNone h&&decide (1≤j∧j≤xs.length)) (some (.tup (xs.drop j))))
 |v=>(eC H v).bind fun xs=>(Px xs l h).bind fun ys=>some (.lst ys)
noncomputable def nL (H:Hp) (v:V):Bool:=((refOf v).bind fun i=>(H[i]?).bind iZ).isSome
noncomputable def rW (H:Hp) (v:V):Bool:=((refOf v).bind fun i=>(H[i]?).bind oG).isSome
noncomputable def Mz (H:Hp) (x:V) (vs:List V):Option (V×Hp):=(refOf x).bind fun i=>(H[i]?).bind fun o=>(oG o).bind fun q=>(nJ vs).bind fun k=>(intOf k).bind fun _=>gd (!Db o) (gd (fA q.1 k) (gd (small q.1) ((dfind q.1 q.2 k).bind fun v=>some (v,H.set i (.dct false (q.1.eraseIdx (q.1.idxOf k)) (q.2.eraseIdx (q.1.idxOf k)))))))
structure Ctx where
 F:Nat→List V→Hp→Option (V×Bool×Hp)
 fuel:Nat
noncomputable def dI (c:Ctx) {R:Type}:E→Loc→Hp→(V→Hp→Option R)→Option R
 |.var i,ρ,H,K=>(ρ[i]?).bind fun o=>o.bind fun v=>K v H
 |.const v,_,H,K=>K v H
 |.bin op a b,ρ,H,K=>dI c a ρ H fun x H1=>dI c b ρ H1 fun y H2=>(Cz H2 op x y).bind fun v=>K v H2
 |.not a,ρ,H,K=>dI c a ρ H fun x H1=>(fL H1 x).bind fun b=>K (.bool (!b)) H1
 |.and a b,ρ,H,K=>dI c a ρ H fun x H1=>(fL H1 x).bind fun t=>br t (dI c b ρ H1 K) (K x H1)
 |.or a b,ρ,H,K=>dI c a ρ H fun x H1=>(fL H1 x).bind fun t=>br t (K x H1) (dI c b ρ H1 K)
 |.cmp op a b,ρ,H,K=>dI c a ρ H fun x H1=>dI c b ρ H1 fun y H2=>(fV H2 op x y).bind fun r=>K (.bool r) H2
 |.cmp2 o1 o2 a b d,ρ,H,K=>dI c a ρ H fun x H1=>dI c b ρ H1 fun y H2=>(fV H2 o1 x y).bind fun r=>br r (dI c d ρ H2 fun z H3=>(fV H3 o2 y z).bind fun r=>K (.bool r) H3) (K (.bool false) H2)
 |.ite b t e,ρ,H,K=>dI c b ρ H fun x H1=>(fL H1 x).bind fun q=>br q (dI c t ρ H1 K) (dI c e ρ H1 K)
 |.nil,_,H,K=>K (.tup []) H
 |.cons a b,ρ,H,K=>dI c a ρ H fun x H1=>dI c b ρ H1 fun y H2=>(hZ y).bind fun ys=>K (.tup (x::ys)) H2
 |.sub a i,ρ,H,K=>dI c a ρ H fun x H1=>dI c i ρ H1 fun y H2=>(fH H2 x y).bind fun v=>K v H2
 |.call f args,ρ,H,K=>dI c args ρ H fun x H1=>(hZ x).bind fun vs=>(c.F f vs H1).bind fun r=>K r.1 r.2.2
 |.prim p args,ρ,H,K=>dI c args ρ H fun x H1=>(hZ x).bind fun vs=>(dS H1 p vs).bind fun v=>K v H1
 |.eff m o args,ρ,H,K=>dI c o ρ H fun x H1=>gd (nL H1 x) (dI c args ρ H1 fun y H2=>(hZ y).bind fun vs=>(oJ H2 m x vs).bind fun r=>K r.1 r.2)
 |.box l,ρ,H,K=>dI c l ρ H fun o H1=>K (.ref H1.length) (H1++[o])
 |.disp es,ρ,H,K=>dI c es ρ H fun x H1=>(hZ x).bind fun vs=>K (.lst vs) H1
 |.comp t md it ifs elt,ρ,H,K=>dI c it ρ H fun v H1=>(nK md H1 v).bind fun xs=>rV (wW t ρ (fun ρ H K=>dI c ifs ρ H K) fun ρ H K=>dI c elt ρ H K) (gP v) H1 xs [] H1 fun vs H2=>K (.lst vs) H2
 |.listOf e,ρ,H,K=>dI c e ρ H fun v H1=>(v.items H1).bind fun xs=>gd (small xs) (K (.lst xs) H1)
 |.sorted e,ρ,H,K=>dI c e ρ H fun v H1=>(eC H1 v).bind fun xs=>(uR xs).bind fun ys=>K (.lst ys) H1
 |.slice a lo hi,ρ,H,K=>dI c a ρ H fun v H1=>dI c lo ρ H1 fun l H2=>dI c hi ρ H2 fun h H3=>(lU H3 v l h).bind fun y=>K y H3
 |.cat a b,ρ,H,K=>dI c a ρ H fun x H1=>dI c b ρ H1 fun y H2=>(eC H2 x).bind fun xs=>(eC H2 y).bind fun ys=>gd (decide (xs.length+ys.length≤Ab)) (K (.lst (xs++ys)) H2)
 |.dpop o args,ρ,H,K=>dI c o ρ H fun x H1=>gd (rW H1 x) (dI c args ρ H1 fun y H2=>(hZ y).bind fun vs=>(Mz H2 x vs).bind fun r=>K r.1 r.2)
 |.last a,ρ,H,K=>dI c a ρ H fun v H1=>(eC H1 v).bind fun xs=>gd (small xs) ((xs[xs.length-1]?).bind fun u=>K u H1)
 |.callB f args,ρ,H,K=>dI c args ρ H fun x H1=>(hZ x).bind fun vs=>(c.F f vs H1).bind fun r=>br r.2.1 (K (.ref r.2.2.length) (r.2.2++[r.1])) (K r.1 r.2.2)
 |.setDef o args,ρ,H,K=>dI c o ρ H fun x H1=>gd (rW H1 x) (dI c args ρ H1 fun y H2=>(hZ y).bind fun vs=>(Da vs).bind fun q=>(kJ H2 x q.1 q.2).bind fun r=>K r.1 r.2)
 |.dict0 e,_,H,K=>K (.dct e [] []) H
 |.dict1 k v,ρ,H,K=>dI c k ρ H fun x H1=>dI c v ρ H1 fun y H2=>gd (fA [] x) (K (.dct false [x] [y]) H2)
 |.dictOf e,ρ,H,K=>dI c e ρ H fun v H1=>(dictFrom H1 v).bind fun d=>K d H1
noncomputable def dG (c:Ctx) {R:Type}:S→Loc→Hp→(Loc→Hp→Option R)→(V→Hp→Option R)→Option R
 |.skip,ρ,H,K,_=>K ρ H
 |.seq a b,ρ,H,K,L=>dG c a ρ H (fun ρ' H'=>dG c b ρ' H' K L) L
 |.assign t e,ρ,H,K,_=>dI c e ρ H fun v H1=>(qR t v ρ).bind fun ρ'=>K ρ' H1
 |.expr e,ρ,H,K,_=>dI c e ρ H fun _ H1=>K ρ H1
 |.setItem e a i,ρ,H,K,_=>dI c e ρ H fun v H1=>dI c a ρ H1 fun x H2=>dI c i ρ H2 fun y H3=>(jU H3 v x y).bind fun H4=>K ρ H4
 |.iff b t e,ρ,H,K,L=>dI c b ρ H fun x H1=>(fL H1 x).bind fun q=>br q (dG c t ρ H1 K L) (dG c e ρ H1 K L)
 |.forr t md it body,ρ,H,K,L=>dI c it ρ H fun v H1=>(nK md H1 v).bind fun xs=>rA (gJ t fun ρ H K=>dG c body ρ H K L) (gP v) H1 xs ρ H1 K
 |.whil b body,ρ,H,K,L=>rB (fun ρ H K=>dI c b ρ H fun x H1=>(fL H1 x).bind fun q=>K q H1) (fun ρ H K=>dG c body ρ H K L) c.fuel ρ H K
 |.ret e,ρ,H,_,L=>dI c e ρ H L
 |.stuck,_,_,_,_=>none
mutual
noncomputable def V.ok (n:Nat):V→Bool
 |.tup xs=>V.oks n xs
 |.lst xs=>V.oks n xs
 |.dct _ ks vs=>V.oks n ks&&V.oks n vs
 |.ref i=>decide (i<n)
 |_=>true
noncomputable def V.oks (n:Nat):List V→Bool
 |[]=>true
 |x::xs=>V.ok n x&&V.oks n xs
end
noncomputable def mD (H:Hp) (n:Nat):Nat→V→Option V
 |0,v=>gd (v.ok n) (some v)
 |k+1,v=>(match v.ok n with
  |true=>some v
  |false=>(match v with
   |.tup xs=>(fF (mD H n k) xs).map .tup
   |.dct _ _ _=>none
   |.ref i=>(H[i]?).bind fun o=>(match oG o with
    |some q=>gd (V.oks n q.1) ((fF (mD H n k) q.2).map (V.dct (Db o) q.1))
    |none=>(iZ o).bind fun xs=>(fF (mD H n k) xs).map .lst)
   |v=>(iZ v).bind fun xs=>(fF (mD H n k) xs).map .lst))
noncomputable def rX (n:Nat):Hp→Hp→Bool
 |[],_=>true
 |o::H,H'=>(match H' with
  |[]=>false
  |o'::H'=>(decide (o'=o)||o'.ok n)&&rX n H H')
noncomputable def mE (H1:Hp) (n:Nat) (v:V):Bool:=match refOf v with
 |some i=>decide (n≤i)&&(match H1[i]? with
  |some o=>(iZ o).isSome&&o.ok n
  |none=>false)
 |none=>false
noncomputable def finish (H H1:Hp) (v:V):Option (V×Bool×Hp):=
 (mD H1 H.length 6 v).bind fun v'=>gd (rX H.length H H1) (some (v',mE H1 H.length v,H1.take H.length))
structure Fn where
 np:Nat
 ns:Nat
 body:S
noncomputable def F (P:Nat→Option Fn) (fuel:Nat):Nat→Nat→List V→Hp→Option (V×Bool×Hp)
 |0,_,_,_=>none
 |k+1,n,args,H=>(P n).bind fun f=>gd (args.length == f.np) (dG ⟨F P fuel k,fuel⟩ f.body (args.map some++List.replicate f.ns none) H (fun _ H1=>finish H H1 .none) fun v H1=>finish H H1 v)
end
set_option genSizeOf false
set_option genInjectivity false
noncomputable def Fk (a b:Str):Prop:=a.cps.toList≤b.cps.toList
theorem At {a b c:Str}(h:Fk a b) (h':Fk b c):Fk a c:=List.le_trans h h'
theorem Py (a b:Str):Fk a b∨Fk b a:=List.le_total _ _
theorem rY {a b:Str}(h:Fk a b) (h':Fk b a):a=b:=by
 have:=List.le_antisymm h h'
 obtain ⟨⟨x⟩⟩:=a
 obtain ⟨⟨y⟩⟩:=b
 simp only at this
 subst this
 rfl
theorem mF {a b:Str}:gN a b=false↔Fk b a:=by
 unfold gN Fk
 exact ri decide_eq_false_iff_not (ri List.not_lt Iff.rfl)
theorem Tz {a b:Str}(h:Fk a b) (hn:a≠b):gN a b=true:=by
 cases q:gN a b with
 |true=>rfl
 |false=>exact absurd (rY h (mF.mp q)) hn
theorem Au {a b:Str}(h:gN a b=true):Fk a b:=by
 rcases Py a b with q | q
 ·exact q
 ·rw [mF.mpr q] at h;exact fT h
theorem tQ (x:Str):∀ys,(Ju x ys).Perm (x::ys)
 |[]=>.refl _
 |y::ys=>by
  simp only [Ju]
  split
  ·exact ((tQ x ys).cons y).trans (.swap x y ys)
  ·exact .refl _
theorem rC:∀xs,(oN xs).Perm xs
 |[]=>.refl _
 |x::xs=>(tQ x _).trans ((rC xs).cons x)
theorem uS (x:Str):∀{ys},ys.Pairwise Fk→(Ju x ys).Pairwise Fk
 |[],_=>by simp [Ju]
 |y::ys,h=>by
  simp only [Ju]
  rw [List.pairwise_cons] at h
  split
  ·rename_i hlt
   refine ri List.pairwise_cons ?_
   refine ⟨fun z hz=>?_,uS x h.2⟩
   rcases aZ.mp ((tQ x ys).mem_iff.mp hz) with rfl | q
   ·exact Au hlt
   ·exact h.1 z q
  ·rename_i hlt
   have hxy:Fk x y:=mF.mp (by simpa using hlt)
   refine ri List.pairwise_cons (ri List.pairwise_cons ?_)
   refine ⟨fun z hz=>?_,h⟩
   rcases aZ.mp hz with rfl | q
   ·exact hxy
   ·exact At hxy (h.1 z q)
theorem nM:∀xs,(oN xs).Pairwise Fk
 |[]=>.nil
 |x::xs=>uS x (nM xs)
theorem Dc {xs ys:List Str}(hp:ys.Perm xs) (hs:ys.Pairwise Fk):ys=oN xs:=
 List.Perm.eq_of_pairwise (fun _ _ _ _ h h'=>rY h h') hs (nM xs) (hp.trans (rC xs).symm)
section
open PySem PySem.W PyProof.Rows
noncomputable def zZ {α:Type}(n:Nat) (R:α→Prop):KasT α→Prop
 |.ret a=>R a
 |.ask i j k=>i<n∧j<n∧∀b,zZ n R (k b)
theorem zZ.bind {α β:Type}{n:Nat}{R:α→Prop}{R':β→Prop}{f:α→KasT β}(hf:∀a,R a→zZ n R' (f a)):∀{t:KasT α},zZ n R t→zZ n R' (t.bind f)
 |.ret a,h=>hf a h
 |.ask i j k,h=>⟨h.1,h.2.1,fun b=>zZ.bind hf (h.2.2 b)⟩
noncomputable def PR (n:Nat) (p:Array Nat):Prop:=p.Perm (List.range n).toArray
theorem PR.lt {n:Nat}{p:Array Nat}(h:PR n p) (hn:0<n) (i:Nat):p.getD i 0<n:=by
 unfold Array.getD
 split
 ·rename_i hi
  have:=(Array.perm_iff_toList_perm.mp h).mem_iff (a:=p[i]) |>.mp (by simp)
  simpa using this
 ·exact hn
theorem PR.rev {n:Nat}{p:Array Nat}(h:PR n p) (i j:Nat):PR n (kas_rev p i j):=(mirror_perm _ _ _ _).trans h
theorem PR.bubble {n:Nat}{p:Array Nat}(h:PR n p) (i j:Nat):PR n (bubble p i j):=(bubble_perm _ _ _).trans h
theorem Dd {n:Nat}{p:Array Nat}(h:PR n p) (hn:0<n):∀(f k:Nat),zZ n (fun _=>True) (kas_asc p f k)
 |0,_=>trivial
 |f+1,k=>⟨h.lt hn _,h.lt hn _,fun b=>by cases b <;> first | exact trivial | exact Dd h hn f (k+1)⟩
theorem rZ {n:Nat}(hn:0<n):∀(f:Nat) (p:Array Nat) (k q:Nat),PR n p→zZ n (fun r:Array Nat×Nat×Nat=>PR n r.1) (kas_desc f p k q)
 |0,p,_,_,h=>h
 |f+1,p,k,q,h=>⟨h.lt hn _,h.lt hn _,fun b=>by
   cases b
   ·exact ⟨h.lt hn _,h.lt hn _,fun d=>by
     cases d
     ·exact rZ hn f p (k+1) (q+1) h
     ·exact h⟩
   ·show zZ n _ (if q>0 then _ else _)
    split
    ·exact rZ hn f _ (k+1) 0 (h.rev _ _)
    ·exact rZ hn f _ (k+1) 0 h⟩
theorem Av {n:Nat}(hn:0<n) {a b:Nat}{p:Array Nat}(h:PR n p):zZ n (fun r:Nat×Array Nat=>PR n r.2) (kas_tail3 a b p):=by
 refine zZ.bind (R:=fun _=>True) (fun _ _=>?_) (Dd (h.rev _ _) hn _ _)
 exact h.rev _ _
theorem sA {n:Nat}(hn:0<n) {a b:Nat}{p:Array Nat}(h:PR n p):zZ n (fun r:Nat×Array Nat=>PR n r.2) (kas_descPart a b p):=by
 refine zZ.bind (fun r hr=>?_) (rZ hn _ _ _ _ h)
 split
 ·exact Av hn (hr.rev _ _)
 ·exact Av hn hr
theorem Pz {n:Nat}(hn:0<n) {b:Nat}{p:Array Nat}(h:PR n p):zZ n (fun r:Nat×Array Nat=>PR n r.2) (kas_count b p):=by
 refine zZ.bind (fun r _=>?_) (Dd h hn _ _)
 split
 ·exact h
 ·split
  ·exact ⟨h.lt hn _,h.lt hn _,fun c=>by
    cases c
    ·exact sA hn (h.rev _ _)
    ·exact h⟩
  ·exact sA hn h
theorem Aw {n:Nat}(hn:0<n) {p:Array Nat}(h:PR n p) (k:Nat):∀(f l r:Nat),zZ n (fun _=>True) (kas_place p k f l r)
 |0,_,_=>trivial
 |f+1,l,r=>by
  unfold kas_place
  split
  ·exact trivial
  ·exact ⟨h.lt hn _,h.lt hn _,fun c=>by cases c <;> exact Aw hn h k f _ _⟩
theorem Na {n:Nat}(hn:0<n):∀(f:Nat) (p:Array Nat) (k:Nat),PR n p→zZ n (PR n) (kas_bin f p k)
 |0,_,_,h=>h
 |f+1,p,k,h=>zZ.bind (fun _ _=>Na hn f _ _ (h.bubble _ _)) (Aw hn h _ _ _ _)
theorem Fo {n:Nat}(hn:0<n):zZ n (PR n) (kas_sort n):=by
 refine zZ.bind (fun r hr=>?_) (Pz hn (Array.Perm.refl _))
 split
 ·exact Na hn _ _ _ hr
 ·exact hr
theorem Fp {α:Type}{s:Shared}{n:Nat}{R:α→Prop}{cmp:Nat→Nat→(Bool→Shared→Prop)→Shared→Prop}{ans:Nat→Nat→Bool}(hask:∀i j tk (C:Bool→Shared→Prop),i<n→j<n→(∀tk',C (ans i j) { s with toks:=tk' })→cmp i j C { s with toks:=tk }) :
  ∀(t:KasT α) (tk:Nat) (Q:α→Shared→Prop),zZ n R t→(∀tk',Q (mC ans t) { s with toks:=tk' })→t.kasWp cmp Q { s with toks:=tk }
 |.ret a,tk,Q,_,h=>h tk
 |.ask i j k,tk,Q,hb,h=>by
  show cmp i j (fun b s'=>(k b).kasWp cmp Q s') _
  exact hask i j tk _ hb.1 hb.2.1 fun tk'=>Fp hask (k (ans i j)) tk' Q (hb.2.2 _) h
end
structure Glob where
 fn:List (Str×Nat)
 gc:List (Str×V)
 bn:List Str
 bx:Pos→Bool
 rx:Pos→Bool
noncomputable def Ua:Const→Option V
 |.none=>some .none
 |.bool b=>some (.bool b)
 |.int i=>some (.int i)
 |.str s=>some (.str s)
 |_=>none
noncomputable def iB (ns:List Str) (x:Str):Option Nat:=ns.findIdx? (· == x)
noncomputable def fS (x:Str):Bool:=!(x == ("__debug__":Str))&&!(x == ("__classdict__":Str))
noncomputable def eW (sc:Scope) (x:Str):Bool:=sc.names.lookup x == some .globalImplicit&&fS x
noncomputable def sB (sc:Scope) (x:Str):Bool:=(sc.names.lookup x == some .local||sc.names.lookup x == some .cell)&&fS x
noncomputable def wX (sc:Scope) (x:Str):Bool:=sB sc x||(sc.names.lookup x == some .free&&fS x)
noncomputable abbrev Vw {α β:Type}(c:α→β) (e:β):Type:={q:α // e=c q}
noncomputable def dO {p:Prop}[Decidable p] {α:Type}(f:p→Option α):Option α:=if h:p then f h else none
noncomputable abbrev Ub (q:Const×Nat×Pos):Expr:=.Constant q.1 q.2.1 q.2.2
noncomputable abbrev FI (q:Str×Pos):Expr:=.Name q.1 q.2
noncomputable abbrev MJ (q:Expr×Operator×Expr×Pos):Expr:=.BinOp q.1 q.2.1 q.2.2.1 q.2.2.2
noncomputable abbrev RZ (q:UnaryOp×Expr×Pos):Expr:=.UnaryOp q.1 q.2.1 q.2.2
noncomputable abbrev FJ (q:BoolOp×List Expr×Pos):Expr:=.BoolOp q.1 q.2.1 q.2.2
noncomputable abbrev MK (q:Expr×List CmpOp×List Expr×Pos):Expr:=.Compare q.1 q.2.1 q.2.2.1 q.2.2.2
noncomputable abbrev ML (q:Expr×Expr×Expr×Pos):Expr:=.IfExp q.1 q.2.1 q.2.2.1 q.2.2.2
noncomputable abbrev FK (q:List (Option Expr)×List Expr×Pos):Expr:=.Dict q.1 q.2.1 q.2.2
noncomputable abbrev MM (q:List Expr×Nat×Pos):Expr:=.Tuple q.1 q.2.1 q.2.2
noncomputable abbrev FL (q:List Expr×Pos):Expr:=.List q.1 q.2
noncomputable abbrev MN (q:Expr×Expr×Pos):Expr:=.Subscript q.1 q.2.1 q.2.2
noncomputable abbrev FM (q:Expr×List Comprehension×Scope×Pos):Expr:=.ListComp q.1 q.2.1 q.2.2.1 q.2.2.2
noncomputable abbrev FN (q:Expr×List Expr×List Keyword×Pos):Expr:=.Call q.1 q.2.1 q.2.2.1 q.2.2.2
noncomputable abbrev FO (q:Expr×Str×Pos):Expr:=.Attribute q.1 q.2.1 q.2.2
noncomputable abbrev Uc (q:Option Expr×Option Expr×Option Expr×Pos):Expr:=.Slice q.1 q.2.1 q.2.2.1 q.2.2.2
noncomputable def wY (e:Expr):Option (Vw Ub e):=dO fun h:e.ctorIdx=19=>Expr.Constant.elim (motive_1:=fun e=>Option (Vw Ub e)) e h fun a b c=>some ⟨(a,b,c),rfl⟩
noncomputable def uT (e:Expr):Option (Vw FI e):=dO fun h:e.ctorIdx=23=>Expr.Name.elim (motive_1:=fun e=>Option (Vw FI e)) e h fun a b=>some ⟨(a,b),rfl⟩
noncomputable def MO (e:Expr):Option (Vw MJ e):=dO fun h:e.ctorIdx=2=>Expr.BinOp.elim (motive_1:=fun e=>Option (Vw MJ e)) e h fun a b c d=>some ⟨(a,b,c,d),rfl⟩
noncomputable def QD (e:Expr):Option (Vw RZ e):=dO fun h:e.ctorIdx=3=>Expr.UnaryOp.elim (motive_1:=fun e=>Option (Vw RZ e)) e h fun a b c=>some ⟨(a,b,c),rfl⟩
noncomputable def vBool (e:Expr):Option (Vw FJ e):=dO fun h:e.ctorIdx=0=>Expr.BoolOp.elim (motive_1:=fun e=>Option (Vw FJ e)) e h fun a b c=>some ⟨(a,b,c),rfl⟩
noncomputable def MP (e:Expr):Option (Vw MK e):=dO fun h:e.ctorIdx=15=>Expr.Compare.elim (motive_1:=fun e=>Option (Vw MK e)) e h fun a b c d=>some ⟨(a,b,c,d),rfl⟩
noncomputable def QE (e:Expr):Option (Vw ML e):=dO fun h:e.ctorIdx=5=>Expr.IfExp.elim (motive_1:=fun e=>Option (Vw ML e)) e h fun a b c d=>some ⟨(a,b,c,d),rfl⟩
noncomputable def FP (e:Expr):Option (Vw FK e):=dO fun h:e.ctorIdx=6=>Expr.Dict.elim (motive_1:=fun e=>Option (Vw FK e)) e h fun a b c=>some ⟨(a,b,c),rfl⟩
noncomputable def HZ (e:Expr):Option (Vw MM e):=dO fun h:e.ctorIdx=25=>Expr.Tuple.elim (motive_1:=fun e=>Option (Vw MM e)) e h fun a b c=>some ⟨(a,b,c),rfl⟩
noncomputable def MQ (e:Expr):Option (Vw FL e):=dO fun h:e.ctorIdx=24=>Expr.List.elim (motive_1:=fun e=>Option (Vw FL e)) e h fun a b=>some ⟨(a,b),rfl⟩
noncomputable def AS (e:Expr):Option (Vw MN e):=dO fun h:e.ctorIdx=21=>Expr.Subscript.elim (motive_1:=fun e=>Option (Vw MN e)) e h fun a b c=>some ⟨(a,b,c),rfl⟩
noncomputable def FQ (e:Expr):Option (Vw FM e):=dO fun h:e.ctorIdx=8=>Expr.ListComp.elim (motive_1:=fun e=>Option (Vw FM e)) e h fun a b c d=>some ⟨(a,b,c,d),rfl⟩
noncomputable def Fq (e:Expr):Option (Vw FN e):=dO fun h:e.ctorIdx=16=>Expr.Call.elim (motive_1:=fun e=>Option (Vw FN e)) e h fun a b c d=>some ⟨(a,b,c,d),rfl⟩
noncomputable def MR (e:Expr):Option (Vw FO e):=dO fun h:e.ctorIdx=20=>Expr.Attribute.elim (motive_1:=fun e=>Option (Vw FO e)) e h fun a b c=>some ⟨(a,b,c),rfl⟩
noncomputable def IA (e:Expr):Option (Vw Uc e):=dO fun h:e.ctorIdx=26=>Expr.Slice.elim (motive_1:=fun e=>Option (Vw Uc e)) e h fun a b c d=>some ⟨(a,b,c,d),rfl⟩
noncomputable abbrev Nb (q:List Expr×Expr×Pos):Stmt:=.Assign q.1 q.2.1 q.2.2
noncomputable abbrev FS (q:Expr×Pos):Stmt:=.Expr q.1 q.2
noncomputable abbrev SA (q:Expr×List Stmt×List Stmt×Pos):Stmt:=.If q.1 q.2.1 q.2.2.1 q.2.2.2
noncomputable abbrev MS (q:Expr×Expr×List Stmt×List Stmt×Pos):Stmt:=.For q.1 q.2.1 q.2.2.1 q.2.2.2.1 q.2.2.2.2
noncomputable abbrev Ud (q:Expr×List Stmt×List Stmt×Pos):Stmt:=.While q.1 q.2.1 q.2.2.1 q.2.2.2
noncomputable abbrev Nc (q:Option Expr×Pos):Stmt:=.Return q.1 q.2
noncomputable def vS (s:Stmt):Option (Vw Nb s):=dO fun h:s.ctorIdx=5=>Stmt.Assign.elim (motive_2:=fun s=>Option (Vw Nb s)) s h fun a b c=>some ⟨(a,b,c),rfl⟩
noncomputable def MT (s:Stmt):Option (Vw FS s):=dO fun h:s.ctorIdx=24=>Stmt.Expr.elim (motive_2:=fun s=>Option (Vw FS s)) s h fun a b=>some ⟨(a,b),rfl⟩
noncomputable def VI (s:Stmt):Option (Vw SA s):=dO fun h:s.ctorIdx=12=>Stmt.If.elim (motive_2:=fun s=>Option (Vw SA s)) s h fun a b c d=>some ⟨(a,b,c,d),rfl⟩
noncomputable def QF (s:Stmt):Option (Vw MS s):=dO fun h:s.ctorIdx=9=>Stmt.For.elim (motive_2:=fun s=>Option (Vw MS s)) s h fun a b c d e=>some ⟨(a,b,c,d,e),rfl⟩
noncomputable def IB (s:Stmt):Option (Vw Ud s):=dO fun h:s.ctorIdx=11=>Stmt.While.elim (motive_2:=fun s=>Option (Vw Ud s)) s h fun a b c d=>some ⟨(a,b,c,d),rfl⟩
noncomputable def AT (s:Stmt):Option (Vw Nc s):=dO fun h:s.ctorIdx=3=>Stmt.Return.elim (motive_2:=fun s=>Option (Vw Nc s)) s h fun a b=>some ⟨(a,b),rfl⟩
noncomputable def AU (s:Stmt):Bool:=s.ctorIdx == 16
noncomputable def oK {α:Type}:(l:List α)→Option (Vw (fun a:α=>[a]) l)
 |[]=>none
 |a::l=>(match l with
  |[]=>some ⟨a,rfl⟩
  |_::_=>none)
noncomputable def AV {α:Type}:(l:List α)→Option (Vw (fun q:α×α=>[q.1,q.2]) l)
 |[]=>none
 |a::l=>(oK l).map fun b=>⟨(a,b.1),aQ (a::·) b.2⟩
noncomputable def Jw {α:Type}:(l:List α)→Option (PLift (l=[]))
 |[]=>some ⟨rfl⟩
 |_::_=>none
noncomputable def Ue (e:Expr):Option Str:=(uT e).map (·.1.1)
noncomputable def Qa (e:Expr):Option (List Expr):=(HZ e).map (·.1.1)
noncomputable def MU (x:Str):Option Ty:=if x == ("int":Str) then some .int else if x == ("bool":Str) then some .bool else if x == ("str":Str) then some .str
   else if x == ("tuple":Str) then some .tuple else if x == ("list":Str) then some .list else none
noncomputable def Tm (ns:List Str) (sc:Scope) (e:Expr):Option Nat:=(Ue e).bind fun x=>gd (sB sc x) (iB ns x)
noncomputable def Fl (ns:List Str) (sc:Scope) (e:Expr):Option T:=match Qa e with
 |some es=>(fF (Tm ns sc) es).map .tup
 |none=>(Tm ns sc e).map .slot
noncomputable def De (e:Expr):List Str:=(Ue e).toList
noncomputable def sC (e:Expr):List Str:=match Qa e with
 |some es=>es.flatMap De
 |none=>De e
noncomputable def Jx (ns:List Str) (sc csc:Scope) (t:Expr):Bool:=
 csc.kind == .function&&(iB ns (".0":Str)).isNone&&csc.names.all fun y=>
  !(y.2 == .cell)&&(!(y.2 == .local)||(csc.names.lookup y.1 == some .local&&(y.1 == (".0":Str)||(sC t).contains y.1)))
  &&(!(y.2 == .free)||(csc.names.lookup y.1 == some .free&&(sc.names.lookup y.1 == some .cell||sc.names.lookup y.1 == some .free)&&fS y.1))
noncomputable def fb (G:Glob) (p:Pos) (l:E):E:=match G.bx p with
 |true=>.box l
 |false=>l
noncomputable abbrev gW:=Expr→Scope→Option E
noncomputable def Fr (r:gW) (sc:Scope):List Expr→Option E
 |[]=>some .nil
 |e::es=>(r e sc).bind fun a=>(Fr r sc es).bind fun b=>some (.cons a b)
noncomputable def PM (r:gW) (o:Option Expr) (sc:Scope):Option E:=match o with
 |none=>some (.const .none)
 |some e=>r e sc
noncomputable def SC (op:BoolOp) (a b:E):E:=match op with
 |.And=>.and a b
 |.Or=>.or a b
noncomputable def Df (r:gW) (op:BoolOp) (sc:Scope):List Expr→Option E
 |[]=>none
 |e::es=>(r e sc).bind fun a=>(match es with
  |[]=>some a
  |e2::es=>(Df r op sc (e2::es)).bind fun b=>some (SC op a b))
noncomputable def Uf (es:List Expr):Bool:=decide (es.length≤1000)
noncomputable def Ug:gW:=fun e _=>(wY e).bind fun q=>(Ua q.1.1).bind fun v=>some (.const v)
noncomputable def MV (ns:List Str):gW:=fun e sc=>(uT e).bind fun q=>gd (wX sc q.1.1) ((iB ns q.1.1).bind fun i=>some (.var i))
noncomputable def FT (G:Glob):gW:=fun e sc=>(uT e).bind fun q=>gd (eW sc q.1.1) ((G.gc.lookup q.1.1).bind fun v=>some (.const v))
noncomputable def FU:Operator→Bool
 |.Add=>true
 |_=>false
noncomputable def MW (G:Glob) (r:gW):gW:=fun e sc=>(MO e).bind fun q=>gd (G.bx q.1.2.2.2) (gd (FU q.1.2.1) ((r q.1.1 sc).bind fun a=>(r q.1.2.2.1 sc).bind fun b=>some (.box (.cat a b))))
noncomputable def MX (G:Glob) (r:gW):gW:=fun e sc=>(MO e).bind fun q=>gd (!G.bx q.1.2.2.2) ((r q.1.1 sc).bind fun a=>(r q.1.2.2.1 sc).bind fun b=>some (.bin q.1.2.1 a b))
noncomputable def FV:UnaryOp→Bool
 |.Not=>true
 |_=>false
noncomputable def MY (r:gW):gW:=fun e sc=>(QD e).bind fun q=>gd (FV q.1.1) ((r q.1.2.1 sc).bind fun a=>some (.not a))
noncomputable def FW (r:gW):gW:=fun e sc=>(vBool e).bind fun q=>Df r q.1.1 sc q.1.2.1
noncomputable def MZ (r:gW):gW:=fun e sc=>(MP e).bind fun q=>(oK q.1.2.1).bind fun o=>(oK q.1.2.2.1).bind fun b=>(r q.1.1 sc).bind fun ca=>(r b.1 sc).bind fun cb=>some (.cmp o.1 ca cb)
noncomputable def FX (r:gW):gW:=fun e sc=>(MP e).bind fun q=>(AV q.1.2.1).bind fun o=>(AV q.1.2.2.1).bind fun b=>(r q.1.1 sc).bind fun ca=>(r b.1.1 sc).bind fun cb=>(r b.1.2 sc).bind fun cd=>some (.cmp2 o.1.1 o.1.2 ca cb cd)
noncomputable def NA (r:gW):gW:=fun e sc=>(QE e).bind fun q=>(r q.1.1 sc).bind fun b=>(r q.1.2.1 sc).bind fun t=>(r q.1.2.2.1 sc).bind fun e=>some (.ite b t e)
noncomputable def NB (r:gW):gW:=fun e sc=>(HZ e).bind fun q=>gd (Uf q.1.1) (Fr r sc q.1.1)
noncomputable def FY (G:Glob) (r:gW):gW:=fun e sc=>(MQ e).bind fun q=>gd (Uf q.1.1) ((Fr r sc q.1.1).bind fun es=>some (fb G q.1.2 (.disp es)))
noncomputable def NC (r:gW):gW:=fun e sc=>(AS e).bind fun q=>gd (!(q.1.2.1.ctorIdx == 26)) ((r q.1.1 sc).bind fun a=>(r q.1.2.1 sc).bind fun i=>some (.sub a i))
noncomputable def Uh (G:Glob):gW:=fun e _=>(FP e).bind fun q=>(Jw q.1.1).bind fun _=>(Jw q.1.2.1).bind fun _=>some (fb G q.1.2.2 (.dict0 (G.rx q.1.2.2)))
noncomputable abbrev QG (q:Expr):Option Expr:=some q
noncomputable def QH (o:Option Expr):Option (Vw QG o):=match o with
 |some e=>some ⟨e,rfl⟩
 |none=>none
noncomputable def Ui (G:Glob) (r:gW):gW:=fun e sc=>(FP e).bind fun q=>(oK q.1.1).bind fun k=>(QH k.1).bind fun k'=>(oK q.1.2.1).bind fun v=>(r k'.1 sc).bind fun a=>(r v.1 sc).bind fun b=>some (fb G q.1.2.2 (.dict1 a b))
noncomputable def Uj (r:gW):gW:=fun e sc=>(AS e).bind fun q=>(IA q.1.2.1).bind fun t=>gd t.1.2.2.1.isNone ((r q.1.1 sc).bind fun a=>(PM r t.1.1 sc).bind fun lo=>(PM r t.1.2.1 sc).bind fun hi=>some (.slice a lo hi))
theorem Nd {f g:Expr}{a:List Expr}{k:List Keyword}{p:Pos}(h:f=g) (hk:k=[]):Expr.Call f a k p=.Call g a [] p:=by exact rl h (rl hk rfl)
noncomputable abbrev QI (q:Str×Pos×List Expr×Pos):Expr:=.Call (.Name q.1 q.2.1) q.2.2.1 [] q.2.2.2
noncomputable def ND (e:Expr):Option (Vw QI e):=(Fq e).bind fun q=>(uT q.1.1).bind fun f=>(Jw q.1.2.2.1).bind fun k=>some ⟨(f.1.1,f.1.2,q.1.2.1,q.1.2.2.2),q.2.trans (Nd f.2 k.1)⟩
noncomputable def FZ (G:Glob) (r:gW):gW:=fun e sc=>(ND e).bind fun q=>gd (eW sc q.1.1) ((G.fn.lookup q.1.1).bind fun k=>(Fr r sc q.1.2.2.1).bind fun as=>some (match G.bx q.1.2.2.2 with
 |true=>.callB k as
 |false=>.call k as))
noncomputable abbrev VJ (nm:Str) (q:Pos×List Expr×Pos):Expr:=.Call (.Name nm q.1) q.2.1 [] q.2.2
noncomputable def LT (nm:Str) (e:Expr):Option (Vw (VJ nm) e):=(ND e).bind fun q=>dO fun h:q.1.1=nm=>some ⟨(q.1.2.1,q.1.2.2.1,q.1.2.2.2),q.2.trans (aQ (fun x=>Expr.Call (.Name x q.1.2.1) q.1.2.2.1 [] q.1.2.2.2) h)⟩
noncomputable def Dg (G:Glob) (sc:Scope) (nm:Str):Bool:=G.bn.contains nm&&eW sc nm
noncomputable def Ae (G:Glob) (r:gW) (nm:Str) (mk:Pos→E→E):gW:=fun e sc=>gd (Dg G sc nm) ((LT nm e).bind fun q=>(oK q.1.2.1).bind fun a=>(r a.1 sc).bind fun ca=>some (mk q.1.2.2 ca))
noncomputable def IC (G:Glob) (r:gW) (nm:Str) (mk:E→E→E):gW:=fun e sc=>gd (Dg G sc nm) ((LT nm e).bind fun q=>(AV q.1.2.1).bind fun a=>(r a.1.1 sc).bind fun ca=>(r a.1.2 sc).bind fun cb=>some (mk ca cb))
noncomputable def GB (G:Glob) (r:gW) (nm nm2:Str) (mk:Pos→E→E):gW:=fun e sc=>gd (Dg G sc nm&&Dg G sc nm2) ((LT nm e).bind fun q=>(oK q.1.2.1).bind fun a=>(LT nm2 a.1).bind fun q2=>(oK q2.1.2.1).bind fun b=>(r b.1 sc).bind fun cb=>some (mk q.1.2.2 cb))
noncomputable def p1 (p:Js) (_:Pos) (a:E):E:=.prim p (.cons a .nil)
noncomputable def p2 (p:Js) (a b:E):E:=.prim p (.cons a (.cons b .nil))
noncomputable def PN (G:Glob) (c:E→E) (p:Pos) (a:E):E:=fb G p (c a)
noncomputable abbrev NE (m:Str) (q:Expr×Pos×List Expr×Pos):Expr:=.Call (.Attribute q.1 m q.2.1) q.2.2.1 [] q.2.2.2
noncomputable def Nf (m:Str) (e:Expr):Option (Vw (NE m) e):=(Fq e).bind fun q=>(MR q.1.1).bind fun f=>(Jw q.1.2.2.1).bind fun k=>dO fun h:f.1.2.1=m=>some ⟨(f.1.1,f.1.2.2,q.1.2.1,q.1.2.2.2),q.2.trans (Nd (f.2.trans (aQ (fun x=>Expr.Attribute f.1.1 x f.1.2.2) h)) k.1)⟩
noncomputable def ID (o:Expr):Bool:=match Fq o with
 |some q=>q.1.1.ctorIdx == 20
 |none=>false
noncomputable def rD (o:Expr):Bool:=o.ctorIdx == 23||(o.ctorIdx == 21||ID o)
noncomputable def Uk (r:gW) (m:Str) (n:Nat) (eff:FH):gW:=fun e sc=>(Nf m e).bind fun q=>gd (q.1.2.1.endLine == q.1.2.2.2.line) (gd (rD q.1.1) (gd (q.1.2.2.1.length == n) ((r q.1.1 sc).bind fun o=>(Fr r sc q.1.2.2.1).bind fun as=>some (.eff eff o as))))
noncomputable abbrev GC (q:Nat×Pos):Expr:=.Constant (.str (Str.ofString "")) q.1 q.2
noncomputable def NF (e:Expr):Option (Vw GC e):=(wY e).bind fun q=>dO fun h:q.1.1.ctorIdx=5=>Const.str.elim (motive:=fun c=>c=q.1.1→Option (Vw GC e)) q.1.1 h (fun s hs=>dO fun h2:s=Str.ofString ""=>some ⟨(q.1.2.1,q.1.2.2),q.2.trans (aQ (fun x=>Expr.Constant x q.1.2.1 q.1.2.2) (hs.symm.trans (aQ Const.str h2)))⟩) rfl
noncomputable def GD (r:gW):gW:=fun e sc=>(Nf ("join":Str) e).bind fun q=>gd (q.1.2.1.endLine == q.1.2.2.2.line) ((NF q.1.1).bind fun _=>(oK q.1.2.2.1).bind fun a=>(r a.1 sc).bind fun ca=>some (.prim .join (.cons ca .nil)))
noncomputable def Ng (r:gW):gW:=fun e sc=>(Nf ("setdefault":Str) e).bind fun q=>gd (q.1.2.1.endLine == q.1.2.2.2.line) (gd (rD q.1.1) (gd (q.1.2.2.1.length == 2) ((r q.1.1 sc).bind fun o=>(Fr r sc q.1.2.2.1).bind fun as=>some (.setDef o as))))
noncomputable def GE (G:Glob) (r:gW):gW:=fun e sc=>(Nf ("pop":Str) e).bind fun q=>gd (G.rx q.1.2.2.2) (gd (q.1.2.1.endLine == q.1.2.2.2.line) (gd (rD q.1.1) (gd (q.1.2.2.1.length == 1) ((r q.1.1 sc).bind fun o=>(Fr r sc q.1.2.2.1).bind fun as=>some (.dpop o as)))))
noncomputable def Ul:Const→Bool
 |.int i=>i == 1
 |_=>false
noncomputable def Jy:UnaryOp→Bool
 |.USub=>true
 |_=>false
noncomputable def IE (e:Expr):Bool:=((QD e).bind fun q=>gd (Jy q.1.1) ((wY q.1.2.1).bind fun c=>gd (Ul c.1.1) (some ()))).isSome
noncomputable def GG (r:gW):gW:=fun e sc=>(AS e).bind fun q=>gd (IE q.1.2.1) ((r q.1.1 sc).bind fun a=>some (.last a))
noncomputable def IF:Const→Option Int
 |.int i=>some i
 |_=>none
noncomputable def NG:gW:=fun e _=>(QD e).bind fun q=>gd (Jy q.1.1) ((wY q.1.2.1).bind fun c=>(IF c.1.1).bind fun i=>some (.const (.int (-i))))
noncomputable def GH (a:Option Str):Bool:=a == some ("default":Str)
noncomputable def GI (G:Glob) (r:gW):gW:=fun e sc=>gd (Dg G sc ("max":Str)) ((Fq e).bind fun q=>(uT q.1.1).bind fun f=>gd (f.1.1 == ("max":Str)) ((oK q.1.2.1).bind fun a=>(oK q.1.2.2.1).bind fun k=>gd (GH k.1.arg) ((wY k.1.value).bind fun c=>(IF c.1.1).bind fun i=>(r a.1 sc).bind fun ca=>some (.prim .maxD (.cons ca (.cons (.const (.int i)) .nil))))))
noncomputable abbrev SD:=Expr→Scope→Option (Md×E)
noncomputable def QJ (a b:Option (Md×E)):Option (Md×E):=match a with
 |some x=>some x
 |none=>b
noncomputable def IG (G:Glob) (r:gW) (nm:Str) (md:Md):SD:=fun e sc=>gd (Dg G sc nm) ((LT nm e).bind fun q=>(oK q.1.2.1).bind fun a=>(r a.1 sc).bind fun a=>some (md,a))
noncomputable def IH (G:Glob) (r:gW):SD:=fun e sc=>QJ (IG G r ("range":Str) .rng e sc) (QJ (IG G r ("enumerate":Str) .enum e sc) ((r e sc).bind fun a=>some (.plain,a)))
noncomputable def Md.own:Md→Bool
 |.enum=>true
 |_=>false
noncomputable def T.two:T→Bool
 |.tup _=>true
 |.slot _=>false
noncomputable def sD (md:Md) (t:T):Bool:=!md.own||t.two
noncomputable def GL (r:gW) (sc:Scope):List Expr→Option E
 |[]=>some (.const (.bool true))
 |e::es=>(Jw es).bind fun _=>r e sc
noncomputable def Um (G:Glob) (ns:List Str) (r:gW) (elt:Expr) (csc sc:Scope) (g:Comprehension):Option E:=gd (g.is_async == 0) (gd (Jx ns sc csc g.target) ((Fl ns csc g.target).bind fun t'=>(IH G r g.iter sc).bind fun it=>gd (sD it.1 t') ((GL r csc g.ifs).bind fun ifs=>(r elt csc).bind fun elt=>some (.comp t' it.1 it.2 ifs elt))))
noncomputable def GO (G:Glob) (ns:List Str) (r:gW):gW:=fun e sc=>(FQ e).bind fun q=>(oK q.1.2.1).bind fun g=>(Um G ns r q.1.1 q.1.2.2.1 sc g.1).bind fun c=>some (fb G q.1.2.2.2 c)
noncomputable def QK (G:Glob) (sc:Scope) (e:Expr):Option Ty:=(uT e).bind fun q=>gd (Dg G sc q.1.1) (MU q.1.1)
noncomputable def NH (G:Glob) (r:gW):gW:=fun e sc=>gd (Dg G sc ("isinstance":Str)) ((LT ("isinstance":Str) e).bind fun q=>(AV q.1.2.1).bind fun a=>(r a.1.1 sc).bind fun ca=>(QK G sc a.1.2).bind fun t=>some (.prim (.isinst t) (.cons ca .nil)))
noncomputable def Dh (e:Expr) (sc:Scope):List gW→Option E
 |[]=>none
 |t::ts=>(match t e sc with
  |some c=>some c
  |none=>Dh e sc ts)
noncomputable def NI (G:Glob) (ns:List Str) (r:gW):List gW:=[MV ns,Ug,GG r,NC r,FZ G r,NB r,MZ r,MX G r,FW r,GO G ns r,Ae G r ("len":Str) (p1 .len),NH G r,MY r,FT G,FY G r,Uk r ("append":Str) 1 .append,FX r,NA r,Uj r,MW G r,Uh G,Ui G r,
 Ae G r ("all":Str) (p1 .all),Ae G r ("tuple":Str) (p1 .tuple),Ae G r ("int":Str) (p1 .intOf),Ae G r ("list":Str) (PN G .listOf),Ae G r ("dict":Str) (PN G .dictOf),Ae G r ("sorted":Str) (PN G .sorted),IC G r ("min":Str) (p2 .min),IC G r ("max":Str) (p2 .max),GB G r ("len":Str) ("set":Str) (p1 .setlen),
 Uk r ("extend":Str) 1 .extend,Uk r ("pop":Str) 0 .popLast,Ng r,NG,GI G r,GE G r,Uk r ("pop":Str) 1 .popAt,GD r]
noncomputable def QL (G:Glob) (ns:List Str):Nat→gW
 |0=>fun _ _=>none
 |n+1=>fun e sc=>Dh e sc (NI G ns (QL G ns n))
noncomputable def Qb (e:Expr):Bool:=e.ctorIdx == 8||e.ctorIdx == 9||e.ctorIdx == 10
noncomputable abbrev vT:=Stmt→Option S
noncomputable def Fs (q:vT):List Stmt→Option S
 |[]=>some .skip
 |s::ss=>(q s).bind fun a=>(Fs q ss).bind fun b=>some (.seq a b)
noncomputable def NJ (sc:Scope) (r:gW):vT:=fun s=>(vS s).bind fun q=>(oK q.1.1).bind fun t=>(AS t.1).bind fun u=>(r q.1.2.1 sc).bind fun cv=>(r u.1.1 sc).bind fun a=>(r u.1.2.1 sc).bind fun i=>some (.setItem cv a i)
noncomputable def GP (ns:List Str) (sc:Scope) (r:gW):vT:=fun s=>(vS s).bind fun q=>(oK q.1.1).bind fun t=>(uT t.1).bind fun _=>(Tm ns sc t.1).bind fun i=>gd (!Qb q.1.2.1) ((r q.1.2.1 sc).bind fun cv=>some (.assign (.slot i) cv))
noncomputable def GQ (G:Glob) (ns:List Str) (sc:Scope) (r:gW):vT:=fun s=>(vS s).bind fun q=>(oK q.1.1).bind fun t=>(uT t.1).bind fun _=>(Tm ns sc t.1).bind fun i=>(FQ q.1.2.1).bind fun c=>(oK c.1.2.1).bind fun g=>(Um G ns r c.1.1 c.1.2.2.1 sc g.1).bind fun cc=>some (.assign (.slot i) (fb G c.1.2.2.2 cc))
noncomputable def NK (ns:List Str) (sc:Scope) (r:gW):vT:=fun s=>(vS s).bind fun q=>(oK q.1.1).bind fun t=>(HZ t.1).bind fun _=>gd (!(q.1.2.1.ctorIdx == 25)) (gd (!Qb q.1.2.1) ((Fl ns sc t.1).bind fun ct=>(r q.1.2.1 sc).bind fun cv=>some (.assign ct cv)))
noncomputable def GR (sc:Scope) (r:gW):vT:=fun s=>(MT s).bind fun q=>gd (!Qb q.1.1) ((r q.1.1 sc).bind fun e=>some (.expr e))
noncomputable def SE (sc:Scope) (r:gW) (t:vT):vT:=fun s=>(VI s).bind fun q=>(r q.1.1 sc).bind fun c=>(Fs t q.1.2.1).bind fun a=>(Fs t q.1.2.2.1).bind fun b=>some (.iff c a b)
noncomputable def NL (G:Glob) (ns:List Str) (sc:Scope) (r:gW) (t:vT):vT:=fun s=>(QF s).bind fun q=>(Jw q.1.2.2.2.1).bind fun _=>(Fl ns sc q.1.1).bind fun ct=>(IH G r q.1.2.1 sc).bind fun it=>gd (sD it.1 ct) ((Fs t q.1.2.2.1).bind fun b=>some (.forr ct it.1 it.2 b))
noncomputable def Un (sc:Scope) (r:gW) (t:vT):vT:=fun s=>(IB s).bind fun q=>(Jw q.1.2.2.1).bind fun _=>(r q.1.1 sc).bind fun c=>(Fs t q.1.2.1).bind fun b=>some (.whil c b)
noncomputable def NM (sc:Scope) (r:gW):vT:=fun s=>(AT s).bind fun q=>(PM r q.1.1 sc).bind fun e=>some (.ret e)
noncomputable def Uo:vT:=fun s=>gd (AU s) (some .stuck)
noncomputable def Di (s:Stmt):List vT→Option S
 |[]=>none
 |t::ts=>(match t s with
  |some c=>some c
  |none=>Di s ts)
noncomputable def NN (G:Glob) (ns:List Str) (sc:Scope) (r:gW) (t:vT):List vT:=[GP ns sc r,GQ G ns sc r,SE sc r t,NM sc r,GR sc r,NL G ns sc r t,NJ sc r,Un sc r t,NK ns sc r,Uo]
noncomputable def PO (G:Glob) (ns:List Str) (sc:Scope):Nat→vT
 |0=>fun _=>none
 |n+1=>fun s=>Di s (NN G ns sc (QL G ns n) (PO G ns sc n))
noncomputable def II (sc:Scope):List Str:=sc.more.filterMap fun (k,c)=>if k == ("fast":Str) then (match c with | .str s=>some s | _=>none) else none
noncomputable def namesIn (sc:Scope):List Str:=match II sc with
 |[]=>(sc.names.filter fun x=>x.2 == .local||x.2 == .cell).map (·.1)
 |l=>l
noncomputable def IJ (sc:Scope) (ps ns:List Str):Bool:=
 sc.kind == .function&&!sc.isGenerator&&!sc.isCoroutine&&decide ns.Nodup&&ps == ns.take ps.length&&ps.all (sB sc)&&sc.names.all fun y=>!(y.2 == .free)
section
structure Bs where
 hp:Heap
 hk:V→Int
noncomputable abbrev Bs.get? (B:Bs) (a:Addr):Option Obj:=B.hp.get? a
noncomputable abbrev jH (es:Array DictEntry) (n:Nat):Obj:={ cls:=.type "dict",data:=.dict es n }
noncomputable abbrev iW (c:String) (xs:Array Value) (n:Nat):Obj:={ cls:=.type c,data:=.seq xs n }
structure Wd where
 σ:Addr→Option Obj
 φ:List Addr
 hk:V→Int
structure Wd.le (a b:Wd):Prop where
 fz:∀x o,a.σ x=some o→b.σ x=some o
 bx:a.φ <+: b.φ
 hk:b.hk=a.hk
theorem Wd.le.refl (a:Wd):a.le a:=⟨fun _ _ h=>h,List.prefix_refl _,rfl⟩
theorem Wd.le.trans {a b c:Wd}(x:a.le b) (y:b.le c):a.le c:=⟨fun _ _ h=>y.fz _ _ (x.fz _ _ h),x.bx.trans y.bx,y.hk.trans x.hk⟩
inductive Ax (W:Wd) (c:String) (w:Value) (P:List Value→Prop):Prop
 |mk (a:Addr) (vs:Array Value) (n:Nat) (e:w=.ref a) (g:W.σ a=some (iW c vs n)) (r:P vs.toList):Ax W c w P
inductive kE (h:Heap) (a:Addr) (P:List Value→Prop):Prop
 |mk (vs:Array Value) (n:Nat) (g:h.get? a=some (iW "list" vs n)) (r:P vs.toList):kE h a P
inductive fJ (hk:V→Int) (ks:List V) (P Q:List Value→Prop) (a:Addr) (g:Obj→Prop):Prop
 |mk (es:Array DictEntry) (n:Nat) (m:(a == sysModules)=false) (o:g (jH es n)) (r1:P (es.toList.map (·.key))) (r2:Q (es.toList.map (·.val))) (r3:es.toList.map (·.hash)=ks.map hk) (r4:ks.Nodup):fJ hk ks P Q a g
mutual
noncomputable def RV (W:Wd):V→Value→Prop
 |.none,w=>w=.none
 |.bool b,w=>w=.bool b
 |.int i,w=>∃t,w=.int i t
 |.str s,w=>∃t,w=.str s t
 |.tup xs,w=>Ax W "tuple" w (dK W xs)
 |.lst xs,w=>Ax W "list" w (dK W xs)
 |.dct _ ks vs,w=>∃a,w=.ref a∧fJ W.hk ks (dK W ks) (dK W vs) a fun o=>W.σ a=some o
 |.ref i,w=>∃a,w=.ref a∧W.φ[i]? = some a
noncomputable def dK (W:Wd):List V→List Value→Prop
 |[],us=>us=[]
 |x::xs,us=>∃v vs,us=v::vs∧RV W x v∧dK W xs vs
end
section
variable {W:Wd}{w:Value}{xs vs:List V}
theorem RV.int {i:Int}{t:Tok}:RV W (.int i) (.int i t):=(⟨_,rfl⟩:∃t',Value.int i t=.int i t')
theorem RV.bool {b:Bool}:RV W (.bool b) (.bool b):=(rfl:Value.bool b=.bool b)
theorem RV.str {x:Str}{t:Tok}:RV W (.str x) (.str x t):=(⟨_,rfl⟩:∃t',Value.str x t=.str x t')
theorem RV.none:RV W .none .none:=(rfl:Value.none=.none)
theorem RV.tup (h:Ax W "tuple" w (dK W xs)):RV W (.tup xs) w:=h
theorem RV.lst (h:Ax W "list" w (dK W xs)):RV W (.lst xs) w:=h
theorem RV.dct {a:Addr}{e:Bool}(h:fJ W.hk xs (dK W xs) (dK W vs) a fun o=>W.σ a=some o):RV W (.dct e xs vs) (.ref a):=(show ∃b,Value.ref a=.ref b∧fJ W.hk xs (dK W xs) (dK W vs) b fun o=>W.σ b=some o from ⟨a,rfl,h⟩)
theorem RV.box {i:Nat}{a:Addr}(h:W.φ[i]? = some a):RV W (.ref i) (.ref a):=(show ∃b,Value.ref a=.ref b∧W.φ[i]? = some b from ⟨a,rfl,h⟩)
theorem dK.nil:dK W [] []:=(rfl:([]:List Value)=[])
theorem dK.cons {x:V}{v:Value}{us:List Value}(h:RV W x v) (r:dK W xs us):dK W (x::xs) (v::us):=(show ∃v' vs',v::us=v'::vs'∧RV W x v'∧dK W xs vs' from ⟨v,us,rfl,h,r⟩)
theorem dK.elim {x:V}{us:List Value}{P:List Value→Prop}(r:dK W (x::xs) us) (k:∀v vs,RV W x v→dK W xs vs→P (v::vs)):P us:=by
 refine iY r fun v vs e_e=>?_;clear r;subst e_e;intro h r
 exact k v vs h r
end
theorem fJ.imp {hk hk':V→Int}{ks:List V}{P Q P' Q':List Value→Prop}{a:Addr}{g g':Obj→Prop}(h:fJ hk ks P Q a g) (e:hk'=hk) (hP:∀l,P l→P' l) (hQ:∀l,Q l→Q' l) (hg:∀o,g o→g' o):fJ hk' ks P' Q' a g':=by
 obtain ⟨es,n,m,o,r1,r2,r3,r4⟩:=h
 exact ⟨es,n,m,hg _ o,hP _ r1,hQ _ r2,by refine rl e ?_;exact r3,r4⟩
mutual
theorem RV.mono {W W':Wd}(h:W.le W'):∀{v:V}{w:Value},RV W v w→RV W' v w
 |.none,_,x=>x
 |.bool _,_,x=>x
 |.int _,_,x=>x
 |.str _,_,x=>x
 |.tup xs,_,x=>by obtain ⟨a,vs,n,e,g,r⟩:=x;exact RV.tup ⟨a,vs,n,e,h.fz _ _ g,dK.mono h r⟩
 |.lst xs,_,x=>by obtain ⟨a,vs,n,e,g,r⟩:=x;exact RV.lst ⟨a,vs,n,e,h.fz _ _ g,dK.mono h r⟩
 |.dct _ ks vs,_,x=>by refine dF x fun a e_e d=>?_;subst e_e;exact RV.dct (d.imp h.hk (fun _ r=>dK.mono h r) (fun _ r=>dK.mono h r) fun o g=>h.fz _ _ g)
 |.ref i,_,x=>by
  refine dF x fun a e_e=>?_;clear x;subst e_e;intro g
  obtain ⟨r,hr⟩:=h.bx
  exact RV.box (by refine rr hr (rl (bH (aS.mp g).1) ?_);exact g)
theorem dK.mono {W W':Wd}(h:W.le W'):∀{v:List V}{w:List Value},dK W v w→dK W' v w
 |[],_,x=>x
 |_::_,_,x=>dK.elim x fun _ _ a b=>.cons (RV.mono h a) (dK.mono h b)
end
theorem dK.length {W:Wd}:∀{xs:List V}{vs:List Value},dK W xs vs→xs.length=vs.length
 |[],_,x=>by cases (show _=_ from x);rfl
 |_::xs,_,x=>dK.elim (P:=fun us=>xs.length+1=us.length) x fun _ _ _ r=>aQ (· + 1) r.length
theorem dK.get {W:Wd}:∀{xs:List V}{vs:List Value},dK W xs vs→∀{i:Nat}{x:V},xs[i]? = some x→∃v,vs[i]? = some v∧RV W x v
 |[],_,_,i,y,e=>by exact nS e
 |x::xs,_,h,0,y,e=>by obtain rfl:=aB e;exact dK.elim (P:=fun us=>∃v,us[0]? = some v∧RV W x v) h fun v _ r _=>⟨v,rfl,r⟩
 |x::xs,_,h,i+1,y,e=>dK.elim (P:=fun us=>∃v,us[i+1]? = some v∧RV W y v) h fun _ _ _ r=>r.get (i:=i) e
theorem dK.append {W:Wd}:∀{xs ys:List V}{vs us:List Value},dK W xs vs→dK W ys us→dK W (xs++ys) (vs++us)
 |[],_,_,_,x,h=>by cases (show _=_ from x);exact h
 |_::_,_,_,us,x,h=>dK.elim (P:=fun vs=>dK W _ (vs++us)) x fun _ _ a b=>.cons a (b.append h)
theorem dK.snoc {W:Wd}{xs:List V}{vs:List Value}{x:V}{v:Value}(h:dK W xs vs) (h':RV W x v):dK W (xs++[x]) (vs++[v]):=h.append (.cons h' .nil)
theorem dK.set {W:Wd}:∀{xs:List V}{vs:List Value}{i:Nat}{x:V}{v:Value},dK W xs vs→RV W x v→dK W (xs.set i x) (vs.set i v)
 |[],_,_,_,_,x,_=>by cases (show _=_ from x);exact dK.nil
 |_::_,_,0,_,v,x,h=>dK.elim (P:=fun vs=>dK W _ (vs.set 0 v)) x fun _ _ _ b=>.cons h b
 |_::_,_,i+1,_,v,x,h=>dK.elim (P:=fun vs=>dK W _ (vs.set (i+1) v)) x fun _ _ a b=>.cons a (b.set h)
theorem dK.take {W:Wd}:∀{xs:List V}{vs:List Value}(n:Nat),dK W xs vs→dK W (xs.take n) (vs.take n)
 |[],_,_,x=>by cases (show _=_ from x);refine rl List.take_nil (rl List.take_nil ?_);exact dK.nil
 |_::_,_,0,x=>dK.nil
 |_::_,_,n+1,x=>dK.elim (P:=fun vs=>dK W _ (vs.take (n+1))) x fun _ _ a b=>.cons a (b.take n)
theorem dK.drop {W:Wd}:∀{xs:List V}{vs:List Value}(n:Nat),dK W xs vs→dK W (xs.drop n) (vs.drop n)
 |[],_,_,x=>by cases (show _=_ from x);refine rl List.drop_nil (rl List.drop_nil ?_);exact dK.nil
 |_::_,_,0,x=>x
 |_::_,_,n+1,x=>dK.elim (P:=fun vs=>dK W _ (vs.drop (n+1))) x fun _ _ _ b=>b.drop n
theorem dK.erase {W:Wd}:∀{xs:List V}{vs:List Value}(i:Nat),dK W xs vs→dK W (xs.eraseIdx i) (vs.eraseIdx i)
 |[],_,_,x=>by cases (show _=_ from x);exact dK.nil
 |_::_,_,0,x=>dK.elim (P:=fun vs=>dK W _ (vs.eraseIdx 0)) x fun _ _ _ b=>b
 |_::_,_,i+1,x=>dK.elim (P:=fun vs=>dK W _ (vs.eraseIdx (i+1))) x fun _ _ a b=>.cons a (b.erase i)
noncomputable def QM (o:Obj):Nat:=match o.data with
 |.dict _ n=>n
 |_=>0
noncomputable def OR (W:Wd) (h:Heap) (v:V) (a:Addr):Prop:=match v with
 |.lst xs=>kE h a (dK W xs)
 |.dct e ks vs=>fJ W.hk ks (dK W ks) (dK W vs) a fun o=>h.get? a=some o∧(e=true→QM o=ks.length)
 |_=>False
theorem OR.alive {W:Wd}{h:Heap}{v:V}{a:Addr}(x:OR W h v a):h.get? a≠none:=by
 cases v <;> first | exact x.elim | skip
 ·obtain ⟨vs,n,g,_⟩:=x;refine rl g ?_;exact cJ _
 ·obtain ⟨es,n,_,g,_⟩:=x;refine rl g.1 ?_;exact cJ _
theorem OR.move {W W':Wd}{h h':Heap}{v:V}{a:Addr}(x:OR W h v a) (le:W.le W') (e:h'.get? a=h.get? a):OR W' h' v a:=by
 cases v <;> first | exact x.elim | skip
 ·obtain ⟨vs,n,g,r⟩:=x;exact (⟨vs,n,e.trans g,r.mono le⟩:kE ..)
 ·exact fJ.imp x le.hk (fun _ r=>r.mono le) (fun _ r=>r.mono le) fun o g=>⟨e.trans g.1,g.2⟩
structure SR (B:Bs) (W:Wd) (H:Hp) (h:Heap):Prop where
 base:∀b o,B.get? b=some o→h.get? b=some o
 froz:∀b o,W.σ b=some o→h.get? b=some o
 apart:∀b∈W.φ,W.σ b=none
 above:∀b∈W.φ,B.get? b=none
 nodup:W.φ.Nodup
 len:H.length=W.φ.length
 objs:∀(i:Nat) (o:V) (a:Addr),H[i]? = some o→W.φ[i]? = some a→OR W h o a
 hk:W.hk=B.hk
structure Tr (W W':Wd) (h h':Heap):Prop where
 le:W.le W'
 keep:∀b o,h.get? b=some o→b∉W.φ→h'.get? b=some o
 alive:∀b,h.get? b≠none→h'.get? b≠none
 nf:∀b∈W'.φ,b∈W.φ∨h.get? b=none
 nz:∀b o,W'.σ b=some o→W.σ b=some o∨h.get? b=none
theorem Tr.refl (W:Wd) (h:Heap):Tr W W h h:=⟨.refl _,fun _ _ e _=>e,fun _ e=>e,fun _ m=>.inl m,fun _ _ m=>.inl m⟩
theorem Tr.trans {W W' W'':Wd}{h h' h'':Heap}(x:Tr W W' h h') (y:Tr W' W'' h' h''):Tr W W'' h h'' where
 le:=x.le.trans y.le
 keep:=fun b o e nb=>y.keep b o (x.keep b o e nb) fun m=>(x.nf b m).elim nb fun q=>by rw [q] at e;exact nS e
 alive:=fun b e=>y.alive b (x.alive b e)
 nf:=fun b m=>(y.nf b m).elim (x.nf b) fun q=>.inr (bK fun e=>x.alive b e q)
 nz:=fun b o m=>(y.nz b o m).elim (x.nz b o) fun q=>.inr (bK fun e=>x.alive b e q)
theorem SR.mem_alive {B:Bs}{W:Wd}{H:Hp}{h:Heap}(S:SR B W H h) {b:Addr}(m:b∈W.φ):h.get? b≠none:=by
 obtain ⟨i,hi,e⟩:=List.getElem_of_mem m
 have hi':i<H.length:=S.len ▸ hi
 exact (S.objs i H[i] b (aP hi') (by exact rl (aP hi) (rl e rfl))).alive
theorem Tr.grow {W:Wd}{h h':Heap}(k:∀b o,h.get? b=some o→h'.get? b=some o):Tr W W h h' where
 le:=.refl _
 keep:=fun b o e _=>k b o e
 alive:=fun b e=>by
  cases q:h.get? b with
  |none=>exact absurd q e
  |some o=>refine rl (k b o q) ?_;simp
 nf:=fun _ m=>.inl m
 nz:=fun _ _ m=>.inl m
theorem SR.grow {B:Bs}{W:Wd}{H:Hp}{h h':Heap}(S:SR B W H h) (k:∀b o,h.get? b=some o→h'.get? b=some o):SR B W H h' where
 base:=fun b o e=>k b o (S.base b o e)
 froz:=fun b o e=>k b o (S.froz b o e)
 apart:=S.apart
 above:=S.above
 hk:=S.hk
 nodup:=S.nodup
 len:=S.len
 objs:=fun i o a e e'=>by
  have x:=S.objs i o a e e'
  cases q:h.get? a with
  |none=>exact absurd q x.alive
  |some ob=>exact x.move (.refl _) ((k a ob q).trans q.symm)
theorem SR.other {B:Bs}{W:Wd}{H:Hp}{h h':Heap}(S:SR B W H h) {P:Addr→Prop}(hB:∀b,P b→B.get? b=none) (hσ:∀b,P b→W.σ b=none) (hφ:∀b,P b→b∉W.φ)
  (k:∀b o,¬P b→h.get? b=some o→h'.get? b=some o):SR B W H h' where
 base:=fun b o e=>k b o (fun p=>by rw [hB b p] at e;exact nS e) (S.base b o e)
 froz:=fun b o e=>k b o (fun p=>by rw [hσ b p] at e;exact nS e) (S.froz b o e)
 apart:=S.apart
 above:=S.above
 hk:=S.hk
 nodup:=S.nodup
 len:=S.len
 objs:=fun i o a e e'=>by
  have x:=S.objs i o a e e'
  cases q:h.get? a with
  |none=>exact absurd q x.alive
  |some ob=>exact x.move (.refl _) ((k a ob (fun p=>hφ a p (bT e')) q).trans q.symm)
noncomputable def Wd.freeze (W:Wd) (a:Addr) (o:Obj):Wd:={ W with σ:=fun b=>if b=a then some o else W.σ b }
theorem Wd.le_freeze {W:Wd}{a:Addr}{o:Obj}(h:W.σ a=none):W.le (W.freeze a o):=⟨fun x o' e=>by
  show (if x=a then some o else W.σ x)=some o'
  by_cases q:x=a
  ·rw [q,h] at e;exact nS e
  ·refine rl (if_neg q) ?_;exact e,List.prefix_refl _,rfl⟩
theorem Wd.freeze_self {W:Wd}{a:Addr}{o:Obj}:(W.freeze a o).σ a=some o:=if_pos rfl
theorem SR.freeze {B:Bs}{W:Wd}{H:Hp}{h:Heap}(S:SR B W H h) {a:Addr}{o:Obj}(e:h.get? a=some o) (hz:W.σ a=none) (hf:a∉W.φ):SR B (W.freeze a o) H h where
 base:=S.base
 froz:=fun b ob q=>by
  by_cases hb:b=a
  ·subst hb
   have q':(if b=b then some o else W.σ b)=some ob:=q
   rw [if_pos rfl] at q';obtain rfl:=aB q';exact e
  ·have q':(if b=a then some o else W.σ b)=some ob:=q
   rw [if_neg hb] at q';exact S.froz b ob q'
 apart:=fun b m=>by
  show (if b=a then some o else W.σ b)=none
  refine rl (if_neg (fun (q:b=a)=>hf (q ▸ m))) ?_;exact S.apart b m
 above:=S.above
 hk:=S.hk
 nodup:=S.nodup
 len:=S.len
 objs:=fun i o a e e'=>(S.objs i o a e e').move (Wd.le_freeze hz) rfl
theorem Tr.freeze {W W':Wd}{h h':Heap}(x:Tr W W' h h') {a:Addr}{o:Obj}(hz:W'.σ a=none) (hn:h.get? a=none):Tr W (W'.freeze a o) h h' where
 le:=x.le.trans (Wd.le_freeze hz)
 keep:=x.keep
 alive:=x.alive
 nf:=x.nf
 nz:=fun b ob q=>by
  by_cases hb:b=a
  ·refine rl hb ?_;exact .inr hn
  ·have q':(if b=a then some o else W'.σ b)=some ob:=q
   rw [if_neg hb] at q';exact x.nz b ob q'
noncomputable def Wd.box (W:Wd) (a:Addr):Wd:={ W with φ:=W.φ++[a] }
theorem Wd.le_box {W:Wd}{a:Addr}:W.le (W.box a):=⟨fun _ _ e=>e,List.prefix_append _ _,rfl⟩
theorem SR.box {B:Bs}{W:Wd}{H:Hp}{h:Heap}(S:SR B W H h) {a:Addr}{o:V}(x:OR W h o a) (hz:W.σ a=none) (hf:a∉W.φ) (hB:B.get? a=none):SR B (W.box a) (H++[o]) h where
 base:=S.base
 froz:=S.froz
 apart:=fun b m=>(aY.mp m).elim (S.apart b) fun q=>by refine rl (aG.mp q) ?_;exact hz
 above:=fun b m=>(aY.mp m).elim (S.above b) fun q=>by refine rl (aG.mp q) ?_;exact hB
 hk:=S.hk
 nodup:=cT.mpr ⟨S.nodup,by simp,fun b m c q e=>hf (by rw [aG.mp q] at e;exact e ▸ m)⟩
 len:=by show (H++[o]).length=(W.φ++[a]).length;refine rl aE (rl aE (rl S.len ?_));rfl
 objs:=fun i o' a' e e'=>by
  have e'':(W.φ++[a])[i]? = some a':=e'
  by_cases q:i<H.length
  ·rw [bH q] at e
   rw [bH (S.len ▸ q)] at e''
   exact (S.objs i o' a' e e'').move Wd.le_box rfl
  ·have hi:i=H.length:=by
    have h1:=(aS.mp e).1
    rw [aE] at h1
    simp only [List.length_singleton] at h1;exact Nat.le_antisymm (cS h1) (Nat.le_of_not_lt q)
   subst hi
   rw [bO (aN _),Nat.sub_self] at e
   rw [bO (by refine rl S.len ?_;exact aN _),S.len,Nat.sub_self] at e''
   simp only [List.getElem?_cons_zero,Option.some.injEq] at e e''
   subst e e''
   exact x.move Wd.le_box rfl
theorem Tr.box {W W':Wd}{h h':Heap}(x:Tr W W' h h') {a:Addr}(hn:h.get? a=none):Tr W (W'.box a) h h' where
 le:=x.le.trans Wd.le_box
 keep:=x.keep
 alive:=x.alive
 nf:=fun b m=>(aY.mp m).elim (x.nf b) fun q=>.inr (by refine rl (aG.mp q) ?_;exact hn)
 nz:=x.nz
theorem SR.upd {B:Bs}{W:Wd}{H:Hp}{h h':Heap}(S:SR B W H h) {i:Nat}{a:Addr}{o:V}(hi:W.φ[i]? = some a) (k:∀b,b≠a→h'.get? b=h.get? b) (x:OR W h' o a):SR B W (H.set i o) h' where
 base:=fun b ob e=>by
  have nb:b≠a:=fun q=>by rw [q,S.above a (bT hi)] at e;exact nS e
  exact (k b nb).trans (S.base b ob e)
 froz:=fun b ob e=>by
  have nb:b≠a:=fun q=>by rw [q,S.apart a (bT hi)] at e;exact nS e
  exact (k b nb).trans (S.froz b ob e)
 apart:=S.apart
 above:=S.above
 hk:=S.hk
 nodup:=S.nodup
 len:=by refine rl List.length_set ?_;exact S.len
 objs:=fun j o' a' e e'=>by
  by_cases q:j=i
  ·subst q
   rw [hi] at e';obtain rfl:=aB e'
   rw [List.getElem?_set_self (by have:=(aS.mp hi).1;refine rl S.len ?_;exact this)] at e
   obtain rfl:=aB e;exact x
  ·rw [List.getElem?_set_ne (Ne.symm q)] at e
   refine (S.objs j o' a' e e').move (.refl _) (k a' fun r=>q ?_)
   subst r
   have h1:=aS.mp hi
   have h2:=aS.mp e'
   exact (List.getElem_inj (h₀:=h2.1) (h₁:=h1.1) S.nodup).mp (h2.2.trans h1.2.symm)
theorem Tr.upd {W:Wd}{h h':Heap}{a:Addr}(hm:a∈W.φ) (k:∀b,b≠a→h'.get? b=h.get? b) (ha:h'.get? a≠none):Tr W W h h' where
 le:=.refl _
 keep:=fun b o e nb=>(k b fun q=>nb (q ▸ hm)).trans e
 alive:=fun b e=>by
  by_cases q:b=a
  ·refine rl q ?_;exact ha
  ·refine rl (k b q) ?_;exact e
 nf:=fun _ m=>.inl m
 nz:=fun _ _ m=>.inl m
end
section
structure Cx where
 prog:Program
 w:World
 B:Bs
 gv:Str→Option Value
noncomputable abbrev Cx.M (X:Cx):Model:=model X.prog X.w
noncomputable def Ft (prog:Program) (w:World):V→Int
 |.str s=>(strKind prog w).hash s
 |.int i=>(intKind prog w).hash i
 |_=>0
noncomputable def sE (prog:Program) (w:World):Nat→V→Int
 |0,v=>Ft prog w v
 |n+1,v=>(match v with
  |.tup xs=>reduceHash (Builtin.Tuple.tupleHashOf (xs.map (sE prog w n)))
  |v=>Ft prog w v)
noncomputable abbrev eO (prog:Program) (w:World):V→Int:=sE prog w 4
structure wZ (X:Cx):Prop where
 nolimit:X.B.hp.NoLimit
 hash:X.B.hk=eO X.prog X.w
 names:∃mg mb,X.B.hp.Ns mainGlobals mg∧X.B.hp.Ns builtinsNs mb∧∀x v,X.gv x=some v→mg x=some v∨(mg x=none∧mb x=some v)
noncomputable def fX:Value→Shared→Prop:=fun _ _=>False
structure vI (s s':Shared):Prop where
 gens:s'.gens=s.gens
 drawn:0=0
 os:s'.os=s.os
theorem vI.refl (s:Shared):vI s s:=⟨rfl,rfl,rfl⟩
theorem vI.trans {a b c:Shared}(x:vI a b) (y:vI b c):vI a c:=⟨y.gens.trans x.gens,rfl,y.os.trans x.os⟩
structure Up (k:Nat) (A:Around):Prop where
 handled:A.handled=none
 depth:A.depth+2*k<900
 units:A.units+10*k<9000
theorem Up.room {k:Nat}{A:Around}(h:Up k A):A.depth<recursionLimit:=by have:=h.depth;unfold recursionLimit;exact q1 this
noncomputable def Qc (env:Env) (b:Addr):Prop:=b=env.locals∨∃x,env.cells.lookup x=some b
structure Nh (X:Cx) (sc:Scope) (env:Env):Prop where
 ok:wZ X
 kind:env.scope.kind=.function
 globals:env.globals=mainGlobals
 builtins:env.builtins=builtinsNs
 glob:∀x,eW sc x=true→env.kindOf x=some .globalImplicit
 inter:interactive env=false
 loc:∀x,sc.names.lookup x=some .local→env.kindOf x=some .local
 fre:∀x,sc.names.lookup x=some .cell∨sc.names.lookup x=some .free→env.kindOf x=some .cell∨env.kindOf x=some .free
 cel:∀x,sc.names.lookup x=some .cell→env.kindOf x=some .cell
 cells:∀x,sc.names.lookup x=some .cell∨sc.names.lookup x=some .free→∃c,env.cells.lookup x=some c
 inj:∀x y c,env.cells.lookup x=some c→env.cells.lookup y=some c→x=y
 base:∀b,Qc env b→X.B.get? b=none
noncomputable def Bd (env:Env) (h:Heap) (x:Str) (w:Value):Prop:=
 (env.kindOf x=some .local∧∃m,h.Ns env.locals m∧m x=some w)∨
 ((env.kindOf x=some .cell∨env.kindOf x=some .free)∧∃c,env.cells.lookup x=some c∧h.IsCell c (some w))
structure FR (W:Wd) (env:Env) (ns:List Str) (sc:Scope) (ρ:Loc) (h:Heap):Prop where
 vars:∀(x:Str) (i:Nat) (v:V),wX sc x=true→iB ns x=some i→ρ[i]? = some (some v)→∃w,RV W v w∧Bd env h x w
 out:∀b,Qc env b→b∉W.φ
 alive:∀b,Qc env b→h.get? b≠none
 nsp:∃m,h.Ns env.locals m
 cell:∀x c,env.cells.lookup x=some c→∃v,h.IsCell c v
 apart:∀b,Qc env b→W.σ b=none
theorem Bd.move {env:Env}{h h':Heap}{x:Str}{w:Value}(k:∀b o,Qc env b→h.get? b=some o→h'.get? b=some o) (y:Bd env h x w):Bd env h' x w:=by
 rcases y with ⟨a,m,⟨o,es,ep,e,r⟩,q⟩ | ⟨a,c,hc,o,e,q⟩
 ·exact .inl ⟨a,m,⟨o,es,ep,k _ _ (.inl rfl) e,r⟩,q⟩
 ·exact .inr ⟨a,c,hc,o,k _ _ (.inr ⟨x,hc⟩) e,q⟩
theorem FR.move {W W':Wd}{env:Env}{ns:List Str}{sc:Scope}{ρ:Loc}{h h':Heap}(f:FR W env ns sc ρ h) (t:Tr W W' h h'):FR W' env ns sc ρ h' where
 vars:=fun x i v a b c=>by
  refine dF (f.vars x i v a b c) fun w y z=>?_
  exact ⟨w,y.mono t.le,z.move fun b o ob e=>t.keep b o e (f.out b ob)⟩
 out:=fun b ob m=>(t.nf b m).elim (f.out b ob) (f.alive b ob)
 alive:=fun b ob=>t.alive b (f.alive b ob)
 nsp:=by
  refine Jr f.nsp fun m o es ep e r=>?_
  exact ⟨m,o,es,ep,t.keep _ _ e (f.out _ (.inl rfl)),r⟩
 cell:=fun x c e=>by
  refine qZ (f.cell x c e) fun v o g d=>?_
  exact ⟨v,o,t.keep _ _ g (f.out _ (.inr ⟨x,e⟩)),d⟩
 apart:=fun b ob=>by
  cases q:W'.σ b with
  |none=>rfl
  |some o=>exact (t.nz b o q).elim (fun e=>by rw [f.apart b ob] at e;exact nS e) fun e=>absurd e (f.alive b ob)
theorem cV {α β:Type}{o:Option α}{f:α→Option β}{r:β}{P:Prop}(h:o.bind f=some r) (k:∀a,o=some a→f a=some r→P):P:=by
 cases o with
 |none=>exact nS h
 |some a=>exact k a rfl h
theorem dQ {α β:Type}{o:Option α}{f:α→β}{r:β}{P:Prop}(h:o.map f=some r) (k:∀a,o=some a→r=f a→P):P:=by
 cases o with
 |none=>exact nS h
 |some a=>obtain rfl:=aB h;exact k a rfl rfl
theorem cZ {α:Type}{b:Bool}{o:Option α}{r:α}{P:Prop}(h:gd b o=some r) (k:b=true→o=some r→P):P:=by
 cases b with
 |false=>exact nS h
 |true=>exact k rfl h
theorem dU {α:Type}{p:Prop}[Decidable p] {o:Option α}{r:α}{P:Prop}(h:gd (decide p) o=some r) (k:p→o=some r→P):P:=
 cZ h fun a b=>k (bD a) b
structure Th where
 X:Cx
 c:Ctx
 k:Nat
 ns:List Str
 sc:Scope
structure Gm (Θ:Th) where
 env:Env
 ρ:Loc
 A:Around
structure St where
 W:Wd
 s:Shared
 H:Hp
structure Ok {Θ:Th}(Γ:Gm Θ) (σ:St):Prop where
 E:Nh Θ.X Θ.sc Γ.env
 f:FR σ.W Γ.env Θ.ns Θ.sc Γ.ρ σ.s.heap
 A:Up Θ.k Γ.A
 S:SR Θ.X.B σ.W σ.H σ.s.heap
structure Le (σ τ:St):Prop where
 t:Tr σ.W τ.W σ.s.heap τ.s.heap
 q:vI σ.s τ.s
theorem Le.refl (σ:St):Le σ σ:=⟨.refl _ _,.refl _⟩
theorem Le.trans {a b c:St}(x:Le a b) (y:Le b c):Le a c:=⟨x.t.trans y.t,x.q.trans y.q⟩
theorem RV.up {σ τ:St}{v:V}{w:Value}(r:RV σ.W v w) (l:Le σ τ):RV τ.W v w:=r.mono l.t.le
theorem dK.up {σ τ:St}{v:List V}{w:List Value}(r:dK σ.W v w) (l:Le σ τ):dK τ.W v w:=r.mono l.t.le
noncomputable abbrev St.tk (σ:St) (n:Nat):St:=⟨σ.W,{ σ.s with toks:=n },σ.H⟩
noncomputable abbrev St.hp (σ:St) (h:Heap) (n:Nat):St:=⟨σ.W,{ σ.s with heap:=h,toks:=n },σ.H⟩
structure lN (σ τ:St) (v:V) (a:Addr):Prop where
 x:OR τ.W τ.s.heap v a
 z:τ.W.σ a=none
 f:a∉τ.W.φ
 n:σ.s.heap.get? a=none
section
variable {Θ:Th}{Γ:Gm Θ}{σ τ υ:St}{v:V}{w:Value}
theorem Le.tk {n:Nat}:Le σ (σ.tk n):=⟨.refl _ _,⟨rfl,rfl,rfl⟩⟩
theorem Le.grow {h:Heap}{n:Nat}(k:∀b o,σ.s.heap.get? b=some o→h.get? b=some o):Le σ (σ.hp h n):=⟨.grow k,⟨rfl,rfl,rfl⟩⟩
theorem Ok.move (o:Ok Γ σ) (l:Le σ τ) (S:SR Θ.X.B τ.W τ.H τ.s.heap):Ok Γ τ:=⟨o.E,o.f.move l.t,o.A,S⟩
theorem Ok.tk (o:Ok Γ σ) {n:Nat}:Ok Γ (σ.tk n):=⟨o.E,o.f,o.A,o.S⟩
theorem Ok.grow (o:Ok Γ σ) {h:Heap}{n:Nat}(k:∀b o,σ.s.heap.get? b=some o→h.get? b=some o):Ok Γ (σ.hp h n):=o.move (.grow k) (o.S.grow k)
theorem eE (h:Heap):h.get? h.objs.size=none:=by
 cases q:h.get? h.objs.size with
 |none=>rfl
 |some o=>exact absurd (Heap.lt_size q) (Nat.lt_irrefl _)
theorem lN.up (l:Le σ τ) {a:Addr}(f:lN τ υ v a):lN σ υ v a:=⟨f.x,f.z,f.f,bK fun q=>l.t.alive a q f.n⟩
theorem lN.freeze {a:Addr}(f:lN σ τ v a) (l:Le σ τ) (S:SR Θ.X.B τ.W τ.H τ.s.heap) {P:Prop}(k:∀ob,Le σ ⟨τ.W.freeze a ob,τ.s,τ.H⟩→SR Θ.X.B (τ.W.freeze a ob) τ.H τ.s.heap→RV (τ.W.freeze a ob) v (.ref a)→P):P:=by
 obtain ⟨x,z,nf,n⟩:=f
 have go:∀ob,τ.s.heap.get? a=some ob→RV (τ.W.freeze a ob) v (.ref a)→P:=fun ob g r=>k ob ⟨l.t.freeze z n,l.q⟩ (S.freeze g z nf) r
 cases v <;> first | exact x.elim | skip
 ·obtain ⟨vs,m,g,r⟩:=x
  exact go _ g (RV.lst ⟨a,vs,m,rfl,Wd.freeze_self,r.mono (Wd.le_freeze z)⟩)
 ·obtain ⟨es,m,h,g,r1,r2,r3,r4⟩:=x
  exact go _ g.1 (RV.dct ⟨es,m,h,Wd.freeze_self,r1.mono (Wd.le_freeze z),r2.mono (Wd.le_freeze z),r3,r4⟩)
theorem lN.box {a:Addr}(f:lN σ τ v a) (l:Le σ τ) (S₀:SR Θ.X.B σ.W σ.H σ.s.heap) (S:SR Θ.X.B τ.W τ.H τ.s.heap):Le σ ⟨τ.W.box a,τ.s,τ.H++[v]⟩∧SR Θ.X.B (τ.W.box a) (τ.H++[v]) τ.s.heap∧RV (τ.W.box a) (.ref τ.H.length) (.ref a):=by
 obtain ⟨x,z,nf,n⟩:=f
 refine ⟨⟨l.t.box n,l.q⟩,S.box x z nf ?_,RV.box ?_⟩
 ·cases q:Θ.X.B.get? a with
  |none=>rfl
  |some ob=>rw [S₀.base a ob q] at n;exact Sn n
 ·show (τ.W.φ++[a])[τ.H.length]? = some a
  refine rl S.len (rl (bO (aN _)) (rl (Nat.sub_self ..) ?_));rfl
theorem Ok.tuple {n m:Nat}{vs:List V}{ws:List Value}(o:Ok Γ σ) (r:dK σ.W vs ws) {P:Prop}(k:∀W',Le σ ⟨W',{ σ.s with heap:=σ.s.heap.push (iW "tuple" ws.toArray n),toks:=m },σ.H⟩→Ok Γ ⟨W',{ σ.s with heap:=σ.s.heap.push (iW "tuple" ws.toArray n),toks:=m },σ.H⟩→RV W' (.tup vs) (.ref σ.s.heap.objs.size)→P):P:=by
 have hn:=eE σ.s.heap
 have hk:∀b ob,σ.s.heap.get? b=some ob→(σ.s.heap.push (iW "tuple" ws.toArray n)).get? b=some ob:=fun b ob e=>bB _ e
 have hz:σ.W.σ σ.s.heap.objs.size=none:=by
  cases q:σ.W.σ σ.s.heap.objs.size with
  |none=>rfl
  |some ob=>rw [o.S.froz _ _ q] at hn;exact Sn hn
 have hf:σ.s.heap.objs.size∉σ.W.φ:=fun m=>o.S.mem_alive m hn
 have l:Le σ ⟨σ.W.freeze σ.s.heap.objs.size (iW "tuple" ws.toArray n),{ σ.s with heap:=σ.s.heap.push (iW "tuple" ws.toArray n),toks:=m },σ.H⟩:=⟨(Tr.grow hk).freeze hz hn,⟨rfl,rfl,rfl⟩⟩
 exact k _ l (o.move l ((o.S.grow hk).freeze (bQ _ rfl) hz hf)) (RV.tup ⟨_,ws.toArray,n,rfl,Wd.freeze_self,by simpa using r.mono (Wd.le_freeze hz)⟩)
theorem Ok.made (o:Ok Γ σ) (ob:Obj) {m:Nat}(hf:ob.isFreed=false) (x:OR σ.W (σ.s.heap.push ob) v σ.s.heap.objs.size) :
  Le σ (σ.hp (σ.s.heap.push ob) m)∧Ok Γ (σ.hp (σ.s.heap.push ob) m)∧lN σ (σ.hp (σ.s.heap.push ob) m) v σ.s.heap.objs.size:=by
 have hn:=eE σ.s.heap
 have hk:∀b o',σ.s.heap.get? b=some o'→(σ.s.heap.push ob).get? b=some o':=fun b o' e=>bB _ e
 refine ⟨.grow hk,o.grow hk,x,?_,fun m=>o.S.mem_alive m hn,hn⟩
 cases q:σ.W.σ σ.s.heap.objs.size with
 |none=>rfl
 |some ob=>rw [o.S.froz _ _ q] at hn;exact Sn hn
theorem Ok.list {n m:Nat}{vs:List V}{ws:List Value}(o:Ok Γ σ) (r:dK σ.W vs ws) :
  Le σ (σ.hp (σ.s.heap.push (iW "list" ws.toArray n)) m)∧Ok Γ (σ.hp (σ.s.heap.push (iW "list" ws.toArray n)) m)∧lN σ (σ.hp (σ.s.heap.push (iW "list" ws.toArray n)) m) (.lst vs) σ.s.heap.objs.size:=
 o.made _ rfl (⟨ws.toArray,n,bQ _ rfl,by simpa using r⟩:kE ..)
end
end
section
section
variable {W:Wd}{prog:Program}{w:World}
noncomputable def Wd.at (W:Wd) (h:Heap):Wd:=⟨h.get?,W.φ,W.hk⟩
noncomputable def pd:Nat→V→PyData
 |0,v=>(Fm v).getD .none
 |n+1,v=>(match v with
  |.tup xs=>.tuple (xs.map (pd n))
  |v=>(Fm v).getD .none)
theorem fB {v:V}{P:V→Prop}(h:iA 0 v=true) (h1:∀s,PyData.strOk s=true→P (.str s)) (h2:∀i,P (.int i)):P v:=by
 cases v <;> first | exact fT h;done | exact h1 _ h | exact h2 _
theorem gS {n:Nat}{v:V}{P:V→Prop}(h:iA (n+1) v=true) (h0:iA 0 v=true→P v) (h1:∀xs,xs.all (iA n)=true→P (.tup xs)):P v:=by
 cases v <;> first | exact fT h;done | exact h0 h | exact h1 _ h
theorem all_cons {α:Type}{p:α→Bool}{x:α}{xs:List α}(h:(x::xs).all p=true):p x=true∧xs.all p=true:=by
 rw [List.all_cons,bU] at h;exact h
theorem RV.key_inj0 {x y:V}{u:Value}(hx:iA 0 x=true) (hy:iA 0 y=true) (rx:RV W x u) (ry:RV W y u):x=y:=by
 refine fB (P:=fun x=>RV W x u→x=y) hx (fun s _ rx=>?_) (fun i rx=>?_) rx <;> (refine wT rx fun t e_e=>?_;clear rx;subst e_e) <;>
  exact fB (P:=fun y=>RV W y _→_=y) hy (fun s _ ry=>by refine wT ry fun t ry=>?_;(first | exact PySem.Value.noConfusion ry | cases ry) <;> rfl) (fun i ry=>by refine wT ry fun t ry=>?_;(first | exact PySem.Value.noConfusion ry | cases ry) <;> rfl) ry
theorem RV.key_at0 {x y:V}{u:Value}{n:Nat}(hx:iA 0 x=true) (hy:iA (n+1) y=true) (rx:RV W x u) (ry:RV W y u):x=y:=
 gS (P:=fun y=>RV W y u→x=y) hy (fun hy ry=>RV.key_inj0 hx hy rx ry) (fun ys _ ry=>by
  obtain ⟨a,vs,m,rfl,_⟩:=ry
  exact fB (P:=fun x=>RV W x (.ref a)→x=.tup ys) hx (fun s _ rx=>by obtain ⟨t,rx⟩:=rx;exact PySem.Value.noConfusion rx) (fun i rx=>by obtain ⟨t,rx⟩:=rx;exact PySem.Value.noConfusion rx) rx) ry
theorem RV.key_inj:∀(n:Nat) {x y:V}{u:Value},iA n x=true→iA n y=true→RV W x u→RV W y u→x=y
 |0,x,y,u,hx,hy,rx,ry=>RV.key_inj0 hx hy rx ry
 |n+1,x,y,u,hx,hy,rx,ry=>by
  refine gS (P:=fun x=>RV W x u→x=y) hx (fun hx rx=>RV.key_at0 hx hy rx ry) (fun xs hxs rx=>?_) rx
  refine gS (P:=fun y=>RV W y u→_=y) hy (fun hy ry=>(RV.key_at0 (n:=n) (y:=.tup xs) hy hxs ry rx).symm) (fun ys hys ry=>?_) ry
  obtain ⟨a,vs,m,rfl,g,r⟩:=rx
  obtain ⟨b,vs',m',e,g',r'⟩:=ry
  cases e
  rw [g] at g'
  cases g'
  have go:∀{xs ys:List V}{us:List Value},xs.all (iA n)=true→ys.all (iA n)=true→dK W xs us→dK W ys us→xs=ys:=by
   intro xs
   induction xs with
   |nil=>
    intro ys us _ _ r r'
    cases (show _=_ from r)
    cases ys with
    |nil=>rfl
    |cons=>refine qZ r' fun _ _ e _=>?_;cases e
   |cons x xs ih=>
    intro ys us h1 h2 r r'
    refine iY r fun v vs e_e=>?_;clear r;subst e_e;intro r1 r2
    cases ys with
    |nil=>cases (show _=_ from r')
    |cons y ys=>
     refine iY r' fun _ _ e r1' r2'=>?_
     obtain ⟨rfl,rfl⟩:=List.cons.inj e
     exact rl (RV.key_inj n (all_cons h1).1 (all_cons h2).1 r1 r1') (rl (ih (all_cons h1).2 (all_cons h2).2 r2 r2') rfl)
  exact rl (go hxs hys r r') rfl
theorem RV.key_keeps {h h':Heap}{d:Addr}{o:Obj}{es:Array DictEntry}{ep:Nat}(ho:h.get? d=some o) (hd:o.data=.dict es ep) (hs:Heap.SameBut d h h') :
  ∀(n:Nat) {x:V}{u:Value},iA n x=true→RV (W.at h) x u→RV (W.at h') x u
 |0,x,u,hx,r=>fB (P:=fun x=>RV (W.at h) x u→RV (W.at h') x u) hx (fun _ _ r=>r) (fun _ r=>r) r
 |n+1,x,u,hx,r=>gS (P:=fun x=>RV (W.at h) x u→RV (W.at h') x u) hx (fun h0 r=>fB (P:=fun x=>RV (W.at h) x u→RV (W.at h') x u) h0 (fun _ _ r=>r) (fun _ r=>r) r) (fun xs hxs r=>by
   obtain ⟨a,vs,m,e,g,r⟩:=r
   have hne:a≠d:=fun q=>by rw [q] at g;cases (ho.symm.trans g);exact PySem.Data.noConfusion hd
   refine RV.tup ⟨a,vs,m,e,(hs.2 a hne).trans g,?_⟩
   clear g
   revert r hxs
   generalize vs.toList=us
   induction xs generalizing us with
   |nil=>exact fun _ r=>r
   |cons x xs ih=>exact fun hxs r=>dK.elim r fun v vs r1 r2=>.cons (RV.key_keeps ho hd hs n (all_cons hxs).1 r1) (ih _ (all_cons hxs).2 r2)) r
theorem xA {h:Heap}{x:V}{u:Value}(hx:iA 0 x=true) (r:RV (W.at h) x u):(∃as,Reads h u (pd 0 x) as)∧(pd 0 x).canLay0=true∧(pd 0 x).depth≤0:=
 fB (P:=fun x=>RV (W.at h) x u→(∃as,Reads h u (pd 0 x) as)∧(pd 0 x).canLay0=true∧(pd 0 x).depth≤0) hx
  (fun _ hs r=>by obtain ⟨t,rfl⟩:=r;exact ⟨⟨_,.str _ _⟩,hs,aN _⟩) (fun _ r=>by obtain ⟨t,rfl⟩:=r;exact ⟨⟨_,.int _ _⟩,rfl,aN _⟩) r
theorem Uq {n:Nat}{x:V}(h0:iA 0 x=true):pd (n+1) x=pd 0 x:=fB (P:=fun x=>pd (n+1) x=pd 0 x) h0 (fun _ _=>rfl) (fun _=>rfl)
theorem tR {h:Heap}:∀(n:Nat) {x:V}{u:Value},iA n x=true→RV (W.at h) x u→(∃as,Reads h u (pd n x) as)∧(pd n x).canLay0=true∧(pd n x).depth≤n
 |0,x,u,hx,r=>xA hx r
 |n+1,x,u,hx,r=>gS (P:=fun x=>RV (W.at h) x u→(∃as,Reads h u (pd (n+1) x) as)∧(pd (n+1) x).canLay0=true∧(pd (n+1) x).depth≤n+1) hx
   (fun h0 r=>by
    refine rl (Uq h0) ?_
    have:=xA h0 r
    exact ⟨this.1,this.2.1,aD this.2.2 (aX _)⟩)
   (fun xs hxs r=>by
    obtain ⟨a,vs,m,rfl,g,q0⟩:=r
    have go:(∃as,ReadsAll h vs.toList (xs.map (pd n)) as)∧PyData.canLayAll0 (xs.map (pd n))=true∧PyData.depthAll (xs.map (pd n))≤n:=by
     clear g
     revert q0
     generalize vs.toList=us
     induction xs generalizing us with
     |nil=>
      intro r
      cases (show _=_ from r)
      exact ⟨⟨_,.nil⟩,rfl,aX _⟩
     |cons x xs ih=>
      intro r
      refine iY r fun v vs e_e=>?_;clear r;subst e_e;intro r1 r2
      refine iE (tR n (all_cons hxs).1 r1) fun z_1 q2 q3=>?_;obtain ⟨as,q1⟩:=z_1
      refine iE (ih (all_cons hxs).2 _ r2) fun z_1 p2 p3=>?_;obtain ⟨bs,p1⟩:=z_1
      refine ⟨⟨_,.cons q1 p1⟩,?_,Nat.max_le.mpr ⟨q3,p3⟩⟩
      show (_&&_)=true
      refine rl q2 (rl p2 ?_)
      rfl
    refine iE go fun z_1 q2 q3=>?_;obtain ⟨as,q1⟩:=z_1
    exact ⟨⟨_,.tuple g rfl rfl q1⟩,q2,cU q3⟩) r
theorem Ni {x y:V}(hx:iA 0 x=true) (hy:iA 0 y=true):PyData.eqv (pd 0 x) (pd 0 y)=decide (x=y):=by
 refine fB (P:=fun x=>PyData.eqv (pd 0 x) (pd 0 y)=decide (x=y)) hx (fun s _=>?_) fun i=>?_
 ·refine fB (P:=fun y=>PyData.eqv (pd 0 (.str s)) (pd 0 y)=decide (_=y)) hy (fun t _=>?_) fun j=>?_
  ·show (s == t)=_
   exact ri Bool.eq_iff_iff (ri beq_iff_eq (rl bZ (rl (V.str.injEq ..) Iff.rfl)))
  ·show false=_
   exact rl (aU (fun e=>by cases e)) rfl
 ·refine fB (P:=fun y=>PyData.eqv (pd 0 (.int i)) (pd 0 y)=decide (_=y)) hy (fun t _=>?_) fun j=>?_
  ·show false=_
   exact rl (aU (fun e=>by cases e)) rfl
  ·show (i == j)=_
   exact ri Bool.eq_iff_iff (ri beq_iff_eq (rl bZ (rl (V.int.injEq ..) Iff.rfl)))
theorem Ur {n:Nat}{x:V}(ys:List V) (h0:iA 0 x=true):(PyData.eqv (pd 0 x) (pd (n+1) (.tup ys))=decide (x=.tup ys))∧(PyData.eqv (pd (n+1) (.tup ys)) (pd 0 x)=decide (.tup ys=x)):=
 fB (P:=fun x=>(PyData.eqv (pd 0 x) (pd (n+1) (.tup ys))=decide (x=.tup ys))∧(PyData.eqv (pd (n+1) (.tup ys)) (pd 0 x)=decide (.tup ys=x))) h0
  (fun _ _=>⟨(aU (fun e=>by exact V.noConfusion e)).symm,(aU (fun e=>by exact V.noConfusion e)).symm⟩) (fun _=>⟨(aU (fun e=>by exact V.noConfusion e)).symm,(aU (fun e=>by exact V.noConfusion e)).symm⟩)
theorem Us:∀(n:Nat) {x y:V},iA n x=true→iA n y=true→PyData.eqv (pd n x) (pd n y)=decide (x=y)
 |0,x,y,hx,hy=>Ni hx hy
 |n+1,x,y,hx,hy=>by
  refine gS (P:=fun x=>PyData.eqv (pd (n+1) x) (pd (n+1) y)=decide (x=y)) hx (fun hx=>?_) (fun xs hxs=>?_)
  ·refine gS (P:=fun y=>PyData.eqv (pd (n+1) x) (pd (n+1) y)=decide (x=y)) hy (fun hy=>?_) (fun ys hys=>?_)
   ·refine rl (Uq hx) (rl (Uq hy) ?_);exact Ni hx hy
   ·refine rl (Uq hx) ?_;exact (Ur ys hx).1
  ·refine gS (P:=fun y=>PyData.eqv (pd (n+1) (.tup xs)) (pd (n+1) y)=decide (.tup xs=y)) hy (fun hy=>?_) (fun ys hys=>?_)
   ·refine rl (Uq hy) ?_;exact (Ur xs hy).2
   ·show PyData.eqvAll (xs.map (pd n)) (ys.map (pd n))=_
    have go:∀{xs ys:List V},xs.all (iA n)=true→ys.all (iA n)=true→PyData.eqvAll (xs.map (pd n)) (ys.map (pd n))=decide (xs=ys):=by
     intro xs
     induction xs with
     |nil=>
      intro ys _ _
      cases ys with
      |nil=>exact (aO rfl).symm
      |cons=>exact (aU (fun e=>by cases e)).symm
     |cons x xs ih=>
      intro ys h1 h2
      cases ys with
      |nil=>exact (aU (fun e=>by cases e)).symm
      |cons y ys=>
       show (PyData.eqv (pd n x) (pd n y)&&PyData.eqvAll (xs.map (pd n)) (ys.map (pd n)))=_
       exact rl (Us n (all_cons h1).1 (all_cons h2).1) (rl (ih (all_cons h1).2 (all_cons h2).2) (ri Bool.eq_iff_iff (rl (bU ..) (rl bZ (rl bZ (rl bZ (rl (List.cons.injEq ..) Iff.rfl)))))))
    exact rl (go hxs hys) (ri Bool.eq_iff_iff (rl bZ (rl bZ (rl (V.tup.injEq ..) Iff.rfl))))
end
end
section
section
variable {W:Wd}{prog:Program}{w:World}
noncomputable def xB:Nat→V→Nat
 |0,_=>1
 |n+1,v=>(match v with
  |.tup xs=>(xs.map (xB n)).sum+1
  |_=>1)
theorem Nj {x:V}{u:Value}{A:Around}{E:Value→Shared→Prop}{s:Shared}{Q:Int→Shared→Prop}(hx:iA 0 x=true) (r:RV W x u) (h:Q (Ft prog w x) { s with toks:=s.toks+1 }):wpAny (model prog w) A (pyHash u) Q E s:=by
 revert r h
 refine fB (P:=fun x=>RV W x u→Q (Ft prog w x) { s with toks:=s.toks+1 }→wpAny (model prog w) A (pyHash u) Q E s) hx (fun s _ r h=>?_) fun i r h=>?_
 ·obtain ⟨t,rfl⟩:=r
  exact (strKind prog w).pyHash (by simp [strKind,Value.isStrOf]) h
 ·obtain ⟨t,rfl⟩:=r
  exact (intKind prog w).pyHash (by simp [intKind,Value.isInt]) h
theorem Fu:∀(n:Nat) {x:V}{u:Value}{A:Around}{E:Value→Shared→Prop}{s:Shared}{Q:Int→Shared→Prop},A.units+n<cLine→iA n x=true→RV (W.at s.heap) x u→Q (sE prog w n x) { s with toks:=s.toks+xB n x }→wpAny (model prog w) A (pyHash u) Q E s
 |0,x,u,A,E,s,Q,hu,hx,r,h=>Nj hx r h
 |n+1,x,u,A,E,s,Q,hu,hx,r,h=>by
  revert r h
  refine gS (P:=fun x=>RV (W.at s.heap) x u→Q (sE prog w (n+1) x) { s with toks:=s.toks+xB (n+1) x }→wpAny (model prog w) A (pyHash u) Q E s) hx (fun h0 r h=>Nj h0 r ?_) fun xs hxs r h=>?_
  ·exact fB (P:=fun x=>Q (sE prog w (n+1) x) { s with toks:=s.toks+xB (n+1) x }→Q (Ft prog w x) { s with toks:=s.toks+1 }) h0 (fun _ _ h=>h) (fun _ h=>h) h
  obtain ⟨a,items,m,rfl,g,q0⟩:=r
  have g:s.heap.get? a=some (iW "tuple" items m):=g
  have hT:s.TypeIs (.ref a) "tuple":=⟨_,g,rfl⟩
  unfold pyHash
  first | unfold pyHashByItsType | skip
  first | refine aC (wpAny_cRoomFor_or (.inr (by exact aR (Nat.lt_add_of_pos_right (N3 (aW (aX _) (aN _)))) (cI hu))) ?_) | skip
  refine aC (wpAny_specialOf hT F.slot_tuple_hash.lookup ?_)
  show wpAny _ _ (if (some (Value.builtin "tuple.__hash__") == some Value.none)=true then _ else _) Q E s
  rw [if_neg (by rw [beq_builtin_none];exact Bool.false_ne_true)]
  refine aC (wpAny_specialOf hT F.slot_tuple_hash.lookup ?_)
  show wpAny _ _ (callSpecialIfBoundUnlessNone? (.ref a) "__hash__" _ >>= _) Q E s
  refine aC (wpAny_callSpecialIfBoundUnlessNone?_slot hT F.slot_tuple_hash (wpAny_call_entry F.slot_tuple_hash hT F.entry_tuple_hash ?_ (F.args_tuple_hash_1 _)))
  show wpAny _ _ (Builtin.Tuple.tupleItemsOf (.ref a) >>= _) _ _ s
  refine aC (wpAny_tupleItemsOf g rfl ?_)
  refine aC ?_
  refine rr Array.forIn_toList ?_
  refine wpAny_forIn_list _
   (fun rest (b:Array Int) s'=>∃done left,xs=done++left∧dK (W.at s.heap) left rest∧b.toList=done.map (sE prog w n)∧s'={ s with toks:=s.toks+(done.map (xB n)).sum })
   _ ?_ ?_ _ _ ⟨[],xs,rfl,q0,rfl,rfl⟩
  ·rintro x rest b s' ⟨done,left,rfl,hl,hb,rfl⟩
   cases left with
   |nil=>cases (show _=_ from hl)
   |cons y left=>
    refine iY hl fun _ _ e r1 r2=>?_
    obtain ⟨rfl,rfl⟩:=List.cons.inj e
    have hy:iA n y=true:=bR.mp hxs y (by simp)
    refine aC (Fu n (by show A.units+1+n<cLine;exact cR (bM (Nat.add_right_comm _ _ _)) hu) hy r1 ?_)
    exact aK ⟨done++[y],left,by simp,r2,by simp [hb],by simp [Nat.add_assoc]⟩
  ·rintro b s' ⟨done,left,rfl,hl,hb,rfl⟩
   cases left with
   |cons y left=>refine qZ hl fun _ _ e _=>?_;cases e
   |nil=>
    rw [bV] at h
    show wpAny _ _ (retInt (Builtin.Tuple.tupleHashOf b.toList)) _ _ _
    refine rl hb ?_
    refine wpAny_ret_mkInt ?_
    have h:Q (reduceHash (Builtin.Tuple.tupleHashOf (done.map (sE prog w n)))) { s with toks:=s.toks+(done.map (xB n)).sum+1 }:=h
    revert h
    generalize Builtin.Tuple.tupleHashOf (done.map (sE prog w n))=z
    intro h
    show wpAny _ _ (if (decide (-(2:Int) ^ 63≤z)&&decide (z<2 ^ 63))=true then _ else _) Q E _
    unfold reduceHash at h
    by_cases hr:(decide (-(2:Int) ^ 63≤z)&&decide (z<2 ^ 63))=true
    ·refine rl (if_pos hr) ?_
     rw [if_pos hr] at h
     exact aK h
    ·refine rl (if_neg hr) ?_
     rw [if_neg hr] at h
     exact aC (wpAny_rule (aK h))
theorem Nk {k:Nat}{x:V}{u:Value}{A:Around}{E:Value→Shared→Prop}{s:Shared}{Q:Bool→Shared→Prop}(hx:iA 0 x=true) (r:RV W x u) (h:Q true s):wpAny (model prog w) A (eqIsQuiet k u) Q E s:=
 fB (P:=fun x=>RV W x u→wpAny (model prog w) A (eqIsQuiet k u) Q E s) hx
  (fun _ _ r=>by obtain ⟨t,rfl⟩:=r;refine rl (eqIsQuiet_byValue k rfl) ?_;exact aK h) (fun _ r=>by obtain ⟨t,rfl⟩:=r;refine rl (eqIsQuiet_byValue k rfl) ?_;exact aK h) r
theorem Ay:∀(n:Nat) {k:Nat}{x:V}{u:Value}{A:Around}{E:Value→Shared→Prop}{s:Shared}{Q:Bool→Shared→Prop},n≤k→iA n x=true→RV (W.at s.heap) x u→Q true s→wpAny (model prog w) A (eqIsQuiet k u) Q E s
 |0,k,x,u,A,E,s,Q,_,hx,r,h=>Nk hx r h
 |n+1,k,x,u,A,E,s,Q,hk,hx,r,h=>by
  obtain ⟨k,rfl⟩:∃j,k=j+1:=⟨k-1,by exact q2 hk⟩
  revert r
  refine gS (P:=fun x=>RV (W.at s.heap) x u→wpAny (model prog w) A (eqIsQuiet (k+1) u) Q E s) hx (fun h0 r=>Nk h0 r h) fun xs hxs r=>?_
  obtain ⟨a,items,m,rfl,g,q0⟩:=r
  have g:s.heap.get? a=some (iW "tuple" items m):=g
  have hT:s.TypeIs (.ref a) "tuple":=⟨_,g,rfl⟩
  unfold eqIsQuiet
  refine aC (wpAny_specialOf hT F.slot_tuple_eq.lookup ?_)
  show wpAny _ _ (isInstance (.ref a) (.type "tuple") >>= _) _ _ s
  refine aC (wpAny_isInstance hT isSubtype_tuple_tuple ?_)
  simp only [Bool.not_true,Bool.false_eq_true,if_false]
  refine aC (wpAny_seqItems g rfl ?_)
  refine aC ?_
  show wpAny _ _ (forIn items _ _) _ _ s
  refine rr Array.forIn_toList ?_
  refine wpAny_forIn_list _ (fun rest r s'=>r.1=none∧s'=s∧∃left,left.all (iA n)=true∧dK (W.at s.heap) left rest) _ ?_ ?_ _ _ ⟨rfl,rfl,xs,hxs,q0⟩
  ·rintro v rest r s' ⟨hr,rfl,left,hl,hq⟩
   cases left with
   |nil=>cases (show _=_ from hq)
   |cons y left=>
    refine iY hq fun _ _ e r1 r2=>?_
    obtain ⟨rfl,rfl⟩:=List.cons.inj e
    refine aC (Ay n (Nat.le_of_succ_le_succ hk) (all_cons hl).1 r1 ?_)
    simp only [Bool.not_true,Bool.false_eq_true,if_false]
    exact aK ⟨rfl,rfl,left,(all_cons hl).2,r2⟩
  ·rintro ⟨r1,r2⟩ s' ⟨hr,rfl,_⟩
   simp only at hr
   subst hr
   exact aK h
noncomputable def sF (prog:Program) (w:World) (W:Wd):HeapKind prog w V where
 is:=fun h k a=>iA 4 k=true∧RV (W.at h) k (.ref a)
 hash:=sE prog w 4
 draws:=xB 4
 room:=fun A=>A.units+4<cLine
 inj:=fun hx hy=>RV.key_inj 4 hx.1 hy.1 hx.2 hy.2
 keeps:=fun x ho hd hs=>⟨x.1,RV.key_keeps ho hd hs 4 x.1 x.2⟩
 pyHash:=fun hu hk h=>Fu 4 hu hk.1 hk.2 h
 eqBool:=fun {A E s x y a b Q} hu hx hy h=>by
  refine iE (tR 4 hx.1 hx.2) fun z_1 p2 p3=>?_;obtain ⟨as,p1⟩:=z_1
  refine iE (tR 4 hy.1 hy.2) fun z_1 q2 q3=>?_;obtain ⟨bs,q1⟩:=z_1
  have hu:A.units+4<cLine:=hu
  refine SeqAt.eqBoolOverData _ _ _ _ _ _ _ _ _ as bs _ p1 q1 p2 q2 ?_ ?_
  ·have:=Nat.min_le_left (pd 4 x).depth (pd 4 y).depth
   omega
  ·refine rl (Us 4 hx.1 hy.1) ?_
   exact h
 quiet:=fun hk h=>Ay 4 (by decide) hk.1 hk.2 h
end
end
section
section
variable {X:Cx}{W:Wd}{h:Heap}{prog:Program}{w:World}{A:Around}
theorem uU {x:V}(e:Cw x=true):∃s,x=.str s:=by
 cases x <;> first | exact ⟨_,rfl⟩ | exact fT e
theorem uV {x:V}(e:Cy x=true):∃s,x=.int s:=by
 cases x <;> first | exact ⟨_,rfl⟩ | exact fT e
theorem tT {x:V}(e:nH x=true):iA 4 x=true:=by
 cases x <;> first | exact e | exact fT e
theorem Az {x:V}{u:Value}(e:nH x=true) (r:RV W x u):∃a,u=.ref a:=by
 cases x <;> first | (obtain ⟨a,_,_,e,_⟩:=r;exact ⟨a,e⟩) | exact fT e
structure KF (prog:Program) (w:World) (A:Around) (h:Heap) (d:Addr) (x:Value) (a:V) (ks:List V):Prop where
 hash:∀{E:Value→Shared→Prop}{s:Shared}{Q:Int→Shared→Prop},s.heap=h→(∀n,Q (eO prog w a) { s with toks:=s.toks+n })→wpAny (model prog w) A (pyHash x) Q E s
 find:∀{E:Value→Shared→Prop}{s:Shared}{Q:Option Nat→Shared→Prop},s.heap=h→(a∉ks→Q none s)→(∀j,ks[j]? = some a→Q (some j) s)→wpAny (model prog w) A (dictFind d x (eO prog w a)) Q E s
theorem Ut {es:Array DictEntry}{ks:List V}(r1:dK W ks (es.toList.map (·.key))) (r3:es.toList.map (·.hash)=ks.map (eO prog w)) {j:Nat}{e:DictEntry}(he:es[j]? = some e):∃k,ks[j]? = some k∧RV W k e.key∧e.hash=eO prog w k:=by
 have hl:j<ks.length:=by
  have:=r1.length
  rw [aA] at this
  refine rl this ?_
  exact (Array.getElem?_eq_some_iff.mp he).1
 have hk:ks[j]? = some ks[j]:=aP hl
 refine dF (r1.get hk) fun u hu r=>?_
 have he':es.toList[j]? = some e:=by refine rl (cF) ?_;exact he
 have h3:(es.toList.map (·.hash))[j]? = (ks.map (eO prog w))[j]?:=by exact rl r3 rfl
 rw [bG,he',Option.map_some] at hu
 rw [bG,bG,he',hk,Option.map_some,Option.map_some] at h3
 obtain rfl:=aB hu
 exact ⟨_,hk,r,aB h3⟩
theorem Dj {K:Type}[DecidableEq K] (knd:KeyKind prog w K) (emb:K→V) (hemb:∀{k u},RV W (emb k) u→knd.is k u=true) (hh:∀k,eO prog w (emb k)=knd.hash k)
  {d:Addr}{es:Array DictEntry}{n:Nat}{ks:List V}(g:h.get? d=some (jH es n)) (r1:dK W ks (es.toList.map (·.key))) (r3:es.toList.map (·.hash)=ks.map (eO prog w))
  (hs:∀x∈ks,∃k,x=emb k) {k:K}{x:Value}(ra:RV W (emb k) x):KF prog w A h d x (emb k) ks where
 hash:=fun {E s Q} e hQ=>knd.pyHash (hemb ra) (by refine rr (hh ..) ?_;exact hQ 1)
 find:=fun {E s Q} e h1 h2=>by
  have ko:KeysOf knd es:=fun e he=>by
   obtain ⟨j,hj,rfl⟩:=Array.mem_iff_getElem.mp he
   refine fU (Ut r1 r3 (Array.getElem?_eq_getElem hj)) fun v q1 q2 q3=>?_
   obtain ⟨k',rfl⟩:=hs v (bT q1)
   exact ⟨k',hemb q2,q3.trans (hh k')⟩
  refine rl (hh ..) ?_
  refine wpAny_dictFind_of (hemb ra) (by refine rl e ?_;exact g) rfl ko ?_
  cases q:es.findIdx? fun e=>knd.is k e.key with
  |none=>
   refine h1 fun m=>?_
   obtain ⟨j,hj⟩:=List.mem_iff_getElem?.mp m
   refine dF (r1.get hj) fun u q1 q2=>?_
   rw [bG,cF] at q1
   cases q3:es[j]? with
   |none=>rw [q3] at q1;exact nS q1
   |some e=>
    rw [q3] at q1
    obtain rfl:=aB q1
    have:=Array.findIdx?_eq_none_iff.mp q e (Array.mem_of_getElem? q3)
    rw [hemb q2] at this
    exact tF this
  |some j=>
   refine dF (Array.findIdx?_eq_some_iff_getElem.mp q) fun hj q1 _=>?_
   refine fU (Ut r1 r3 (Array.getElem?_eq_getElem hj)) fun v p1 p2 _=>?_
   obtain ⟨k',rfl⟩:=hs v (bT p1)
   rw [←knd.inj _ _ _ q1 (hemb p2)] at p1
   exact h2 j p1
theorem AW (hz:∀b o,W.σ b=some o→h.get? b=some o) (hu:A.units+4<cLine)
  {d:Addr}{es:Array DictEntry}{n:Nat}{ks:List V}(g:h.get? d=some (jH es n)) (r1:dK W ks (es.toList.map (·.key))) (r3:es.toList.map (·.hash)=ks.map (eO prog w)) (r4:ks.Nodup)
  (hs:∀x∈ks,nH x=true) {a:V}{x:Value}(ha:nH a=true) (ra:RV W a x):KF prog w A h d x a ks:=by
 have up:∀{v u},RV W v u→RV (W.at h) v u:=fun r=>r.mono (W':=W.at h) ⟨hz,List.prefix_refl _,rfl⟩
 obtain ⟨b,rfl⟩:=Az ha ra
 have go:∀{es:List DictEntry}{ks:List V},dK W ks (es.map (·.key))→es.map (·.hash)=ks.map (eO prog w)→(∀x∈ks,nH x=true)→
   ∃xs:List (V×Addr×Value),es=xs.map (entryOfKey (sF prog w W))∧(∀x∈xs,(sF prog w W).is h x.1 x.2.1)∧xs.map (·.1)=ks:=by
  intro es
  induction es with
  |nil=>
   intro ks r _ _
   cases ks with
   |nil=>exact ⟨[],rfl,fun _ m=>(by cases m),rfl⟩
   |cons=>refine qZ r fun _ _ e _=>?_;cases e
  |cons e es ih=>
   intro ks r hh hs
   cases ks with
   |nil=>cases (show _=_ from r)
   |cons k ks=>
    refine iY r fun _ _ q rk r=>?_
    obtain ⟨rfl,rfl⟩:=List.cons.inj q
    rw [cQ,cQ,List.cons.injEq] at hh
    refine fU (ih r hh.2 fun x m=>hs x (.tail _ m)) fun xs e1 e2 e3=>?_
    obtain ⟨c,ec⟩:=Az (hs k (.head _)) rk
    rw [ec] at rk
    refine ⟨(k,c,e.val)::xs,?_,?_,by exact rl cQ (rl e3 rfl)⟩
    ·refine rl cQ (rr e1 ?_)
     obtain ⟨eh,ek,ev⟩:=e
     subst ec
     cases hh.1
     rfl
    ·intro x m
     rcases aZ.mp m with rfl | m
     ·exact ⟨tT (hs _ (.head _)),up rk⟩
     ·exact e2 x m
 refine fU (go r1 r3 hs) fun xs e1 e2 e_e=>?_;subst e_e
 refine ⟨fun {E s Q} e hQ=>?_,fun {E s Q} e h1 h2=>?_⟩
 ·exact (sF prog w W).pyHash (k:=a) hu ⟨tT ha,by refine rl e ?_;exact up ra⟩ (hQ _)
 ·refine wpAny_dictFind_heap (knd:=sF prog w W) (k:=a) (xs:=xs) hu ⟨tT ha,by refine rl e ?_;exact up ra⟩ (by refine rl e ?_;exact g) rfl e1 (fun x m=>by refine rl e ?_;exact e2 x m) r4 (fun no=>h1 fun m=>?_) fun j p hj=>h2 j (by refine rl (bG) (rl hj ?_);rfl)
  refine dF (aJ.mp m) fun y m' e_e=>?_;subst e_e
  obtain ⟨j,hj⟩:=List.mem_iff_getElem?.mp m'
  exact no j y.2 hj
theorem Ba (hz:∀b o,W.σ b=some o→h.get? b=some o) (hu:A.units+4<cLine)
  {d:Addr}{es:Array DictEntry}{n:Nat}{ks:List V}(g:h.get? d=some (jH es n)) (r1:dK W ks (es.toList.map (·.key))) (r3:es.toList.map (·.hash)=ks.map (eO prog w)) (r4:ks.Nodup)
  {a:V}{x:Value}(hk:fA ks a=true) (ra:RV W a x):KF prog w A h d x a ks:=by
 unfold fA at hk
 rw [Bool.or_eq_true,Bool.or_eq_true] at hk
 rcases hk with hk | hk | hk
 ·obtain ⟨s,rfl⟩:=uU (all_cons hk).1
  exact Dj (strKind prog w) V.str (fun r=>by obtain ⟨t,rfl⟩:=r;simp [strKind,Value.isStrOf]) (fun _=>rfl) g r1 r3 (fun x m=>uU (bR.mp (all_cons hk).2 x m)) ra
 ·obtain ⟨s,rfl⟩:=uV (all_cons hk).1
  exact Dj (intKind prog w) V.int (fun r=>by obtain ⟨t,rfl⟩:=r;simp [intKind,Value.isInt]) (fun _=>rfl) g r1 r3 (fun x m=>uV (bR.mp (all_cons hk).2 x m)) ra
 ·exact AW hz hu g r1 r3 r4 (fun x m=>bR.mp (all_cons hk).2 x m) (all_cons hk).1 ra
end
end
theorem sG:∀{ks vs:List V}{j:Nat}{a:V},ks.Nodup→ks[j]? = some a→dfind ks vs a=vs[j]?
 |[],_,_,_,_,e=>by exact nS e
 |k::ks,[],j,a,_,_=>by cases j <;> rfl
 |k::ks,v::vs,0,a,_,e=>by obtain rfl:=aB e;exact if_pos rfl
 |k::ks,v::vs,j+1,a,nd,e=>(if_neg (fun q:k=a=>(cA.mp nd).1 (q ▸ bT e))).trans (sG (cA.mp nd).2 e)
theorem lB:∀{ks vs:List V}{a:V},a∉ks→dfind ks vs a=none
 |[],_,_,_=>rfl
 |k::ks,[],a,_=>rfl
 |k::ks,v::vs,a,h=>(if_neg (fun q:k=a=>h (q ▸ .head _))).trans (lB fun m=>h (.tail _ m))
theorem Nl:∀{ks vs:List V}{j:Nat}{a z:V},ks.Nodup→ks[j]? = some a→Tu ks vs a z=vs.set j z
 |[],_,_,_,_,_,e=>by exact nS e
 |k::ks,[],j,a,_,_,_=>by cases j <;> rfl
 |k::ks,v::vs,0,a,_,_,e=>by obtain rfl:=aB e;exact if_pos rfl
 |k::ks,v::vs,j+1,a,_,nd,e=>(if_neg (fun q:k=a=>(cA.mp nd).1 (q ▸ bT e))).trans (aQ (v::·) (Nl (cA.mp nd).2 e))
section
noncomputable abbrev Jz (hk:V→Int) (a:V) (x u:Value) (es:Array DictEntry):Array DictEntry:=es.push ⟨hk a,x,u⟩
noncomputable abbrev Qd (j:Nat) (u:Value) (es:Array DictEntry):Array DictEntry:=es.modify j fun e=>{ e with val:=u }
section
variable {W:Wd}{h:Heap}{hk:V→Int}{ks:List V}{d:Addr}{es:Array DictEntry}{n:Nat}{P Q:List Value→Prop}{a:V}{x u:Value}
theorem fJ.new {e:Bool}(hep:e=true→n=ks.length) (m:(d == sysModules)=false) (r1:dK W ks (es.toList.map (·.key))) (r2:Q (es.toList.map (·.val)++[u])) (r3:es.toList.map (·.hash)=ks.map hk) (r4:ks.Nodup) (hn:a∉ks) (ra:RV W a x) (g:h.get? d=some (jH es n)) :
  fJ hk (ks++[a]) (dK W (ks++[a])) Q d (fun o=>(h.update d (Obj.mapDictKeys (Jz hk a x u))).get? d=some o∧(e=true→QM o=(ks++[a]).length)):=by
 refine ⟨Jz hk a x u es,n+1,m,⟨Heap.get?_update_self _ g rfl,fun q=>by refine rl aE (rr (hep q) ?_);rfl⟩,?_,?_,?_,cT.mpr ⟨r4,by simp,fun b mb c mc ec=>hn (by rw [aG.mp mc] at ec;exact ec ▸ mb)⟩⟩
 ·refine rl Array.toList_push (rl aM ?_);exact r1.snoc ra
 ·refine rl Array.toList_push (rl aM ?_);exact r2
 ·refine rl Array.toList_push (rl aM (rl aM (rl r3 ?_)));rfl
theorem fJ.old {e:Bool}(hep:e=true→n=ks.length) {j:Nat}{vs:List V}{z:V}(m:(d == sysModules)=false) (r1:dK W ks (es.toList.map (·.key))) (r2:dK W vs (es.toList.map (·.val))) (r3:es.toList.map (·.hash)=ks.map hk) (r4:ks.Nodup) (hj:ks[j]? = some a) (rz:RV W z u) (g:h.get? d=some (jH es n)) :
  fJ hk ks (dK W ks) (dK W (Tu ks vs a z)) d (fun o=>(h.update d (Obj.mapDict (Qd j u))).get? d=some o∧(e=true→QM o=ks.length)):=by
 have e:∀{β:Type}(f:DictEntry→β),(∀e,f { e with val:=u }=f e)→(Qd j u es).toList.map f=es.toList.map f:=fun f hf=>by
  refine List.ext_getElem? fun i=>?_
  refine rl Array.toList_modify (rl (bG) (rl (bG) (rl (List.getElem?_modify ..) ?_)))
  split <;> cases es.toList[i]? <;> first | rfl | exact aQ some (hf _)
 refine ⟨Qd j u es,n,m,⟨Heap.get?_update_self _ g rfl,hep⟩,?_,?_,?_,r4⟩
 ·refine rl (e (·.key) fun _=>rfl) ?_;exact r1
 ·have:(Qd j u es).toList.map (·.val)=(es.toList.map (·.val)).set j u:=by
   refine List.ext_getElem? fun i=>?_
   refine rl Array.toList_modify (rl (bG) (rl (List.getElem?_modify ..) (rl (List.getElem?_set) (rl (bG) (rl (aA ..) ?_)))))
   split
   ·rename_i q
    subst q
    split
    ·rename_i q
     refine rl (aP q) ?_;rfl
    ·rename_i q
     refine rl (List.getElem?_eq_none (Nat.le_of_not_lt q)) ?_;rfl
   ·cases es.toList[i]? <;> rfl
  refine rl this (rl (Nl r4 hj) ?_)
  exact r2.set rz
 ·refine rl (e (·.hash) fun _=>rfl) ?_;exact r3
end
section
variable {prog:Program}{w:World}{A:Around}{E:Value→Shared→Prop}{s:Shared}{ks:List V}{d:Addr}{es:Array DictEntry}{n:Nat}{a:V}{x:Value}
theorem GU {Q:Option Value→Shared→Prop}(kf:KF prog w A s.heap d x a ks) (g:s.heap.get? d=some (jH es n))
  (h1:a∉ks→∀t,Q none { s with toks:=t }) (h2:∀j:Nat,ks[j]? = some a→∀t,Q (es[j]?.map DictEntry.val) { s with toks:=t }):wpAny (model prog w) A (dictGet d x) Q E s:=by
 unfold dictGet
 try with_reducible refine bS ?_
 exact aC (kf.hash rfl fun t=>aC (kf.find rfl (fun m=>aK (h1 m _)) fun j hj=>aC (wpAny_dictEntries (s:={ s with toks:=s.toks+t }) g rfl (aK (h2 j hj _)))))
theorem xC {Q:Bool→Shared→Prop}(kf:KF prog w A.in1 s.heap d x a ks) (hd:(d == sysModules)=false) (g:s.heap.get? d=some (jH es n)) (hl:ks.length=es.size)
  (h:∀t,Q (decide (a∈ks)) { s with toks:=t }):wpAny (model prog w) A (contains (.ref d) x) Q E s:=by
 have hT:s.TypeIs (.ref d) "dict":=⟨_,g,rfl⟩
 unfold contains
 try with_reducible refine bS ?_
 refine aC (wpAny_specialOf hT slot_dict_contains.lookup ?_)
 show wpAny _ _ (if (some (Value.builtin "dict.__contains__") == some Value.none)=true then _ else _) _ E s
 rw [if_neg (by rw [beq_builtin_none];exact Bool.false_ne_true)]
 refine aC (wpAny_callSpecialUnlessNone?_slot (name:=Str.ofString "__contains__") hT slot_dict_contains
  (wpAny_call_entry slot_dict_contains hT entry_dict_contains ?_ (args_dict_contains _ _)))
 show wpAny _ _ (dictGet d x >>= _) _ _ s
 refine aC (GU kf g (fun hn t=>?_) fun j hj t=>?_)
 ·show wpAny _ _ (Builtin.Dict.pendingKey? d x >>= _) _ _ _
  have:=h t
  rw [aU hn] at this
  exact aC (wpAny_pendingKey_other hd (aK ⟨_,rfl,wpAny_truthy_bool this⟩))
 ·have:=h t
  rw [aO (bT hj)] at this
  refine rl (Array.getElem?_eq_getElem (hl ▸ (aS.mp hj).1)) ?_
  show wpAny _ _ (ret (.bool true)) _ _ _
  exact aK ⟨_,rfl,wpAny_truthy_bool this⟩
theorem Qe {Q:Value→Shared→Prop}(kf:KF prog w A.in1 s.heap d x a ks) (g:s.heap.get? d=some (jH es n)) (hm:a∈ks) (hQ:∀(j:Nat) (e:DictEntry) t,ks[j]? = some a→es[j]? = some e→Q e.val { s with toks:=t }) (hl:ks.length=es.size) :
  wpAny (model prog w) A (getItem (.ref d) x) Q E s:=by
 have hT:s.TypeIs (.ref d) "dict":=⟨_,g,rfl⟩
 unfold getItem
 try with_reducible refine bS ?_
 refine aC (wpAny_sequenceKey hT (by decide) ?_)
 refine aC (wpAny_callSpecial?_slot (name:=Str.ofString "__getitem__") hT slot_dict_getitem
  (wpAny_call_entry slot_dict_getitem hT entry_dict_getitem ?_ (args_dict_getitem _ _)))
 show wpAny _ _ (dictGet d x >>= _) _ _ s
 refine aC (GU kf g (fun hn=>absurd hm hn) fun j hj t=>?_)
 have q:=Array.getElem?_eq_getElem (hl ▸ (aS.mp hj).1)
 have:=hQ j _ t hj q
 refine rl q ?_
 exact aK ⟨_,rfl,aK this⟩
theorem Uu {u:Value}{Q:Unit→Shared→Prop}(kf:KF prog w A s.heap d x a ks) (g:s.heap.get? d=some (jH es n)) (hz:es.size≤sizeLine)
  (h1:a∉ks→∀t,Q () { s with heap:=s.heap.update d (Obj.mapDictKeys (Jz (eO prog w) a x u)),toks:=t })
  (h2:∀j:Nat,ks[j]? = some a→∀t,Q () { s with heap:=s.heap.update d (Obj.mapDict (Qd j u)),toks:=t }):wpAny (model prog w) A (dictSet d x u) Q E s:=by
 unfold dictSet
 try with_reducible refine bS ?_
 refine aC (kf.hash rfl fun t=>?_)
 unfold dictSetHashed
 try with_reducible refine bS ?_
 refine aC (kf.find rfl (fun m=>?_) fun j hj=>?_)
 ·exact aC (wpAny_rule (wpAny_updateDictKeys (hz:=hz) (s:={ s with toks:=s.toks+t }) g rfl (h1 m _)))
 ·exact aC (wpAny_rule (aC (wpAny_updateDict (s:={ s with toks:=s.toks+t }) g rfl (wpAny_point (h2 j hj _)))))
theorem Qf {u:Value}{Q:Unit→Shared→Prop}(kf:KF prog w A.in1 s.heap d x a ks) (g:s.heap.get? d=some (jH es n)) (hz:es.size≤sizeLine)
  (h1:a∉ks→∀t,Q () { s with heap:=s.heap.update d (Obj.mapDictKeys (Jz (eO prog w) a x u)),toks:=t })
  (h2:∀j:Nat,ks[j]? = some a→∀t,Q () { s with heap:=s.heap.update d (Obj.mapDict (Qd j u)),toks:=t }):wpAny (model prog w) A (setItem (.ref d) x u) Q E s:=by
 have hT:s.TypeIs (.ref d) "dict":=⟨_,g,rfl⟩
 unfold setItem
 try with_reducible refine bS ?_
 refine aC (wpAny_sequenceKey hT (by decide) ?_)
 refine aC (wpAny_callSpecial?_slot (name:=Str.ofString "__setitem__") hT slot_dict_setitem
  (wpAny_call_entry slot_dict_setitem hT entry_dict_setitem ?_ (args_dict_setitem _ _ _)))
 show wpAny _ _ (Builtin.Dict.notOrdered "__setitem__" ⟨[.ref d,x,u],[]⟩ >>= _) _ _ s
 refine aC (wpAny_notOrdered_dict hT ?_)
 show wpAny _ _ (dictSet d x u >>= _) _ _ s
 exact aC (Uu kf g hz (fun m t=>aK ⟨.none,rfl,aK (h1 m t)⟩) fun j hj t=>aK ⟨.none,rfl,aK (h2 j hj t)⟩)
theorem NO {Q:Value→Shared→Prop}(kf:KF prog w A.in1 s.heap d x a ks) (g:s.heap.get? d=some (jH es n)) (hz:es.size≤sizeLine) (hl:ks.length=es.size) (hm:a∈ks) (hp:(keyPart x).isSome=true)
  (hQ:∀(j:Nat) (e:DictEntry) t,ks[j]? = some a→es[j]? = some e→Q e.val { s with heap:=s.heap.update d (Obj.mapDictKeys (·.eraseIdxIfInBounds j)),toks:=t }):wpAny (model prog w) A (call (.builtin "dict.pop") [.ref d,x]) Q E s:=by
 have hT:s.TypeIs (.ref d) "dict":=⟨_,g,rfl⟩
 refine wpAny_call_entry PySem.F.slot_dict_pop hT PySem.F.entry_dict_pop ?_ (PySem.F.args_dict_pop_2 _ _)
 unfold Builtin.«dict.pop»
 refine aC ?_
 unfold Builtin.Dict.keyAndDefault
 refine aC (wpAny_notOrdered_dict hT ?_)
 show wpAny _ _ (pure (d,x,none)) _ _ s
 refine aK ?_
 simp only [hp,if_true]
 refine aC (aK ?_)
 simp only [Bool.false_eq_true,if_false]
 refine aC ?_
 unfold Builtin.Dict.takeOut
 try with_reducible refine bS ?_
 refine aC (kf.hash rfl fun t=>aC (kf.find rfl (fun m=>absurd hm m) fun j hj=>?_))
 have q:=Array.getElem?_eq_getElem (hl ▸ (aS.mp hj).1)
 refine aC (wpAny_dictEntries (s:={ s with toks:=s.toks+t }) g rfl ?_)
 refine rl q ?_
 refine aC (wpAny_updateDictKeys (hz:=hz) (s:={ s with toks:=s.toks+t }) g rfl (aK ?_))
 simp only [Option.isNone_some,Bool.false_eq_true,if_false]
 exact aC (wpAny_letGo (aK ⟨_,rfl,hQ j _ _ hj q⟩))
theorem NP {Q:Value→Shared→Prop}(hd:(d == sysModules)=false) (g:s.heap.get? d=some (jH es n)) (hfit:(es.size:Int)<2 ^ 63)
  (h:∀t t',Q (.int es.size t) { s with toks:=t' }):wpAny (model prog w) A (call (.builtin "len") [.ref d]) Q E s:=by
 have hT:s.TypeIs (.ref d) "dict":=⟨_,g,rfl⟩
 refine Calls.call_function_entry kind_len plain_len entry_len (args_len1 _) ?_
 unfold Builtin.«len»
 refine aC (m:=oneArg "len" _) (aK ?_)
 refine aC (m:=callSpecial? (.ref d) (Str.ofString "__len__")) (wpAny_callSpecial?_slot (name:=Str.ofString "__len__") hT F.slot_dict_len
  (wpAny_call_entry F.slot_dict_len hT F.entry_dict_len ?_ (F.args_dict_len_1 _)))
 show wpAny _ _ (dictSize d >>= _) _ _ s
 unfold dictSize
 refine aC (aC (wpAny_dictEntries g rfl (aK ?_)))
 show wpAny _ _ (Builtin.Dict.pendingCount d >>= _) _ _ s
 refine aC (wpAny_pendingCount_other hd ?_)
 refine wpAny_ret_mkInt ?_
 refine rl (Nat.add_zero ..) ?_
 show wpAny _ _ _ _ _ { s with toks:=s.toks+1 }
 refine aC (bS (aK ?_))
 refine aC (wpAny_letGo ?_)
 show wpAny _ _ (if ((es.size:Nat):Int)<0 then _ else _) _ _ _
 refine rl (if_neg (by exact q5)) ?_
 show wpAny _ _ (if ((es.size:Nat):Int)≥2 ^ 63 then _ else _) _ _ _
 refine rl (if_neg (by exact q4 hfit)) ?_
 exact aC (wpAny_mkInt (aK ⟨_,rfl,h _ _⟩))
theorem Uv {u:Value}{Q:Value→Shared→Prop}(kf:KF prog w A.in1 s.heap d x a ks) (hd:(d == sysModules)=false) (g:s.heap.get? d=some (jH es n)) (hz:es.size≤sizeLine) (hl:ks.length=es.size)
  (h1:a∉ks→∀t,Q u { s with heap:=s.heap.update d (Obj.mapDictKeys (Jz (eO prog w) a x u)),toks:=t })
  (h2:∀(j:Nat) (e:DictEntry),ks[j]? = some a→es[j]? = some e→∀t,Q e.val { s with toks:=t }):wpAny (model prog w) A (call (.builtin "dict.setdefault") [.ref d,x,u]) Q E s:=by
 have hT:s.TypeIs (.ref d) "dict":=⟨_,g,rfl⟩
 refine wpAny_call_entry F.slot_dict_setdefault hT F.entry_dict_setdefault ?_ (F.args_dict_setdefault_3 _ _ _)
 unfold Builtin.«dict.setdefault»
 refine aC ?_
 unfold Builtin.Dict.keyAndDefault
 refine aC (wpAny_notOrdered_dict hT ?_)
 show wpAny _ _ (pure (d,x,some u)) _ _ s
 refine aK ?_
 show wpAny _ _ (if (d == sysModules)=true then _ else (dictSetDefault d x u >>= _)) _ _ s
 refine rl (if_neg (by rw [hd];exact Bool.false_ne_true)) ?_
 refine aC ?_
 unfold dictSetDefault
 try with_reducible refine bS ?_
 refine aC (kf.hash rfl fun t=>aC (kf.find rfl (fun m=>?_) fun j hj=>?_))
 ·exact aC (wpAny_rule (aC (wpAny_updateDictKeys (hz:=hz) (s:={ s with toks:=s.toks+t }) g rfl (aK (aK ⟨_,rfl,h1 m _⟩)))))
 ·have q:=Array.getElem?_eq_getElem (hl ▸ (aS.mp hj).1)
  refine aC (wpAny_dictEntries (s:={ s with toks:=s.toks+t }) g rfl ?_)
  refine rl q ?_
  exact aC (wpAny_rule (aK (aK ⟨_,rfl,h2 j _ hj q _⟩)))
end
section
variable {Θ:Th}{Γ:Gm Θ}{σ:St}{X:Cx}{W:Wd}{s:Shared}{A:Around}{k:Nat}{Q:Value→Shared→Prop}
theorem Dk (ok:Ok Γ σ) {v:V}{u:Value}{q:List V×List V}(e:gY σ.H v=some q) (r:RV σ.W v u):∃a,u=.ref a∧fJ (eO Θ.X.prog Θ.X.w) q.1 (dK σ.W q.1) (dK σ.W q.2) a fun o=>σ.s.heap.get? a=some o:=by
 have hh:eO Θ.X.prog Θ.X.w=σ.W.hk:=by exact rl ok.S.hk (rl ok.E.ok.hash rfl)
 cases v <;> first | exact nS e;done | skip
 ·obtain rfl:=aB e
  refine dF r fun a e1 d=>?_
  exact ⟨a,e1,d.imp hh (fun _ x=>x) (fun _ x=>x) fun o g=>ok.S.froz _ _ g⟩
 ·rename_i i
  refine dF r fun a e' g=>?_
  refine cV e fun o ho e=>?_
  cases o <;> first | exact nS e;done | skip
  cases e
  exact ⟨a,e',fJ.imp (ok.S.objs i _ a ho g) hh (fun _ x=>x) (fun _ x=>x) fun o g=>g.1⟩
theorem Up.in1 (hA:Up k A):A.in1.units+4<cLine:=by
 have:=hA.units
 show A.units+1+4<cLine
 unfold cLine;exact q3 this
theorem gD {ks:List V}{es:Array DictEntry}{β:DictEntry→Value}(r:dK W ks (es.toList.map β)):ks.length=es.size:=by
 exact rl r.length (rl (aA ..) (rl cB rfl))
theorem AX (ok:Ok Γ σ) {a b:V}{x y:Value}{q:List V×List V}(e:gY σ.H b=some q) (hk:fA q.1 a=true) (ra:RV σ.W a x) (rb:RV σ.W b y) :
  ((∀tk,Q (.bool (decide (a∈q.1))) (σ.tk tk).s)→wpAny Θ.X.M Γ.A (compareOp .In x y) Q fX σ.s)∧((∀tk,Q (.bool (!decide (a∈q.1))) (σ.tk tk).s)→wpAny Θ.X.M Γ.A (compareOp .NotIn x y) Q fX σ.s):=by
 obtain ⟨d,rfl,es,n,m,g,r1,r2,r3,r4⟩:=Dk ok e rb
 have kf:=Ba ok.S.froz ok.A.in1 g r1 r3 r4 hk ra
 refine ⟨fun h=>?_,fun h=>?_⟩
 ·show wpAny _ _ (do return .bool (←contains (.ref d) x)) Q fX σ.s
  exact aC (xC kf m g (gD r1) fun t=>aK (h t))
 ·show wpAny _ _ (do return .bool (!(←contains (.ref d) x))) Q fX σ.s
  exact aC (xC kf m g (gD r1) fun t=>aK (h t))
theorem Ka {vs:List V}{es:Array DictEntry}{j:Nat}{e:DictEntry}{v:V}(r2:dK W vs (es.toList.map (·.val))) (hj:es[j]? = some e) (hv:vs[j]? = some v):RV W v e.val:=by
 refine dF (r2.get hv) fun u q1 q2=>?_
 rw [bG,cF,hj] at q1
 obtain rfl:=aB q1
 exact q2
theorem Uw (ok:Ok Γ σ) {a b v:V}{x y:Value}{q:List V×List V}(e:gY σ.H b=some q) (hk:fA q.1 a=true) (hf:dfind q.1 q.2 a=some v) (ra:RV σ.W a x) (rb:RV σ.W b y)
  (hQ:∀w tk,RV σ.W v w→Q w (σ.tk tk).s):σ.s.TypeIs y "dict"∧wpAny Θ.X.M Γ.A (getItem y x) Q fX σ.s:=by
 obtain ⟨d,rfl,es,n,m,g,r1,r2,r3,r4⟩:=Dk ok e rb
 have hm:a∈q.1:=bK fun hn=>by rw [lB hn] at hf;exact nS hf
 exact ⟨⟨_,g,rfl⟩,Qe (Ba ok.S.froz ok.A.in1 g r1 r3 r4 hk ra) g hm (fun j e t hj he=>hQ _ t (Ka r2 he ((sG r4 hj).symm.trans hf))) (gD r1)⟩
theorem xD {ks:List V}(hl:ks.length≤Ab) {n:Nat}(e:ks.length=n):n≤sizeLine:=by
 refine rl sizeLine_eq (rr e ?_);unfold Ab at hl;exact L1 hl
theorem Ux (ok:Ok Γ σ) {i:Nat}{z a:V}{u x:Value}{d:Addr}{b:Bool}{ks vs:List V}(e:σ.H[i]? = some (.dct b ks vs)) (hi:σ.W.φ[i]? = some d) (hk:fA ks a=true) (hl:ks.length≤Ab) (rz:RV σ.W z u) (ra:RV σ.W a x) {Q:Unit→Shared→Prop}
  (hQ:∀h' tk,OR σ.W h' (wV b ks vs a z) d→Heap.SameBut d σ.s.heap h'→Q () (σ.hp h' tk).s):wpAny Θ.X.M Γ.A (setItem (.ref d) x u) Q fX σ.s:=by
 have hh:σ.W.hk=eO Θ.X.prog Θ.X.w:=by exact rl ok.S.hk (rl ok.E.ok.hash rfl)
 obtain ⟨es,n,m,⟨g,hep⟩,r1,r2,r3,r4⟩:=ok.S.objs i _ d e hi
 rw [hh] at r3
 refine Qf (Ba ok.S.froz ok.A.in1 g r1 r3 r4 hk ra) g (xD hl (gD r1)) (fun hn t=>?_) fun j hj t=>?_
 ·refine hQ _ t ?_ (cL ..)
  refine rl (show wV b ks vs a z=.dct b (ks++[a]) (vs++[z]) from if_neg hn) ?_
  exact (fJ.new hep m r1 (r2.snoc rz) r3 r4 hn ra g).imp hh (fun _ x=>x) (fun _ x=>x) fun _ x=>x
 ·refine hQ _ t ?_ (cL ..)
  refine rl (show wV b ks vs a z=.dct b ks (Tu ks vs a z) from if_pos (bT hj)) ?_
  exact (fJ.old hep m r1 r2 r3 r4 hj rz g).imp hh (fun _ x=>x) (fun _ x=>x) fun _ x=>x
theorem Fv (ok:Ok Γ σ) {i:Nat}{z a:V}{u x:Value}{d:Addr}{b:Bool}{ks vs:List V}(e:σ.H[i]? = some (.dct b ks vs)) (hi:σ.W.φ[i]? = some d) (hk:fA ks a=true) (hl:ks.length≤Ab) (rz:RV σ.W z u) (ra:RV σ.W a x)
  (h1:∀v w tk,dfind ks vs a=some v→RV σ.W v w→Q w (σ.tk tk).s) (h2:dfind ks vs a=none→∀h' tk,OR σ.W h' (.dct b (ks++[a]) (vs++[z])) d→Heap.SameBut d σ.s.heap h'→Q u (σ.hp h' tk).s):wpAny Θ.X.M Γ.A (call (.builtin "dict.setdefault") [.ref d,x,u]) Q fX σ.s:=by
 have hh:σ.W.hk=eO Θ.X.prog Θ.X.w:=by exact rl ok.S.hk (rl ok.E.ok.hash rfl)
 obtain ⟨es,n,m,⟨g,hep⟩,r1,r2,r3,r4⟩:=ok.S.objs i _ d e hi
 rw [hh] at r3
 refine Uv (Ba ok.S.froz ok.A.in1 g r1 r3 r4 hk ra) m g (xD hl (gD r1)) (gD r1) (fun hn t=>?_) fun j e hj he t=>?_
 ·exact h2 (lB hn) _ t ((fJ.new hep m r1 (r2.snoc rz) r3 r4 hn ra g).imp hh (fun _ x=>x) (fun _ x=>x) fun _ x=>x) (cL ..)
 ·have hv:j<vs.length:=by
   refine rl (gD r2) ?_
   exact (Array.getElem?_eq_some_iff.mp he).1
  have q:=aP hv
  exact h1 _ _ t ((sG r4 hj).trans q) (Ka r2 he q)
theorem xE {α β:Type}{f:α→β}:∀{l:List α}{i:Nat},(l.map f).eraseIdx i=(l.eraseIdx i).map f
 |[],_=>rfl
 |_::_,0=>rfl
 |_::l,i+1=>aQ (_::·) (xE (l:=l) (i:=i))
theorem IL {ks:List V}{j:Nat}{a:V}(r4:ks.Nodup) (hj:ks[j]? = some a):ks.idxOf a=j:=by
 obtain ⟨hl,e⟩:=aS.mp hj
 refine rr e ?_
 exact List.Nodup.idxOf_getElem r4 j hl
theorem Uy (ok:Ok Γ σ) {i:Nat}{v c:V}{x:Value}{d:Addr}{ks vs:List V}(e:σ.H[i]? = some (.dct false ks vs)) (hi:σ.W.φ[i]? = some d) (hk:fA ks c=true) (hl:ks.length≤Ab) (hf:dfind ks vs c=some v) (ra:RV σ.W c x) (hp:(keyPart x).isSome=true)
  (hQ:∀h' tk w,RV σ.W v w→OR σ.W h' (.dct false (ks.eraseIdx (ks.idxOf c)) (vs.eraseIdx (ks.idxOf c))) d→Heap.SameBut d σ.s.heap h'→Q w (σ.hp h' tk).s):wpAny Θ.X.M Γ.A (call (.builtin "dict.pop") [.ref d,x]) Q fX σ.s:=by
 have hh:σ.W.hk=eO Θ.X.prog Θ.X.w:=by exact rl ok.S.hk (rl ok.E.ok.hash rfl)
 obtain ⟨es,n,m,⟨g,hep⟩,r1,r2,r3,r4⟩:=ok.S.objs i _ d e hi
 rw [hh] at r3
 have hm:c∈ks:=bK fun hn=>by rw [lB hn] at hf;exact nS hf
 refine NO (Ba ok.S.froz ok.A.in1 g r1 r3 r4 hk ra) g (xD hl (gD r1)) (gD r1) hm hp fun j en t hj he=>?_
 rw [IL r4 hj] at hQ
 refine hQ _ t _ (Ka r2 he ((sG r4 hj).symm.trans hf)) ?_ (cL ..)
 have el:∀{β:Type}(f:DictEntry→β),(es.eraseIdxIfInBounds j).toList.map f=(es.toList.map f).eraseIdx j:=fun f=>by
  exact rl (show (es.eraseIdxIfInBounds j).toList=es.toList.eraseIdx j by simp) (rl xE rfl)
 refine fJ.imp (⟨es.eraseIdxIfInBounds j,n+1,m,?_,?_,?_,?_,?_⟩:fJ (eO Θ.X.prog Θ.X.w) (ks.eraseIdx j) (dK σ.W (ks.eraseIdx j)) (dK σ.W (vs.eraseIdx j)) d fun o=>(σ.s.heap.update d (Obj.mapDictKeys (·.eraseIdxIfInBounds j))).get? d=some o) hh (fun _ x=>x) (fun _ x=>x) fun _ x=>⟨x,fun q=>nomatch q⟩
 ·exact Heap.get?_update_self _ g rfl
 ·refine rl (el ..) ?_;exact r1.erase j
 ·refine rl (el ..) ?_;exact r2.erase j
 ·exact rl (el ..) (rl r3 (rl xE rfl))
 ·exact r4.sublist (List.eraseIdx_sublist _ _)
end
end
section
section
variable {Θ:Th}{Γ:Gm Θ}{σ:St}{v a b i:V}{w x y:Value}{Q:Value→Shared→Prop}{W:Wd}{h:Heap}
theorem fY {B:Bs}{H:Hp}(S:SR B W H h) {xs:List V}(e:eC H v=some xs) (r:RV W v w):∃a,w=.ref a∧kE h a (dK W xs):=by
 cases v <;> first | exact nS e;done | skip
 ·cases e
  obtain ⟨a,vs,n,e,g,q⟩:=r
  exact ⟨a,e,vs,n,S.froz _ _ g,q⟩
 ·rename_i i
  refine dF r fun a e' g=>?_
  refine cV e fun o ho e=>?_
  cases o <;> first | exact nS e;done | skip
  cases e
  exact ⟨a,e',S.objs i _ a ho g⟩
inductive AY (h:Heap) (a:Addr) (P:List Value→Prop):Prop
 |tup (vs:Array Value) (n:Nat) (g:h.get? a=some (iW "tuple" vs n)) (r:P vs.toList):AY h a P
 |lst (vs:Array Value) (n:Nat) (g:h.get? a=some (iW "list" vs n)) (r:P vs.toList):AY h a P
theorem mG {B:Bs}{H:Hp}(S:SR B W H h) {xs:List V}(e:v.items H=some xs) (r:RV W v w):∃a,w=.ref a∧AY h a (dK W xs):=by
 have go:eC H v=some xs→∃a,w=.ref a∧AY h a (dK W xs):=fun e=>by
  obtain ⟨a,e,vs,n,g,q⟩:=fY S e r
  exact ⟨a,e,.lst vs n g q⟩
 cases v <;> first | exact go e | skip
 cases e
 obtain ⟨a,vs,n,e,g,q⟩:=r
 exact ⟨a,e,.tup vs n (S.froz _ _ g) q⟩
theorem tU {f:V→Option PyData}(hf:∀v w d,f v=some d→RV W v w→∃as,Reads h w d as):∀{xs:List V}{vs:List Value}{ds:List PyData},fF f xs=some ds→dK W xs vs→∃as,ReadsAll h vs ds as
 |[],vs,ds,e,r=>by obtain rfl:=aB e;cases (show _=_ from r);exact ⟨_,.nil⟩
 |x::xs,vs,ds,e,r=>cV e fun y hy e=>dQ e fun ys hys e=>by
  subst e
  exact dK.elim (P:=fun vs=>∃as,ReadsAll h vs (y::ys) as) r fun v vs r1 r2=>by
   obtain ⟨as,q⟩:=hf x v y hy r1
   obtain ⟨bs,p⟩:=tU hf hys r2
   exact ⟨_,.cons q p⟩
theorem Uz {d:PyData}(e:Fm v=some d) (r:RV W v w):∃as,Reads h w d as:=by
 cases v <;> first | exact nS e;done | skip
 ·obtain rfl:=aB e;cases (show _=_ from r);exact ⟨_,.none⟩
 ·obtain rfl:=aB e;cases (show _=_ from r);exact ⟨_,.bool _⟩
 ·obtain rfl:=aB e;obtain ⟨t,rfl⟩:=r;exact ⟨_,.int _ _⟩
 ·obtain rfl:=aB e;obtain ⟨t,rfl⟩:=r;exact ⟨_,.str _ _⟩
theorem mH {B:Bs}{H:Hp}(S:SR B W H h):∀(k:Nat) (v:V) (w:Value) (d:PyData),gO H k v=some d→RV W v w→∃as,Reads h w d as
 |0,_,_,_,e,r=>Uz e r
 |k+1,v,w,d,e,r=>by
  have lst:∀{xs:List V}{d:PyData},eC H v=some xs→(fF (gO H k) xs).map .list=some d→∃as,Reads h w d as:=fun hy e=>dQ e fun ds hd e=>by
   obtain ⟨a,rfl,vs,n,g,q⟩:=fY S hy r
   obtain ⟨as,p⟩:=tU (mH S k) hd q
   subst e;exact ⟨_,.list g rfl rfl p⟩
  cases v <;> first | exact Uz (by exact e) r | skip
  ·refine dQ e fun ds hd e=>?_
   obtain ⟨a,vs,n,rfl,g,q⟩:=r
   obtain ⟨as,p⟩:=tU (mH S k) hd q
   subst e;exact ⟨_,.tuple (S.froz _ _ g) rfl rfl p⟩
  ·exact lst rfl e
  ·exact cV e fun ys hy e=>lst hy e
theorem Up.deep {k:Nat}{A:Around}(hA:Up k A) {n:Nat}(h:n≤64):A.units+1+n<cLine:=by
 have:=hA.units
 unfold cLine;exact q8 h this
theorem Nm (ok:Ok Γ σ) {r:Bool}(e:AF σ.H a b=some r) (ra:RV σ.W a x) (rb:RV σ.W b y) :
  (Q (.bool r) σ.s→wpAny Θ.X.M Γ.A (compareOp .Eq x y) Q fX σ.s)∧(Q (.bool (!r)) σ.s→wpAny Θ.X.M Γ.A (compareOp .NotEq x y) Q fX σ.s):=
 cV e fun u eu e=>cV e fun v ev e=>cZ e fun su e=>cZ e fun sv e=>by
  obtain rfl:=aB e
  obtain ⟨as,p⟩:=mH ok.S _ _ _ _ eu ra
  obtain ⟨bs,q⟩:=mH ok.S _ _ _ _ ev rb
  have hu:Γ.A.units+200<cLine:=by have:=ok.A.units;unfold cLine;exact q7 this
  exact ⟨SeqAt.compareEq_shaped p q su sv (by exact aR (Nat.add_lt_add_left (by decide) _) (cI hu)),SeqAt.compareNe_shaped p q su sv (by exact aR (Nat.add_lt_add_left (by decide) _) (cI hu))⟩
theorem Va (ok:Ok Γ σ) {r:Bool}(e:HV σ.H a b=some r) (ra:RV σ.W a x) (rb:RV σ.W b y) :
  ((∀tk,Q (.bool r) (σ.tk tk).s)→wpAny Θ.X.M Γ.A (compareOp .In x y) Q fX σ.s)∧((∀tk,Q (.bool (!r)) (σ.tk tk).s)→wpAny Θ.X.M Γ.A (compareOp .NotIn x y) Q fX σ.s):=by
 have seq:oM σ.H a b=some r→((∀tk,Q (.bool r) (σ.tk tk).s)→wpAny Θ.X.M Γ.A (compareOp .In x y) Q fX σ.s)∧((∀tk,Q (.bool (!r)) (σ.tk tk).s)→wpAny Θ.X.M Γ.A (compareOp .NotIn x y) Q fX σ.s):=fun e=>
  cV e fun u eu e=>cV e fun v ev e=>cV e fun ys es e=>cZ e fun su e=>cZ e fun sv e=>by
   obtain rfl:=aB e
   obtain ⟨as,p⟩:=mH ok.S _ _ _ _ eu ra
   obtain ⟨bs,q⟩:=mH ok.S _ _ _ _ ev rb
   have h1:PyData.canLay0 u=true:=SeqAt.canLay_of_shaped su
   have h2:=SeqAt.canLay_of_shaped sv
   have h3:=SeqAt.depth_of_shaped sv
   cases v <;> first | exact nS es;done | skip
   all_goals
    cases es
    have hu:=ok.A.deep (aD (Nat.min_le_left (PyData.depthAll ys) u.depth) (Nat.le_of_succ_le (show PyData.depthAll ys+1≤64 from h3)))
   ·exact ⟨fun h=>SeqAt.in_list_reads q p h2 h1 hu (h σ.s.toks),fun h=>SeqAt.notIn_list_reads q p h2 h1 hu (h σ.s.toks)⟩
   ·exact ⟨fun h=>SeqAt.in_tuple_reads q p h2 h1 hu (h σ.s.toks),fun h=>SeqAt.notIn_tuple_reads q p h2 h1 hu (h σ.s.toks)⟩
 have rest:(match gY σ.H b with
  |some q=>gd (fA q.1 a) (some (decide (a∈q.1)))
  |none=>oM σ.H a b)=some r→((∀tk,Q (.bool r) (σ.tk tk).s)→wpAny Θ.X.M Γ.A (compareOp .In x y) Q fX σ.s)∧((∀tk,Q (.bool (!r)) (σ.tk tk).s)→wpAny Θ.X.M Γ.A (compareOp .NotIn x y) Q fX σ.s):=fun e=>by
  cases hd:gY σ.H b with
  |none=>rw [hd] at e;exact seq e
  |some q=>rw [hd] at e;exact cZ e fun hk e=>by obtain rfl:=aB e;exact AX ok hd hk ra rb
 cases b <;> first | exact rest e | skip
 exact cV e fun s hs e=>by
  cases a <;> first | exact nS hs;done | skip
  cases hs
  obtain rfl:=aB e
  obtain ⟨t,rfl⟩:=ra;obtain ⟨u,rfl⟩:=rb
  exact ⟨fun h=>SB.contains (h σ.s.toks),fun h=>SB.notContains (h σ.s.toks)⟩
theorem is_none (r:RV W a x):plainIs x .none=true∧(x == .none)=isNone a:=by
 cases a
 ·cases (show _=_ from r);exact ⟨rfl,rfl⟩
 ·cases (show _=_ from r);exact ⟨rfl,rfl⟩
 ·obtain ⟨t,rfl⟩:=r;exact ⟨rfl,rfl⟩
 ·obtain ⟨t,rfl⟩:=r;exact ⟨rfl,rfl⟩
 ·obtain ⟨a,_,_,rfl,_⟩:=r;exact ⟨rfl,rfl⟩
 ·obtain ⟨a,_,_,rfl,_⟩:=r;exact ⟨rfl,rfl⟩
 ·refine dF r fun a e_e=>?_;clear r;subst e_e;intro _;exact ⟨rfl,rfl⟩
 ·refine dF r fun a e_e=>?_;clear r;subst e_e;intro _;exact ⟨rfl,rfl⟩
theorem is_bool {b:Bool}(r:RV W a x):plainIs x (.bool b)=true∧(x == .bool b)=Tv b a:=by
 cases a
 ·cases (show _=_ from r);exact ⟨rfl,rfl⟩
 ·rename_i c;cases (show _=_ from r);exact ⟨rfl,by cases b <;> cases c <;> rfl⟩
 ·obtain ⟨t,rfl⟩:=r;exact ⟨rfl,rfl⟩
 ·obtain ⟨t,rfl⟩:=r;exact ⟨rfl,rfl⟩
 ·obtain ⟨a,_,_,rfl,_⟩:=r;exact ⟨rfl,rfl⟩
 ·obtain ⟨a,_,_,rfl,_⟩:=r;exact ⟨rfl,rfl⟩
 ·refine dF r fun a e_e=>?_;clear r;subst e_e;intro _;exact ⟨rfl,rfl⟩
 ·refine dF r fun a e_e=>?_;clear r;subst e_e;intro _;exact ⟨rfl,rfl⟩
theorem int_at {n:Int}(e:intOf a=some n) (r:RV W a x):∃t,x=.int n t:=by
 cases a <;> first | exact nS e;done | skip
 cases e;exact r
theorem Kb {s:Str}(e:strOf a=some s) (r:RV W a x):∃t,x=.str s t:=by
 cases a <;> first | exact nS e;done | skip
 cases e;exact r
theorem Nn {s:Bool}(e:boolOf a=some s) (r:RV W a x):x=.bool s:=by
 cases a <;> first | exact nS e;done | skip
 cases e;exact r
theorem vU {f:Int→Int→Bool}{r:Bool}(e:Pw f a b=some r) (ra:RV W a x) (rb:RV W b y):∃m n t u,x=.int m t∧y=.int n u∧r=f m n:=
 cV e fun m hm e=>cV e fun n hn e=>by
  obtain ⟨t,h1⟩:=int_at hm ra
  obtain ⟨u,h2⟩:=int_at hn rb
  exact ⟨m,n,t,u,h1,h2,(aB e).symm⟩
theorem mJ (ok:Ok Γ σ) {op:CmpOp}{r:Bool}(e:fV σ.H op a b=some r) (ra:RV σ.W a x) (rb:RV σ.W b y) (hQ:∀tk,Q (.bool r) (σ.tk tk).s) :
  wpAny Θ.X.M Γ.A (compareOp op x y) Q fX σ.s:=by
 have hq:=hQ σ.s.toks
 cases op <;> first | cases e;done | skip
 ·exact (Nm ok e ra rb).1 hq
 ·exact cV e fun r' h e=>by obtain rfl:=aB e;exact (Nm ok h ra rb).2 hq
 ·refine AQ (vU e ra rb) fun m n t u e_e=>?_;subst e_e;intro e_e;subst e_e;intro e_e;subst e_e;exact P.lt_int hq
 ·have two:Pw (fun x y=>decide (x≤y)) a b=some r→wpAny Θ.X.M Γ.A (compareOp .LtE x y) Q fX σ.s:=fun e=>by
   refine AQ (vU e ra rb) fun m n t u e_e=>?_;subst e_e;intro e_e;subst e_e;intro e_e;subst e_e;exact P.le_int hq
  cases a <;> first | exact two e | skip
  exact cV e fun s hs e=>by
   obtain ⟨u,rfl⟩:=Kb hs rb
   obtain ⟨t,rfl⟩:=ra
   obtain rfl:=aB e
   exact P.le_str hq
 ·refine AQ (vU e ra rb) fun m n t u e_e=>?_;subst e_e;intro e_e;subst e_e;intro e_e;subst e_e;exact P.gt_int hq
 ·refine AQ (vU e ra rb) fun m n t u e_e=>?_;subst e_e;intro e_e;subst e_e;intro e_e;subst e_e;exact P.ge_int hq
 ·cases b <;> first | exact nS e;done | skip
  ·obtain rfl:=aB e;cases (show _=_ from rb);exact wpAny_is_plain (is_none ra).1 (by refine rl ((is_none ra).2) ?_;exact hq)
  ·obtain rfl:=aB e;cases (show _=_ from rb);exact wpAny_is_plain (is_bool ra).1 (by refine rl ((is_bool ra).2) ?_;exact hq)
 ·refine cV e fun r' h e=>?_
  obtain rfl:=aB e
  cases b <;> first | exact nS h;done | skip
  ·obtain rfl:=aB h;cases (show _=_ from rb);exact wpAny_isNot_plain (is_none ra).1 (by refine rl ((is_none ra).2) ?_;exact hq)
  ·obtain rfl:=aB h;cases (show _=_ from rb);exact wpAny_isNot_plain (is_bool ra).1 (by refine rl ((is_bool ra).2) ?_;exact hq)
 ·exact (Va ok e ra rb).1 hQ
 ·exact cV e fun r' h e=>by obtain rfl:=aB e;exact (Va ok h ra rb).2 hQ
theorem dK.size {xs:List V}{vs:Array Value}(r:dK W xs vs.toList):xs.length=vs.size:=r.length.trans (cB ..)
theorem gZ {xs:List V}(h:small xs=true):xs.length≤1100000:=bD h
theorem nN (ok:Ok Γ σ) {b:Bool}(e:fL σ.H a=some b) (ra:RV σ.W a x) {Q:Bool→Shared→Prop}(hQ:∀tk,Q b (σ.tk tk).s):wpAny Θ.X.M Γ.A (truthy x) Q fX σ.s:=by
 have seq:((a.items σ.H).bind fun xs=>gd (small xs) (some (!xs.isEmpty)))=some b→wpAny Θ.X.M Γ.A (truthy x) Q fX σ.s:=fun e=>cV e fun xs hx e=>cZ e fun hl e=>by
  obtain rfl:=aB e
  refine dF (mG ok.S hx ra) fun ad e_e q=>?_;subst e_e
  have he:∀{vs:Array Value},dK σ.W xs vs.toList→(!xs.isEmpty)=(!vs.isEmpty)∧vs.size≤1100000:=fun r=>by
   refine rr r.size ?_
   refine ⟨?_,gZ hl⟩
   congr 1
   exact ri Bool.eq_iff_iff (ri List.isEmpty_iff_length_eq_zero (ri Array.isEmpty_iff_size_eq_zero (rl r.size Iff.rfl)))
  cases q with
  |tup vs n g r=>exact PyProof.Rows.truthy_tuple ⟨_,g,rfl,n,rfl⟩ (by have:=(he r).2;exact Z1 (Bc this)) ((he r).1 ▸ hQ _)
  |lst vs n g r=>exact wpAny_truthy_list ⟨_,g,rfl,n,rfl⟩ (by have:=(he r).2;exact Z1 (Bc this)) ((he r).1 ▸ hQ _)
 cases a <;> first | exact seq e | skip
 ·obtain rfl:=aB e;cases (show _=_ from ra);exact fun _ _ _=>hQ σ.s.toks
 ·cases e;cases (show _=_ from ra);exact wpAny_truthy_bool (hQ σ.s.toks)
 ·obtain rfl:=aB e;obtain ⟨t,rfl⟩:=ra;exact P.truthy_int (hQ σ.s.toks)
 ·rename_i str
  refine dU e fun hl e=>?_
  obtain rfl:=aB e;obtain ⟨t,rfl⟩:=ra
  have h2:((str.length:Int) != 0)=(str.length != 0):=by refine ri Bool.eq_iff_iff ?_;simp
  unfold Ab at hl
  exact P.truthy_str (by exact q6 hl) (by refine rl h2 ?_;exact hQ _)
theorem Vb {i:Int}{n:Nat}(h:PK i n=true):0≤i∧i<n∧i<2 ^ 63:=bD h
theorem seqIndex_of {i:Int}{n:Nat}(h1:0≤i) (h2:i<n):seqIndex? i n=some i.toNat:=by
 unfold seqIndex?
 refine rl (if_neg (Int.not_lt.mpr h1)) ?_
 exact if_pos (by refine rl (bU ..) (rl bZ (rl bZ ?_));exact ⟨h1,h2⟩)
theorem Vc (ok:Ok Γ σ) (e:fH σ.H a i=some v) (ra:RV σ.W a x) (ri:RV σ.W i y) (hQ:∀w tk,RV σ.W v w→Q w (σ.tk tk).s) {value slice:Expr}
  (hs:subscripted slice false x y=operate [x,y] (getItem x y)):wpAny Θ.X.M Γ.A (PyProof.Rows.subscriptTail value slice x y) Q fX σ.s:=by
 have rest:(match gY σ.H a with
  |some q=>gd (fA q.1 i) (dfind q.1 q.2 i)
  |none=>(a.items σ.H).bind fun xs=>HY xs i)=some v→wpAny Θ.X.M Γ.A (PyProof.Rows.subscriptTail value slice x y) Q fX σ.s:=fun e=>by
  cases hd:gY σ.H a with
  |some q=>
   rw [hd] at e
   refine cZ e fun hk e=>?_
   obtain ⟨h1,h2⟩:=Uw ok hd hk e ri ra hQ
   exact PyProof.Rows.tail_any h1 slot_dict_getitem.lookup h2 hs
  |none=>
   rw [hd] at e
   refine cV e fun xs hx e=>cV e fun j hj e=>cZ e fun hi e=>?_
   obtain ⟨u,rfl⟩:=int_at hj ri
   refine iE (Vb hi) fun k1 k2 k3=>?_
   refine dF (mG ok.S hx ra) fun ad e_e q=>?_;subst e_e
   cases q with
   |tup vs n g r=>
    refine dF (r.get e) fun w hw rw'=>?_
    rw [cF] at hw
    have ht:PyProof.Rows.IsTup σ.s.heap ad vs:=⟨_,g,rfl,n,rfl⟩
    exact PyProof.Rows.tail_any ht.typeIs PyProof.Rows.slot_tuple_getitem.lookup (PyProof.Rows.getItem_tuple ht (bI (by decide) k1) k3 (seqIndex_of k1 (r.size ▸ k2)) hw (hQ w σ.s.toks rw')) hs
   |lst vs n g r=>
    refine dF (r.get e) fun w hw rw'=>?_
    rw [cF] at hw
    have hl:σ.s.heap.IsList ad vs:=⟨_,g,rfl,n,rfl⟩
    exact PyProof.Rows.tail_any hl.typeIs slot_list_getitem.lookup (wpAny_getItem_list hl k1 k3 hw (hQ w σ.s.toks rw')) hs
 cases a <;> first | exact rest e | skip
 exact cV e fun j hj e=>cZ e fun hh e=>by
  rw [bU] at hh
  obtain rfl:=aB e
  obtain ⟨u,rfl⟩:=int_at hj ri
  obtain ⟨t,rfl⟩:=ra
  exact PyProof.Rows.tail_any (typeIs_str σ.s _ t) F.slot_str_getitem.lookup (SB.getItem hh.1 hh.2 (hQ _ _ RV.str)) hs
end
end
section
noncomputable def tV:Ty→String
 |.int=>"int" | .bool=>"bool" | .str=>"str" | .tuple=>"tuple" | .list=>"list"
structure Bb (X:Cx) (G:Glob):Prop where
 gc:∀x v,G.gc.lookup x=some v→∃w,X.gv x=some w∧RV ⟨fun _=>none,[],X.B.hk⟩ v w
 bi:∀x,G.bn.contains x=true→X.gv x=bootBuiltins x
section
variable (Θ:Th)
noncomputable def eX (e:Expr) (ce:E):Prop:=∀(Γ:Gm Θ) (σ:St) (R:Type) (K:V→Hp→Option R) (r:R) (Q:Value→Shared→Prop),dI Θ.c ce Γ.ρ σ.H K=some r→Ok Γ σ→
 (∀v w τ,Le σ τ→Ok Γ τ→RV τ.W v w→K v τ.H=some r→Q w τ.s)→wpAny Θ.X.M Γ.A (eval e Γ.env) Q fX σ.s
noncomputable def Vd (e:Expr) (ce:E):Prop:=∀(Γ:Gm Θ) (σ:St) (R:Type) (K:V→Bool→Hp→Option R) (r:R) (Q:Bool→Shared→Prop),dI Θ.c ce Γ.ρ σ.H (fun v H=>(fL H v).bind fun b=>K v b H)=some r→Ok Γ σ→
 (∀v b τ,Le σ τ→Ok Γ τ→fL τ.H v=some b→K v b τ.H=some r→Q b τ.s)→wpAny Θ.X.M Γ.A (isTrue e Γ.env (eval e Γ.env)) Q fX σ.s
noncomputable def tW (e:Expr) (ce:E):Prop:=∀(Γ:Gm Θ) (σ:St) (R:Type) (K:V→Hp→Option R) (r:R) (Q:Value→Shared→Prop),dI Θ.c ce Γ.ρ σ.H K=some r→Ok Γ σ→
 (∀v a τ,Le σ τ→Ok Γ τ→lN σ τ v a→K v τ.H=some r→Q (.ref a) τ.s)→wpAny Θ.X.M Γ.A (eval e Γ.env) Q fX σ.s
structure Ve (e:Expr):Prop where
 star:∀(es:List Expr) (env:Env),starEach (e::es) env=(false,eval e env)::starEach es env
 mark1:∀op,lastMarks [op] [e]=false
 mark2:∀op o2 d,lastMarks [op,o2] [d,e]=false
 fold:∀env x,foldedSetIterable e env x=pure x
 swS:∀a i p line env,swapsWith e (some (.Subscript a i p)) line env=pure false
 sw:Qb e=false→∀t line env,swapsWith e t line env=pure false
structure fK (e:Expr) (ce:E):Prop where
 val:eX Θ e ce
 test:Vd Θ e ce
 plain:Ve e
inductive iG:List Expr→E→Prop
 |nil:iG [] .nil
 |cons {e:Expr}{ce:E}{es:List Expr}{ces:E}:fK Θ e ce→iG es ces→iG (e::es) (.cons ce ces)
end
section
variable {Θ:Th}{Γ:Gm Θ}{σ:St}{e:Expr}{ce:E}{es:List Expr}{ces:E}{Q:Value→Shared→Prop}
theorem Dl {sc:Scope}{x:Str}(h:eW sc x=true):fS x=true:=(aF.mp h).2
theorem lC {sc:Scope}{x:Str}(h:sB sc x=true):(sc.names.lookup x=some .local∨sc.names.lookup x=some .cell)∧fS x=true:=by
 unfold sB at h
 rw [bU,Bool.or_eq_true,beq_iff_eq,beq_iff_eq] at h
 exact h
theorem xF {sc:Scope}{x:Str}(h:wX sc x=true):(sc.names.lookup x=some .local∨sc.names.lookup x=some .cell∨sc.names.lookup x=some .free)∧fS x=true:=by
 unfold wX at h
 rw [Bool.or_eq_true,bU,beq_iff_eq] at h
 rcases h with h | h
 ·exact ⟨(lC h).1.imp_right .inl,(lC h).2⟩
 ·exact ⟨.inr (.inr h.1),h.2⟩
theorem Kc {sc:Scope}{x:Str}(h:sc.names.lookup x=some .cell∨sc.names.lookup x=some .free) (hp:fS x=true):wX sc x=true:=by
 unfold wX sB
 refine rl hp ?_
 rcases h with h | h <;> refine rl h ?_ <;> rfl
theorem oH {x:Str}(h:fS x=true):(x == ("__debug__":Str))=false:=by
 unfold fS at h;rw [bU,Bool.not_eq_true'] at h;exact h.1
theorem Dm {x:Str}(h:fS x=true):(x == ("__classdict__":Str))=false:=by
 unfold fS at h;rw [bU,Bool.not_eq_true',Bool.not_eq_true'] at h;exact h.2
theorem AZ {x:Str}{pos:Pos}{i:Nat}(hl:wX Θ.sc x=true) (hi:iB Θ.ns x=some i):eX Θ (.Name x pos) (.var i):=fun Γ σ R K r Q ev ok hQ=>
 cV ev fun o ho ev=>cV ev fun v hv ev=>by
  subst hv
  refine dF (ok.f.vars x i v hl hi ho) fun w y z=>?_
  have hp:=(xF hl).2
  have q:=hQ v w σ (.refl _) ok y ev
  refine wpAny_Name ?_ (oH hp)
  rcases z with ⟨a,m,hn,e⟩ | ⟨a | a,c,hc,e⟩
  ·exact wpAny_loadName_local ok.E.kind a hn e q
  ·exact wpAny_loadName_cell ok.E.kind a hc e q
  ·exact wpAny_loadName_free ok.E.kind a hc e q (Dm hp)
theorem jL (ok:Ok Γ σ) {x:Str}{pos:Pos}{u:Value}(hg:eW Θ.sc x=true) (hv:Θ.X.gv x=some u) (h:Q u σ.s):wpAny Θ.X.M Γ.A (eval (.Name x pos) Γ.env) Q fX σ.s:=by
 refine iY ok.E.ok.names fun mg mb ng nb hx=>?_
 refine Calls.Name_function_global ok.E.kind (ok.E.glob x hg) ?_ (oH (Dl hg))
 rcases hx x u hv with e | ⟨e1,e2⟩
 ·exact Calls.loadGlobal_global (ok.E.globals ▸ ng.keeps ok.S.base) e h
 ·exact Calls.loadGlobal_builtin (ok.E.globals ▸ ng.keeps ok.S.base) e1 (ok.E.builtins ▸ nb.keeps ok.S.base) e2 h
theorem Vf {G:Glob}(hK:Bb Θ.X G) {x:Str}{pos:Pos}{v:V}(hg:eW Θ.sc x=true) (hv:G.gc.lookup x=some v):eX Θ (.Name x pos) (.const v):=fun Γ σ R K r Q ev ok hQ=>by
 refine dF (hK.gc x v hv) fun w h1 h2=>?_
 exact jL ok hg h1 (hQ v w σ (.refl _) ok (h2.mono (W':=σ.W) ⟨fun _ _ h=>(by exact nS h),List.nil_prefix,ok.S.hk⟩) ev)
theorem Be {c:Const}{kk:Nat}{pos:Pos}{v:V}(h:Ua c=some v):eX Θ (.Constant c kk pos) (.const v):=fun Γ σ R K r Q ev ok hQ=>by
 cases c <;> first | exact nS h;done | skip
 ·obtain rfl:=aB h;exact fun _ _ _=>hQ _ _ σ (.refl _) ok RV.none ev
 ·obtain rfl:=aB h;exact fun _ _ _=>hQ _ _ σ (.refl _) ok RV.bool ev
 ·obtain rfl:=aB h;exact wpAny_Constant_int (hQ _ _ (σ.tk _) .tk ok.tk RV.int ev)
 ·obtain rfl:=aB h;exact fun _ _ _=>hQ _ _ (σ.tk _) .tk ok.tk RV.str ev
theorem Ke (hv:eX Θ e ce) (he:∀env whole,isTrue e env whole=(do let v ←whole;standAt e.pos;holding [v] (truthy v))):Vd Θ e ce:=fun Γ σ R K r Q ev ok hQ=>
 PyProof.Rows.isTrue_plain (hv Γ σ R _ r _ ev ok fun v w τ l o rv ev=>cV ev fun b hb ev=>nN o hb rv fun tk=>hQ v b (τ.tk tk) (l.trans .tk) o.tk hb ev) (he Γ.env _)
theorem jA (h:iG Θ es ces) (env:Env):starEach es env=es.map fun e=>(false,eval e env):=by
 induction h with
 |nil=>rfl
 |@cons e ce es ces he _ ih=>
  refine rl cQ (rr ih ?_)
  exact he.plain.star es env
theorem kL (pos:Pos) (es:List Expr) (env:Env):backTo pos (es.map fun e=>(false,eval e env))=es.map fun e=>(false,eval e env):=by
 induction es with
 |nil=>rfl
 |cons e es ih=>exact aQ (_::·) ih
theorem uW (h:iG Θ es ces):∀(Γ:Gm Θ) (σ:St) (R:Type) (K:List V→Hp→Option R) (r:R) (Q:List Value→Shared→Prop),dI Θ.c ces Γ.ρ σ.H (fun x H=>(hZ x).bind fun vs=>K vs H)=some r→Ok Γ σ→
  (∀vs ws τ,Le σ τ→Ok Γ τ→dK τ.W vs ws→vs.length=es.length→K vs τ.H=some r→Q ws τ.s)→wpAny Θ.X.M Γ.A (spliced (es.map fun e=>(false,eval e Γ.env))) Q fX σ.s:=by
 induction h with
 |nil=>exact fun Γ σ R K r Q ev ok hQ=>Calls.spliced_nil (hQ [] [] σ (.refl _) ok dK.nil rfl ev)
 |@cons e ce es ces he _ ih=>
  exact fun Γ σ R K r Q ev ok hQ=>Calls.spliced_cons (he.val Γ σ R _ r _ ev ok fun x u τ l o rx ev=>ih Γ τ R (fun ys H=>K (x::ys) H) r _ ev o fun ys ws υ l2 o2 rs hl ev=>
   hQ (x::ys) (u::ws) υ (l.trans l2) o2 (.cons (rx.up l2) rs) (aQ (· + 1) hl) ev)
theorem uX (h:iG Θ es ces) (pos:Pos) {R:Type}{K:List V→Hp→Option R}{r:R}{Q:List Value→Shared→Prop}(ev:dI Θ.c ces Γ.ρ σ.H (fun x H=>(hZ x).bind fun vs=>K vs H)=some r) (ok:Ok Γ σ)
  (hQ:∀vs ws τ,Le σ τ→Ok Γ τ→dK τ.W vs ws→vs.length=es.length→K vs τ.H=some r→Q ws τ.s):wpAny Θ.X.M Γ.A (spliced (backTo pos (starEach es Γ.env))) Q fX σ.s:=by
 refine rl (jA h ..) (rl (kL ..) ?_);exact uW h Γ σ R K r Q ev ok hQ
theorem sH (h:iG Θ es ces) (pos:Pos) {fv:Value}{R:Type}{K:List V→Hp→Option R}{r:R}{Q:Args→Shared→Prop}(ev:dI Θ.c ces Γ.ρ σ.H (fun x H=>(hZ x).bind fun vs=>K vs H)=some r) (ok:Ok Γ σ)
  (hQ:∀vs ws τ,Le σ τ→Ok Γ τ→dK τ.W vs ws→K vs τ.H=some r→Q ⟨ws,[]⟩ τ.s):wpAny Θ.X.M Γ.A (evalArgs fv true (backTo pos (starEach es Γ.env)) []) Q fX σ.s:=by
 refine rl (jA h ..) (rl (kL ..) ?_)
 cases h with
 |nil=>exact PyProof.Rows.evalArgs_nil3 (hQ [] [] σ (.refl _) ok dK.nil ev)
 |cons a b=>exact Calls.evalArgs_plain (uW (.cons a b) Γ σ R K r _ ev ok fun vs ws τ l o rs _ ev=>hQ vs ws τ l o rs ev)
theorem Do (pos:Pos) (h:iG Θ es ces) (env:Env):(backTo pos (starEach es env)).any (·.1)=false:=by
 refine rl (jA h ..) (rl (kL ..) (rl List.any_map ?_))
 exact List.any_eq_false.mpr fun _ _ h=>Bool.false_ne_true h
theorem Fw (h:Uf es=true):es.length≤sizeLine:=aD (bD h) (by unfold sizeLine;decide)
theorem Qg (h:iG Θ es ces) (hl:Uf es=true) {kk:Nat}{pos:Pos}:eX Θ (.Tuple es kk pos) ces:=fun Γ σ R K r Q ev ok hQ=>by
 have ev':dI Θ.c ces Γ.ρ σ.H (fun x H=>(hZ x).bind fun vs=>K (.tup vs) H)=some r:=by
  cases h with
  |nil=>exact ev
  |cons a b=>exact ev
 refine PyProof.Rows.Tuple_ (uX h pos (K:=fun vs H=>K (.tup vs) H) ev' ok fun vs ws τ l o rs hn ev=>wpAny_newTuple ?_ (by refine rr rs.length (rl hn ?_);exact Fw hl))
 exact o.tuple (n:=0) (m:=τ.s.toks) rs fun W' l2 o2 rt=>hQ _ _ ⟨W',_,_⟩ (l.trans l2) o2 rt ev
theorem Vg (h:iG Θ es ces) (hl:Uf es=true) {pos:Pos}:tW Θ (.List es pos) (.disp ces):=fun Γ σ R K r Q ev ok hQ=>by
 refine PyProof.Rows.List_ (uX h pos (K:=fun vs H=>K (.lst vs) H) ev ok fun vs ws τ l o rs hn ev=>wpAny_newList ?_ (by refine rr rs.length (rl hn ?_);exact Fw hl))
 refine iE (o.list (n:=0) (m:=τ.s.toks) rs) fun l2 o2 f=>?_
 exact hQ _ _ _ (l.trans l2) o2 (f.up l) ev
theorem tX {G:Glob}{p:Pos}(h:tW Θ e ce):eX Θ e (fb G p ce):=fun Γ σ R K r Q ev ok hQ=>by
 unfold fb at ev
 cases hb:G.bx p with
 |false=>
  rw [hb] at ev
  exact h Γ σ R _ r _ ev ok fun v a τ l o f ev=>f.freeze l o.S fun ob l2 S2 rv=>hQ v (.ref a) ⟨τ.W.freeze a ob,τ.s,τ.H⟩ l2 (ok.move l2 S2) rv ev
 |true=>
  rw [hb] at ev
  exact h Γ σ R (fun o H1=>K (.ref H1.length) (H1++[o])) r _ ev ok fun v a τ l o f ev=>by
   refine iE (f.box l ok.S o.S) fun l2 S2 rv=>?_
   exact hQ _ (.ref a) ⟨τ.W.box a,τ.s,τ.H++[v]⟩ l2 (ok.move l2 S2) rv ev
theorem BA (h:tW Θ e ce):eX Θ e (.box ce):=fun Γ σ R K r Q ev ok hQ=>
 h Γ σ R (fun o H1=>K (.ref H1.length) (H1++[o])) r _ ev ok fun v a τ l o f ev=>by
   refine iE (f.box l ok.S o.S) fun l2 S2 rv=>?_
   exact hQ _ (.ref a) ⟨τ.W.box a,τ.s,τ.H++[v]⟩ l2 (ok.move l2 S2) rv ev
variable {a b d:Expr}{ca cb cd:E}{pos:Pos}
theorem BB (ha:eX Θ a ca) (hb:eX Θ b cb) (hs:∀x y,subscripted b false x y=operate [x,y] (getItem x y)):eX Θ (.Subscript a b pos) (.sub ca cb):=fun Γ σ R K r Q ev ok hQ=>
 PyProof.Rows.Subscript_ (ha Γ σ R _ r _ ev ok fun x u τ l o rx ev=>hb Γ τ R _ r _ ev o fun y w υ l2 o2 ry ev=>cV ev fun v hv ev=>
  Vc o2 hv (rx.up l2) ry (fun z tk rz=>hQ v z (υ.tk tk) ((l.trans l2).trans .tk) o2.tk rz ev) (hs u w))
theorem Qh (hb:fK Θ b cb) (ha:fK Θ a ca) (hd:fK Θ d cd):fK Θ (.IfExp b a d pos) (.ite cb ca cd):=
 ⟨fun Γ σ R K r Q ev ok hQ=>wpAny_IfExp (hb.test Γ σ R (fun _ q H1=>br q (dI Θ.c ca Γ.ρ H1 K) (dI Θ.c cd Γ.ρ H1 K)) r _ ev ok fun _ q τ l o _ ev=>by
   cases q
   ·exact hd.val Γ τ R K r Q ev o fun v w υ l2 o2 rv ev=>hQ v w υ (l.trans l2) o2 rv ev
   ·exact ha.val Γ τ R K r Q ev o fun v w υ l2 o2 rv ev=>hQ v w υ (l.trans l2) o2 rv ev),
  fun Γ σ R K r Q ev ok hQ=>by
   refine rl (arm_isTrue_IfExp ..) ?_
   refine aC (hb.test Γ σ R (fun _ q H1=>br q (dI Θ.c ca Γ.ρ H1 _) (dI Θ.c cd Γ.ρ H1 _)) r _ ev ok fun _ q τ l o _ ev=>?_)
   cases q
   ·exact hd.test Γ τ R K r Q ev o fun v b υ l2 o2 hb ev=>hQ v b υ (l.trans l2) o2 hb ev
   ·exact ha.test Γ τ R K r Q ev o fun v b υ l2 o2 hb ev=>hQ v b υ (l.trans l2) o2 hb ev,⟨fun _ _=>rfl,fun _=>rfl,fun _ _ _=>rfl,fun _ _=>rfl,fun _ _ _ _ _=>rfl,fun _ _ _ _=>rfl⟩⟩
theorem BC (ha:fK Θ a ca):fK Θ (.UnaryOp .Not a pos) (.not ca):=
 ⟨fun Γ σ R K r Q ev ok hQ=>wpAny_UnaryOp (ha.val Γ σ R _ r _ ev ok fun x u τ l o rx ev=>cV ev fun q hq ev=>
   PyProof.Rows.not_of (nN o hq rx fun tk=>hQ _ _ (τ.tk tk) (l.trans .tk) o.tk RV.bool ev)),
  fun Γ σ R K r Q ev ok hQ=>wpAny_isTrue_Not (ha.test Γ σ R (fun _ q H=>K (.bool (!q)) (!q) H) r _ ev ok fun _ q τ l o _ ev=>hQ (.bool (!q)) (!q) τ l o rfl ev),⟨fun _ _=>rfl,fun _=>rfl,fun _ _ _=>rfl,fun _ _=>rfl,fun _ _ _ _ _=>rfl,fun _ _ _ _=>rfl⟩⟩
inductive xG (Θ:Th) (op:BoolOp):List Expr→E→Prop
 |one {e:Expr}{ce:E}:fK Θ e ce→xG Θ op [e] ce
 |cons {e e2:Expr}{ce:E}{es:List Expr}{ces:E}:fK Θ e ce→xG Θ op (e2::es) ces→xG Θ op (e::e2::es) (SC op ce ces)
theorem BD (h:xG Θ .And es ces):∀(Γ:Gm Θ) (σ:St) (R:Type) (K:V→Hp→Option R) (r:R) (Q:Value→Shared→Prop),dI Θ.c ces Γ.ρ σ.H K=some r→Ok Γ σ→
  (∀v w τ,Le σ τ→Ok Γ τ→RV τ.W v w→K v τ.H=some r→Q w τ.s)→wpAny Θ.X.M Γ.A (boolOp pos .And (evalEach es Γ.env)) Q fX σ.s:=by
 induction h with
 |one he=>exact he.val
 |@cons e e2 ce es ces he _ ih=>
  intro Γ σ R K r Q ev ok hQ
  refine aC (he.val Γ σ R _ r _ ev ok fun x u τ l o rx ev=>cV ev fun q hq ev=>aC (wpAny_standAt (aC (bS (nN o hq rx fun tk=>?_)))))
  cases q
  ·exact aK (hQ x u (τ.tk tk) (l.trans .tk) o.tk rx ev)
  ·exact ih Γ (τ.tk tk) R K r Q ev o.tk fun v w υ l2 o2 rv ev=>hQ v w υ ((l.trans .tk).trans l2) o2 rv ev
theorem IM (h:xG Θ .Or es ces):∀(Γ:Gm Θ) (σ:St) (R:Type) (K:V→Hp→Option R) (r:R) (Q:Value→Shared→Prop),dI Θ.c ces Γ.ρ σ.H K=some r→Ok Γ σ→
  (∀v w τ,Le σ τ→Ok Γ τ→RV τ.W v w→K v τ.H=some r→Q w τ.s)→wpAny Θ.X.M Γ.A (boolOp pos .Or (evalEach es Γ.env)) Q fX σ.s:=by
 induction h with
 |one he=>exact he.val
 |@cons e e2 ce es ces he _ ih=>
  intro Γ σ R K r Q ev ok hQ
  refine aC (he.val Γ σ R _ r _ ev ok fun x u τ l o rx ev=>cV ev fun q hq ev=>aC (wpAny_standAt (aC (bS (nN o hq rx fun tk=>?_)))))
  cases q
  ·exact ih Γ (τ.tk tk) R K r Q ev o.tk fun v w υ l2 o2 rv ev=>hQ v w υ ((l.trans .tk).trans l2) o2 rv ev
  ·exact aK (hQ x u (τ.tk tk) (l.trans .tk) o.tk rx ev)
theorem Kf (h:xG Θ .And es ces):∀(Γ:Gm Θ) (σ:St) (R:Type) (K:V→Bool→Hp→Option R) (r:R) (Q:Bool→Shared→Prop),dI Θ.c ces Γ.ρ σ.H (fun v H=>(fL H v).bind fun b=>K v b H)=some r→Ok Γ σ→
  (∀v b τ,Le σ τ→Ok Γ τ→fL τ.H v=some b→K v b τ.H=some r→Q b τ.s)→wpAny Θ.X.M Γ.A (allTrue .And es Γ.env) Q fX σ.s:=by
 induction h with
 |one he=>
  intro Γ σ R K r Q ev ok hQ
  refine rl (arm_allTrue_cons ..) ?_
  refine aC (he.test Γ σ R K r _ ev ok fun v q τ l o hv ev=>?_)
  cases q <;> exact aK (hQ _ _ τ l o hv ev)
 |@cons e e2 ce es ces he _ ih=>
  intro Γ σ R K r Q ev ok hQ
  refine rl (arm_allTrue_cons ..) ?_
  refine aC (he.test Γ σ R (fun v q H=>br q (dI Θ.c ces Γ.ρ H (fun v H=>(fL H v).bind fun b=>K v b H)) ((fL H v).bind fun b=>K v b H)) r _ ev ok fun v q τ l o hv ev=>?_)
  cases q
  ·rw [hv] at ev
   exact aK (hQ _ _ τ l o hv ev)
  ·exact ih Γ τ R K r Q ev o fun v b υ l2 o2 hb ev=>hQ v b υ (l.trans l2) o2 hb ev
theorem Qi (h:xG Θ .Or es ces):∀(Γ:Gm Θ) (σ:St) (R:Type) (K:V→Bool→Hp→Option R) (r:R) (Q:Bool→Shared→Prop),dI Θ.c ces Γ.ρ σ.H (fun v H=>(fL H v).bind fun b=>K v b H)=some r→Ok Γ σ→
  (∀v b τ,Le σ τ→Ok Γ τ→fL τ.H v=some b→K v b τ.H=some r→Q b τ.s)→wpAny Θ.X.M Γ.A (allTrue .Or es Γ.env) Q fX σ.s:=by
 induction h with
 |one he=>
  intro Γ σ R K r Q ev ok hQ
  refine rl (arm_allTrue_cons ..) ?_
  refine aC (he.test Γ σ R K r _ ev ok fun v q τ l o hv ev=>?_)
  cases q <;> exact aK (hQ _ _ τ l o hv ev)
 |@cons e e2 ce es ces he _ ih=>
  intro Γ σ R K r Q ev ok hQ
  refine rl (arm_allTrue_cons ..) ?_
  refine aC (he.test Γ σ R (fun v q H=>br q ((fL H v).bind fun b=>K v b H) (dI Θ.c ces Γ.ρ H (fun v H=>(fL H v).bind fun b=>K v b H))) r _ ev ok fun v q τ l o hv ev=>?_)
  cases q
  ·exact ih Γ τ R K r Q ev o fun v b υ l2 o2 hb ev=>hQ v b υ (l.trans l2) o2 hb ev
  ·rw [hv] at ev
   exact aK (hQ _ _ τ l o hv ev)
theorem Kg {op:BoolOp}(h:xG Θ op es ces):fK Θ (.BoolOp op es pos) ces:=by
 cases op
 ·exact ⟨fun Γ σ R K r Q ev ok hQ=>by refine rl (arm_eval_BoolOp ..) ?_;exact BD h Γ σ R K r Q ev ok hQ,fun Γ σ R K r Q ev ok hQ=>by refine rl (arm_isTrue_BoolOp ..) ?_;exact Kf h Γ σ R K r Q ev ok hQ,⟨fun _ _=>rfl,fun _=>rfl,fun _ _ _=>rfl,fun _ _=>rfl,fun _ _ _ _ _=>rfl,fun _ _ _ _=>rfl⟩⟩
 ·exact ⟨fun Γ σ R K r Q ev ok hQ=>by refine rl (arm_eval_BoolOp ..) ?_;exact IM h Γ σ R K r Q ev ok hQ,fun Γ σ R K r Q ev ok hQ=>by refine rl (arm_isTrue_BoolOp ..) ?_;exact Qi h Γ σ R K r Q ev ok hQ,⟨fun _ _=>rfl,fun _=>rfl,fun _ _ _=>rfl,fun _ _=>rfl,fun _ _ _ _ _=>rfl,fun _ _ _ _=>rfl⟩⟩
theorem BE {op:CmpOp}(ha:eX Θ a ca) (hb:fK Θ b cb):fK Θ (.Compare a [op] [b] pos) (.cmp op ca cb):=
 ⟨fun Γ σ R K r Q ev ok hQ=>by
  refine rl (arm_eval_Compare ..) (rl (PyProof.Rows.markedEach_of_false _ _ _ (hb.plain.mark1 op)) ?_)
  exact aC (ha Γ σ R _ r _ ev ok fun x u τ l o rx ev=>aC (bS (hb.val Γ τ R _ r _ ev o fun y w υ l2 o2 ry ev=>cV ev fun q hq ev=>
   aC (wpAny_standAt (wpAny_operating (mJ o2 hq (rx.up l2) ry fun tk=>hQ _ _ (υ.tk tk) ((l.trans l2).trans .tk) o2.tk RV.bool ev)))))),
  fun Γ σ R K r Q ev ok hQ=>by
  refine rl (arm_isTrue_Compare ..) (rl (PyProof.Rows.markedEach_of_false _ _ _ (hb.plain.mark1 op)) ?_)
  exact aC (ha Γ σ R _ r _ ev ok fun x u τ l o rx ev=>aC (bS (hb.val Γ τ R _ r _ ev o fun y w υ l2 o2 ry ev=>cV ev fun q hq ev=>
   aC (wpAny_standAt (aC (wpAny_operating (mJ o2 hq (rx.up l2) ry fun tk=>bS (wpAny_truthy_bool (hQ (.bool q) q (υ.tk tk) ((l.trans l2).trans .tk) o2.tk rfl ev))))))))),⟨fun _ _=>rfl,fun _=>rfl,fun _ _ _=>rfl,fun _ _=>rfl,fun _ _ _ _ _=>rfl,fun _ _ _ _=>rfl⟩⟩
theorem Vh {op o2:CmpOp}(ha:eX Θ a ca) (hb:fK Θ b cb) (hd:fK Θ d cd):fK Θ (.Compare a [op,o2] [b,d] pos) (.cmp2 op o2 ca cb cd):=
 ⟨fun Γ σ R K r Q ev ok hQ=>by
  refine rl (arm_eval_Compare ..) (rl (PyProof.Rows.markedEach_of_false _ _ _ (hd.plain.mark2 op o2 b)) ?_)
  refine aC (ha Γ σ R _ r _ ev ok fun x u τ l o rx ev=>aC (bS (hb.val Γ τ R _ r _ ev o fun y w υ l2 o2 ry ev=>cV ev fun q hq ev=>
   aC (wpAny_standAt (aC (bS (mJ o2 hq (rx.up l2) ry fun tk=>aC (PyProof.Rows.wpAny_release' (aC (bS (wpAny_truthy_bool ?_)))))))))))
  cases q
  ·exact aK (hQ _ _ (υ.tk tk) ((l.trans l2).trans .tk) o2.tk RV.bool ev)
  ·exact aC (bS (hd.val Γ (υ.tk tk) R _ r _ ev o2.tk fun z t φ l3 o3 rz ev=>cV ev fun q hq ev=>
    aC (wpAny_standAt (wpAny_operating (mJ o3 hq (ry.mono l3.t.le) rz fun tk=>hQ _ _ (φ.tk tk) (((l.trans l2).trans (.trans .tk l3)).trans .tk) o3.tk RV.bool ev))))),
  fun Γ σ R K r Q ev ok hQ=>by
  refine rl (arm_isTrue_Compare ..) (rl (PyProof.Rows.markedEach_of_false _ _ _ (hd.plain.mark2 op o2 b)) ?_)
  refine aC (ha Γ σ R _ r _ ev ok fun x u τ l o rx ev=>aC (bS (hb.val Γ τ R _ r _ ev o fun y w υ l2 o2 ry ev=>cV ev fun q hq ev=>
   aC (wpAny_standAt (aC (bS (mJ o2 hq (rx.up l2) ry fun tk=>aC (PyProof.Rows.wpAny_release' (aC (bS (wpAny_truthy_bool ?_)))))))))))
  cases q
  ·exact aK (hQ (.bool false) false (υ.tk tk) ((l.trans l2).trans .tk) o2.tk rfl ev)
  ·exact aC (bS (hd.val Γ (υ.tk tk) R _ r _ ev o2.tk fun z t φ l3 o3 rz ev=>cV ev fun q hq ev=>
    aC (wpAny_standAt (aC (wpAny_operating (mJ o3 hq (ry.mono l3.t.le) rz fun tk=>bS (wpAny_truthy_bool (hQ (.bool q) q (φ.tk tk) (((l.trans l2).trans (.trans .tk l3)).trans .tk) o3.tk rfl ev)))))))),⟨fun _ _=>rfl,fun _=>rfl,fun _ _ _=>rfl,fun _ _=>rfl,fun _ _ _ _ _=>rfl,fun _ _ _ _=>rfl⟩⟩
end
end
section
inductive PV (X:Cx) (σ:St) (H':Hp) (v:V) (w:Value) (s':Shared):Prop
 |mk (W':Wd) (l:Le σ ⟨W',s',H'⟩) (S:SR X.B W' H' s'.heap) (r:RV W' v w):PV X σ H' v w s'
inductive PL (X:Cx) (σ:St) (H':Hp) (v:V) (w:Value) (s':Shared):Prop
 |mk (W':Wd) (a:Addr) (e:w=.ref a) (l:Le σ ⟨W',s',H'⟩) (S:SR X.B W' H' s'.heap) (f:lN σ ⟨W',s',H'⟩ v a):PL X σ H' v w s'
noncomputable def OS (X:Cx) (G:Glob) (c:Ctx) (k:Nat):Prop:=∀(n:Nat) (f:Str),G.fn.lookup f=some n→
  ∃fa fo fd,X.gv f=some (.ref fa)∧X.B.get? fa=some fo∧fo.data=.func fd∧
  ∀(A:Around) (σ:St) (args:List V) (ws:List Value) (r:V×Bool×Hp),c.F n args σ.H=some r→Up k A→SR X.B σ.W σ.H σ.s.heap→dK σ.W args ws→
   codeAny X.M A (.call (.ref fa) ⟨ws,[]⟩) (fun q s'=>∃w,q=.ok (.ret w)∧(r.2.1=true→PL X σ r.2.2 r.1 w s')∧PV X σ r.2.2 r.1 w s') σ.s
noncomputable def Kt {Θ:Th}(Γ:Gm Θ) (σ:St) (v:V) (Q:Value→Shared→Prop):Prop:=∀w W' s',Le σ ⟨W',s',σ.H⟩→Ok Γ ⟨W',s',σ.H⟩→RV W' v w→Q w s'
noncomputable def IN {Θ:Th}(Γ:Gm Θ) (σ:St) (v:V) (Q:Value→Shared→Prop):Prop:=∀a W' s',Le σ ⟨W',s',σ.H⟩→Ok Γ ⟨W',s',σ.H⟩→lN σ ⟨W',s',σ.H⟩ v a→Q (.ref a) s'
section
variable {Θ:Th}{Γ:Gm Θ}{σ:St}{e:Expr}{ce:E}{es:List Expr}{ces:E}{Q:Value→Shared→Prop}{G:Glob}{f:Str}{p pos:Pos}{v x:V}{w u:Value}{vs xs:List V}{ws:List Value}
theorem Kt.tk (h:Kt Γ σ v Q) (ok:Ok Γ σ) (r:RV σ.W v w) (n:Nat):Q w (σ.tk n).s:=h w σ.W (σ.tk n).s .tk ok.tk r
theorem iH {W:Wd}(e:nJ vs=some x) (r:dK W vs ws):∃u,ws=[u]∧RV W x u:=by
 cases vs with
 |nil=>exact nS e
 |cons y ys=>
  cases ys with
  |cons _ _=>exact nS e
  |nil=>
   cases e
   refine iY r fun u us e_e=>?_;clear r;subst e_e;intro r1 r2
   cases (show _=_ from r2)
   exact ⟨u,rfl,r1⟩
theorem xH {W:Wd}{q:V×V}(e:Da vs=some q) (r:dK W vs ws):∃u t,ws=[u,t]∧RV W q.1 u∧RV W q.2 t:=by
 cases vs with
 |nil=>exact nS e
 |cons y ys=>
  refine cV e fun z hz e=>?_
  obtain rfl:=aB e
  refine iY r fun u us e_e=>?_;clear r;subst e_e;intro r1 r2
  refine dF (iH hz r2) fun t e_e r3=>?_;subst e_e
  exact ⟨u,t,rfl,r1,r3⟩
theorem Fx (hO:OS Θ.X G Θ.c Θ.k) {n:Nat}(hf:G.fn.lookup f=some n) (hg:eW Θ.sc f=true) (h:iG Θ es ces) {R:Type}{K:V×Bool×Hp→Option R}{r:R}
  (ev:dI Θ.c ces Γ.ρ σ.H (fun x H=>(hZ x).bind fun vs=>(Θ.c.F n vs H).bind K)=some r) (ok:Ok Γ σ)
  (hQ:∀q w τ s',Le σ τ→Ok Γ τ→(q.2.1=true→PL Θ.X τ q.2.2 q.1 w s')→PV Θ.X τ q.2.2 q.1 w s'→K q=some r→Q w s') :
  wpAny Θ.X.M Γ.A (eval (.Call (.Name f p) es [] pos) Γ.env) Q fX σ.s:=by
 refine Jq (hO n f hf) fun fa fo fd g1 g2 g3 g4=>?_
 refine wpAny_Call_Name_kw (jL ok hg g1 ?_)
 refine Calls.callWith_function (fd:=fd) (o:=fo) (sH h pos ev ok fun vs ws τ l o rs ev=>cV ev fun q hq ev=>⟨⟨o.S.base _ _ g2,g3⟩,wpAny_call (codeAny_mono (g4 Γ.A τ vs ws q hq o.A o.S rs) fun q' s₂ hr=>?_)⟩)
 refine fU hr fun w e_e=>?_;clear hr;subst e_e;intro h1 h2
 exact hQ q w τ s₂ l o h1 h2 ev
theorem Vi (hO:OS Θ.X G Θ.c Θ.k) {n:Nat}(hf:G.fn.lookup f=some n) (hg:eW Θ.sc f=true) (h:iG Θ es ces):eX Θ (.Call (.Name f p) es [] pos) (.call n ces):=fun Γ σ R K r Q ev ok hQ=>
 Fx hO hf hg h (K:=fun q=>K q.1 q.2.2) ev ok fun q w τ s' l o _ h2 ev=>by
  obtain ⟨W',l2,S,rv⟩:=h2
  exact hQ q.1 w ⟨W',s',q.2.2⟩ (l.trans l2) (o.move l2 S) rv ev
theorem Qj (hO:OS Θ.X G Θ.c Θ.k) {n:Nat}(hf:G.fn.lookup f=some n) (hg:eW Θ.sc f=true) (h:iG Θ es ces):eX Θ (.Call (.Name f p) es [] pos) (.callB n ces):=fun Γ σ R K r Q ev ok hQ=>
 Fx hO hf hg h (K:=fun q=>br q.2.1 (K (.ref q.2.2.length) (q.2.2++[q.1])) (K q.1 q.2.2)) ev ok fun q w τ s' l o h1 h2 ev=>by
  cases hb:q.2.1 with
  |false=>
   rw [hb] at ev
   obtain ⟨W',l2,S,rv⟩:=h2
   exact hQ q.1 w ⟨W',s',q.2.2⟩ (l.trans l2) (o.move l2 S) rv ev
  |true=>
   rw [hb] at ev
   obtain ⟨W',a,rfl,l2,S,fr⟩:=h1 hb
   refine iE ((fr.up l).box (l.trans l2) ok.S S) fun l3 S3 rv=>?_
   exact hQ _ (.ref a) ⟨W'.box a,s',q.2.2++[q.1]⟩ l3 (ok.move l3 S3) rv ev
theorem nP {fv:Value}(hv:Θ.X.gv f=some fv) (hk:(∃id,fv=.builtin id)∨∃id,fv=.type id) (hg:eW Θ.sc f=true) (h:iG Θ es ces) {R:Type}{K:List V→Hp→Option R}{r:R}
  (ev:dI Θ.c ces Γ.ρ σ.H (fun x H=>(hZ x).bind fun vs=>K vs H)=some r) (ok:Ok Γ σ)
  (hQ:∀vs ws τ,Le σ τ→Ok Γ τ→dK τ.W vs ws→K vs τ.H=some r→wpAny Θ.X.M Γ.A (call fv ws) Q fX τ.s) :
  wpAny Θ.X.M Γ.A (eval (.Call (.Name f p) es [] pos) Γ.env) Q fX σ.s:=by
 refine wpAny_Call_Name_kw (jL ok hg hv ?_)
 rcases hk with ⟨id,rfl⟩ | ⟨id,rfl⟩
 ·exact Calls.callWith_builtin (Do pos h Γ.env) (sH h pos ev ok hQ)
 ·exact PyProof.Rows.callWith_type (Do pos h Γ.env) (sH h pos ev ok hQ)
theorem xI {fv:Value}{pm:Js}(hv:Θ.X.gv f=some fv) (hk:(∃id,fv=.builtin id)∨∃id,fv=.type id) (hg:eW Θ.sc f=true) (h:iG Θ es ces)
  (hp:∀(Γ:Gm Θ) (σ:St) (vs:List V) (ws:List Value) (v:V) (Q:Value→Shared→Prop),Ok Γ σ→dK σ.W vs ws→dS σ.H pm vs=some v→Kt Γ σ v Q→wpAny Θ.X.M Γ.A (call fv ws) Q fX σ.s) :
  eX Θ (.Call (.Name f p) es [] pos) (.prim pm ces):=fun Γ σ R K r Q ev ok hQ=>
 nP hv hk hg h ev ok fun vs ws τ l o rs ev=>cV ev fun v hv ev=>hp Γ τ vs ws v Q o rs hv fun w W' s' l2 o2 rv=>hQ v w ⟨W',s',τ.H⟩ (l.trans l2) o2 rv ev
theorem BF {fv:Value}(hv:Θ.X.gv f=some fv) (hk:(∃id,fv=.builtin id)∨∃id,fv=.type id) (hg:eW Θ.sc f=true) (h:fK Θ e ce) (mk:Hp→V→Option V) {l:E}(hl:∀{R:Type}(ρ:Loc) (H:Hp) (K:V→Hp→Option R),dI Θ.c l ρ H K=dI Θ.c ce ρ H fun v H1=>(mk H1 v).bind fun o=>K o H1)
  (hp:∀(Γ:Gm Θ) (σ:St) (x:V) (u:Value) (v:V) (Q:Value→Shared→Prop),Ok Γ σ→RV σ.W x u→mk σ.H x=some v→IN Γ σ v Q→wpAny Θ.X.M Γ.A (call fv [u]) Q fX σ.s) :
  tW Θ (.Call (.Name f p) [e] [] pos) l:=fun Γ σ R K r Q ev ok hQ=>by
 rw [hl] at ev
 refine nP hv hk hg (.cons h .nil) (K:=fun vs H1=>(nJ vs).bind fun v=>(mk H1 v).bind fun o=>K o H1) ev ok fun vs ws τ l o rs ev=>cV ev fun x hx ev=>cV ev fun v hv ev=>?_
 refine dF (iH hx rs) fun u e_e ru=>?_;subst e_e
 exact hp Γ τ x u v Q o ru hv fun a W' s' l2 o2 fr=>hQ v a ⟨W',s',τ.H⟩ (l.trans l2) o2 (fr.up l) ev
theorem jB {n:Nat}(h:n≤1100000):n≤sizeLine:=aD h (by unfold sizeLine;decide)
theorem Vj (ok:Ok Γ σ) (r:dK σ.W vs ws) (e:dS σ.H .len vs=some v) (hQ:Kt Γ σ v Q):wpAny Θ.X.M Γ.A (call (.builtin "len") ws) Q fX σ.s:=cV e fun x hx e=>by
 refine dF (iH hx r) fun u e_e ru=>?_;subst e_e
 have seq:((x.items σ.H).bind fun xs=>gd (small xs) (some (V.int xs.length)))=some v→wpAny Θ.X.M Γ.A (call (.builtin "len") [u]) Q fX σ.s:=fun e=>cV e fun xs hx e=>cZ e fun hl e=>by
  obtain rfl:=aB e
  have hl:=gZ hl
  refine dF (mG ok.S hx ru) fun a e_e q=>?_;subst e_e
  cases q with
  |tup us n g r=>rw [r.size] at hQ hl;exact PyProof.Rows.len_tuple ⟨_,g,rfl,n,rfl⟩ (by exact Z1 (Bc hl)) (hQ.tk ok RV.int _)
  |lst us n g r=>rw [r.size] at hQ hl;exact PyProof.Rows.len_list ⟨_,g,rfl,n,rfl⟩ (by exact Z1 (Bc hl)) (hQ.tk ok RV.int _)
 have rest:(match gY σ.H x with
  |some q=>gd (small q.1) (some (V.int q.1.length))
  |none=>(x.items σ.H).bind fun xs=>gd (small xs) (some (V.int xs.length)))=some v→wpAny Θ.X.M Γ.A (call (.builtin "len") [u]) Q fX σ.s:=fun e=>by
  cases hd:gY σ.H x with
  |none=>rw [hd] at e;exact seq e
  |some q=>
   rw [hd] at e
   refine cZ e fun hl e=>?_
   obtain rfl:=aB e
   obtain ⟨d,rfl,es,n,m,g,r1,_⟩:=Dk ok hd ru
   have hl:=gZ hl
   rw [gD r1] at hQ hl
   exact NP m g (by exact Z1 (Bc hl)) fun t t'=>hQ.tk ok RV.int _
 cases x <;> first | exact rest e | skip
 refine dU e fun hl e=>?_
 obtain rfl:=aB e
 obtain ⟨t,rfl⟩:=ru
 unfold Ab at hl
 exact P.len_str (by exact q6 hl) (hQ.tk ok RV.int _)
theorem sI {W:Wd}:∀{xs:List V}{ss:List Str}{us:List Value},fF strOf xs=some ss→dK W xs us→PyProof.Rows.StrsAre us ss
 |[],_,_,e,r=>by obtain rfl:=aB e;cases (show _=_ from r);exact .nil
 |x::xs,ss,us,e,r=>cV e fun s hs e=>dQ e fun ss' h e=>by
  subst e
  refine iY r fun u us e_e=>?_;clear r;subst e_e;intro r1 r2
  obtain ⟨t,rfl⟩:=Kb hs r1
  exact .cons _ t (sI h r2)
theorem Qk (ok:Ok Γ σ) {t:Tok}(r:dK σ.W vs ws) (e:dS σ.H .join vs=some v) (hQ:Kt Γ σ v Q):wpAny Θ.X.M Γ.A (call (.builtin "str.join") (.str (Str.ofString "") t::ws)) Q fX σ.s:=
 cV e fun x hx e=>cV e fun xs he e=>cV e fun ss hs e=>dU e fun hl e=>by
  obtain rfl:=aB e
  refine dF (iH hx r) fun u e_e ru=>?_;subst e_e
  obtain ⟨a,rfl,us,n,g,q⟩:=fY ok.S he ru
  refine PyProof.Rows.join_list (ys:=ss) ⟨_,g,rfl,n,rfl⟩ (sI hs q) ?_ fun t' k=>?_
  ·have:(Str.ofString "").length=0:=by decide
   unfold Ab at hl
   refine rl this ?_;exact Nat.add_le_add_right (L1 hl) _
  ·refine rl (show Txt.join (Str.ofString "") ss=Str.join (Str.ofString "") ss from StrLaws.glued_eq_join _ _) ?_
   exact hQ.tk ok RV.str _
theorem Kh (ok:Ok Γ σ) (r:dK σ.W vs ws) (e:dS σ.H .intOf vs=some v) (hQ:Kt Γ σ v Q):wpAny Θ.X.M Γ.A (call (.type "int") ws) Q fX σ.s:=
 cV e fun x hx e=>cV e fun b hb e=>by
  obtain rfl:=aB e
  refine dF (iH hx r) fun u e_e ru=>?_;subst e_e
  refine rl (Nn hb ru) ?_
  exact call_int_bool (hQ.tk ok RV.int _)
theorem Vk (ok:Ok Γ σ) (r:dK σ.W vs ws) (e:dS σ.H .min vs=some v) (hQ:Kt Γ σ v Q):wpAny Θ.X.M Γ.A (call (.builtin "min") ws) Q fX σ.s:=
 cV e fun x hx e=>cV e fun a ha e=>cV e fun b hb e=>by
  obtain rfl:=aB e
  refine iY (xH hx r) fun u t e_e r1 r2=>?_;subst e_e
  obtain ⟨t1,rfl⟩:=int_at ha r1
  obtain ⟨t2,rfl⟩:=int_at hb r2
  refine min_two_ints ok.A.handled fun h' tk hk=>hQ _ σ.W _ (.grow hk) (ok.grow hk) ?_
  split <;> exact RV.int
theorem Vl (ok:Ok Γ σ) (r:dK σ.W vs ws) (e:dS σ.H .max vs=some v) (hQ:Kt Γ σ v Q):wpAny Θ.X.M Γ.A (call (.builtin "max") ws) Q fX σ.s:=
 cV e fun x hx e=>cV e fun a ha e=>cV e fun b hb e=>by
  obtain rfl:=aB e
  refine iY (xH hx r) fun u t e_e r1 r2=>?_;subst e_e
  obtain ⟨t1,rfl⟩:=int_at ha r1
  obtain ⟨t2,rfl⟩:=int_at hb r2
  refine max_two_ints ok.A.handled fun h' tk hk=>hQ _ σ.W _ (.grow hk) (ok.grow hk) ?_
  split <;> exact RV.int
theorem Ki (ok:Ok Γ σ) (r:dK σ.W vs ws) (e:dS σ.H .tuple vs=some v) (hQ:Kt Γ σ v Q):wpAny Θ.X.M Γ.A (call (.type "tuple") ws) Q fX σ.s:=
 cV e fun x hx e=>cV e fun xs he e=>cZ e fun hl e=>by
  obtain rfl:=aB e
  refine dF (iH hx r) fun u e_e ru=>?_;subst e_e
  obtain ⟨a,rfl,us,n,g,q⟩:=fY ok.S he ru
  refine call_tuple_list ⟨_,g,rfl,n,rfl⟩ (fun h' hk=>?_) (jB (q.size ▸ gZ hl))
  have l:Le σ (σ.hp h' σ.s.toks):=.grow hk
  have o:Ok Γ (σ.hp h' σ.s.toks):=ok.grow hk
  refine o.tuple (n:=0) (m:=σ.s.toks) (ws:=us.toList) q fun W' l2 o2 rt=>?_
  rw [Array.toArray_toList] at l2 o2
  exact hQ _ W' _ (l.trans l2) o2 rt
theorem xJ {W:Wd}:∀{xs:List V}{bs:List Bool}{us:List Value},fF boolOf xs=some bs→dK W xs us→us=bs.map Value.bool
 |[],_,_,e,r=>by obtain rfl:=aB e;exact r
 |x::xs,bs,us,e,r=>cV e fun s hs e=>dQ e fun ss' h e=>by
  subst e
  refine iY r fun u us e_e=>?_;clear r;subst e_e;intro r1 r2
  refine rl (Nn hs r1) (rl (xJ h r2) ?_)
  rfl
theorem Ql (bs:List Bool):(List.range bs.length).all (fun i=>bs.getD i false)=bs.all id:=by
 induction bs with
 |nil=>rfl
 |cons b bs ih=>refine rl bF (rl List.range_succ_eq_map (rl List.all_cons (rl List.all_map (rl List.all_cons (rr ih ?_)))));rfl
theorem Vm (ok:Ok Γ σ) (r:dK σ.W vs ws) (e:dS σ.H .all vs=some v) (hQ:Kt Γ σ v Q):wpAny Θ.X.M Γ.A (call (.builtin "all") ws) Q fX σ.s:=
 cV e fun x hx e=>cV e fun xs he e=>cV e fun bs hb e=>by
  obtain rfl:=aB e
  refine dF (iH hx r) fun u e_e ru=>?_;subst e_e
  refine dF (mG ok.S he ru) fun a e_e q=>?_;subst e_e
  have hh:Γ.A.in1.handled=none:=ok.A.handled
  have sz:∀{us:Array Value},us.toList=bs.map Value.bool→us.size=bs.length:=fun e=>by exact rr cB (rl e (rl (aA ..) rfl))
  have fin:∀(us:Array Value) (ob:Obj) h' tk,us.toList=bs.map Value.bool→(∀b o,b∉[σ.s.heap.objs.size]→(σ.s.heap.push ob).get? b=some o→h'.get? b=some o)→Q (.bool ((List.range us.size).all fun i=>bs.getD i false)) { σ.s with heap:=h',toks:=tk }:=by
   intro us ob h' tk e hk
   refine rl (sz e) (rl (Ql ..) ?_)
   have hk':∀b o,σ.s.heap.get? b=some o→h'.get? b=some o:=fun b o e=>hk b o (by refine ri aG ?_;exact Nat.ne_of_lt (Heap.lt_size e)) (bB _ e)
   exact hQ _ σ.W _ (.grow hk') (ok.grow hk') RV.bool
  have tr:∀{us:Array Value},us.toList=bs.map Value.bool→TruthOf Θ.X.prog Θ.X.w Γ.A.in1 (fun i v=>us[i]? = some v) (fun i=>bs.getD i false):=by
   intro us e i v s Q E hP hQ
   rw [←cF,e,bG] at hP
   refine dQ hP fun b hb e=>?_
   subst e
   refine wpAny_truthy_bool ?_
   have:bs.getD i false=b:=by refine rl (bA) (rl hb ?_);rfl
   exact this ▸ hQ
  refine call_all_walk ?_
  cases q with
  |tup us n g r=>
   have eq:=xJ hb r
   have hne:a≠σ.s.heap.objs.size:=Nat.ne_of_lt (Heap.lt_size g)
   have ht:σ.s.heap.IsTuple a us:=⟨_,g,rfl,n,rfl⟩
   exact wpAny_pyIter_tuple ht ⟨_,_,_,_,_,_,_,rfl,Walks.tuple hh σ.s.heap.objs.size a hne us,⟨⟨_,bQ _ rfl,rfl,rfl⟩,ht.push _⟩,tr eq,fun h' tk hk=>fin us _ h' tk eq hk⟩
  |lst us n g r=>
   have eq:=xJ hb r
   have hne:a≠σ.s.heap.objs.size:=Nat.ne_of_lt (Heap.lt_size g)
   have hl:σ.s.heap.IsList a us:=⟨_,g,rfl,n,rfl⟩
   exact wpAny_pyIter_list hl ⟨_,_,_,_,_,_,_,rfl,Walks.list hh σ.s.heap.objs.size a hne us,⟨⟨_,bQ _ rfl,rfl,rfl⟩,hl.push _⟩,tr eq,fun h' tk hk=>fin us _ h' tk eq hk⟩
theorem Vn (ok:Ok Γ σ) {t:Ty}{k:Kd}(r:RV σ.W x u) (e:My σ.H x=some k) (hQ:Kt Γ σ (.bool (k.isA t)) Q):wpAny Θ.X.M Γ.A (call (.builtin "isinstance") [u,.type (tV t)]) Q fX σ.s:=by
 have fin:∀{b},b=k.isA t→∀tk,Q (.bool b) (σ.tk tk).s:=fun e tk=>e ▸ hQ.tk ok RV.bool tk
 have lst:((eC σ.H x).bind fun _=>some Kd.list)=some k→wpAny Θ.X.M Γ.A (call (.builtin "isinstance") [u,.type (tV t)]) Q fX σ.s:=fun e=>cV e fun xs hx e=>by
  obtain rfl:=aB e
  obtain ⟨a,rfl,us,n,g,_⟩:=fY ok.S hx r
  have ht:σ.s.heap.IsList a us:=⟨_,g,rfl,n,rfl⟩
  cases t
  ·exact IsiPair.isList_int ht (fun _ _ e=>e) (fin rfl _)
  ·exact IsiPair.isList_bool ht (fun _ _ e=>e) (fin rfl _)
  ·exact IsiPair.isList_str ht (fun _ _ e=>e) (fin rfl _)
  ·exact IsiPair.isList_tuple ht (fun _ _ e=>e) (fin rfl _)
  ·exact IsiPair.isList_list ht (fun _ _ e=>e) (fin rfl _)
 cases x <;> first | exact lst e | skip
 ·cases (show _=_ from r);obtain rfl:=aB e
  cases t
  ·exact IsiPair.NoneType_int (fin rfl _)
  ·exact IsiPair.NoneType_bool (fin rfl _)
  ·exact IsiPair.NoneType_str (fin rfl _)
  ·exact IsiPair.NoneType_tuple (fin rfl _)
  ·exact IsiPair.NoneType_list (fin rfl _)
 ·cases (show _=_ from r);obtain rfl:=aB e
  cases t
  ·exact IsiPair.bool_int (fin rfl _)
  ·exact IsiPair.bool_bool (fin rfl _)
  ·exact IsiPair.bool_str (fin rfl _)
  ·exact IsiPair.bool_tuple (fin rfl _)
  ·exact IsiPair.bool_list (fin rfl _)
 ·obtain ⟨tk,rfl⟩:=r;obtain rfl:=aB e
  cases t
  ·exact IsiPair.int_int (fin rfl _)
  ·exact IsiPair.int_bool (fin rfl _)
  ·exact IsiPair.int_str (fin rfl _)
  ·exact IsiPair.int_tuple (fin rfl _)
  ·exact IsiPair.int_list (fin rfl _)
 ·obtain ⟨tk,rfl⟩:=r;obtain rfl:=aB e
  cases t
  ·exact IsiPair.str_int (fin rfl _)
  ·exact IsiPair.str_bool (fin rfl _)
  ·exact IsiPair.str_str (fin rfl _)
  ·exact IsiPair.str_tuple (fin rfl _)
  ·exact IsiPair.str_list (fin rfl _)
 ·obtain ⟨a,us,n,rfl,g,_⟩:=r;obtain rfl:=aB e
  have ht:σ.s.heap.IsTuple a us:=⟨_,ok.S.froz _ _ g,rfl,n,rfl⟩
  cases t
  ·exact IsiPair.isTuple_int ht (fun _ _ e=>e) (fin rfl _)
  ·exact IsiPair.isTuple_bool ht (fun _ _ e=>e) (fin rfl _)
  ·exact IsiPair.isTuple_str ht (fun _ _ e=>e) (fin rfl _)
  ·exact IsiPair.isTuple_tuple ht (fun _ _ e=>e) (fin rfl _)
  ·exact IsiPair.isTuple_list ht (fun _ _ e=>e) (fin rfl _)
theorem Qm {e:Expr}{x:Str}(h:Ue e=some x):∃p,e=.Name x p:=dQ h fun q _ hx=>⟨q.1.2,hx ▸ q.2⟩
theorem oO {c:Prop}[Decidable c] {α:Type}{a b:α}{o:Option α}{P:Prop}(h:(if c then some a else o)=some b) (k:c→a=b→P) (l:o=some b→P):P:=by
 split at h
 ·obtain rfl:=aB h;exact k (by assumption) rfl
 ·exact l h
theorem Qn {x:Str}{t:Ty}(h:MU x=some t):bootBuiltins x=some (.type (tV t)):=by
 have go:∀{y:Str}{t':Ty},bootBuiltins y=some (.type (tV t'))→(x == y)=true→t'=t→bootBuiltins x=some (.type (tV t)):=fun h1 h2 h3=>by exact rl (eq_of_beq h2) (rl h1 (rl h3 rfl))
 exact oO h (go (by decide +kernel)) fun h=>oO h (go (by decide +kernel)) fun h=>oO h (go (by decide +kernel)) fun h=>oO h (go (by decide +kernel)) fun h=>oO h (go (by decide +kernel)) fun h=>nomatch h
theorem BG (hv:Θ.X.gv f=some (.builtin "isinstance")) (hg:eW Θ.sc f=true) {a:Expr}{ca:E}(ha:fK Θ a ca) {t:Ty}{y:Str}{q:Pos}(hgy:eW Θ.sc y=true) (hty:Θ.X.gv y=some (.type (tV t))) :
  eX Θ (.Call (.Name f p) [a,.Name y q] [] pos) (.prim (.isinst t) (.cons ca .nil)):=fun Γ σ R K r Q ev ok hQ=>by
 have hst:backTo pos (starEach [a,.Name y q] Γ.env)=[(false,eval a Γ.env),(false,eval (.Name y q) Γ.env)]:=by refine rl (ha.plain.star ..) ?_;rfl
 refine wpAny_Call_Name_kw (jL ok hg hv (Calls.callWith_builtin (by refine rl hst ?_;rfl) ?_))
 refine rl hst ?_
 exact Calls.evalArgs_plain (Calls.spliced_cons (ha.val Γ σ R (fun x H=>((My H x).bind fun k=>some (V.bool (k.isA t))).bind fun v=>K v H) r _ ev ok fun x u τ l o rx ev=>Calls.spliced_cons (jL o hgy hty (Calls.spliced_nil (cV ev fun v hv ev=>cV hv fun k hk hv=>by
  obtain rfl:=aB hv
  exact Vn o rx hk fun w W' s' l2 o2 rv=>hQ _ w ⟨W',s',τ.H⟩ (l.trans l2) o2 rv ev)))))
end
end
section
section
variable {Θ:Th}{Γ:Gm Θ}{σ:St}{e o:Expr}{ce co:E}{es:List Expr}{ces:E}{Q:Value→Shared→Prop}{G:Glob}{f:Str}{p apos pos:Pos}{v x:V}{w u:Value}{vs xs:List V}{ws:List Value}
theorem Vo (ok:Ok Γ σ) {h':Heap}{a:Addr}{tk:Nat}(hk:∀b o,σ.s.heap.get? b=some o→h'.get? b=some o) (hn:σ.s.heap.get? a=none) (x:OR σ.W h' v a):lN σ (σ.hp h' tk) v a:=by
 refine ⟨x,?_,fun m=>ok.S.mem_alive m hn,hn⟩
 cases q:σ.W.σ a with
 |none=>rfl
 |some o=>rw [ok.S.froz _ _ q] at hn;exact Sn hn
theorem IN.at (h:IN Γ σ (.lst xs) Q) (ok:Ok Γ σ) {h':Heap}{us:Array Value}{n:Nat}{a:Addr}{tk:Nat}(hk:∀b o,σ.s.heap.get? b=some o→h'.get? b=some o) (hn:σ.s.heap.get? a=none) (ho:h'.get? a=some (iW "list" us n)) (r:dK σ.W xs us.toList) :
  Q (.ref a) (σ.hp h' tk).s:=h a σ.W _ (.grow hk) (ok.grow hk) (Vo ok hk hn (⟨us,n,ho,r⟩:kE ..))
theorem Fy (hv:Θ.X.gv f=some (.type "list")) (hg:eW Θ.sc f=true) (h:fK Θ e ce):tW Θ (.Call (.Name f p) [e] [] pos) (.listOf ce):=fun Γ σ R K r Q ev ok hQ=>
 nP hv (.inr ⟨_,rfl⟩) hg (.cons h .nil) (K:=fun vs H=>(nJ vs).bind fun v=>(v.items H).bind fun xs=>gd (small xs) (K (.lst xs) H)) ev ok fun vs ws τ l o rs ev=>cV ev fun x hx ev=>cV ev fun xs he ev=>cZ ev fun hl ev=>by
  refine dF (iH hx rs) fun u e_e ru=>?_;subst e_e
  refine dF (mG o.S he ru) fun a e_e q=>?_;subst e_e
  have k:IN Γ τ (.lst xs) Q:=fun a W' s' l2 o2 fr=>hQ _ a ⟨W',s',τ.H⟩ (l.trans l2) o2 (fr.up l) ev
  cases q with
  |tup us n g r=>exact call_list_seq a (.inr rfl) g rfl rfl (fun h' c' hk ho=>k.at o hk (eE _) ho r) (jB (r.size ▸ gZ hl))
  |lst us n g r=>exact call_list_seq a (.inl rfl) g rfl rfl (fun h' c' hk ho=>k.at o hk (eE _) ho r) (jB (r.size ▸ gZ hl))
theorem Vp (h:ID o=true) (name:Str) (env:Env) (whole:Sem Value):attributeBase o name env whole=whole:=by
 unfold ID at h
 cases hv:Fq o with
 |none=>rw [hv] at h;exact fT h
 |some q=>
  rw [hv] at h
  refine rl q.2 ?_
  exact Expr.Attribute.elim (motive_1:=fun f=>attributeBase (.Call f q.1.2.1 q.1.2.2.1 q.1.2.2.2) name env whole=whole) q.1.1 (eq_of_beq h) fun _ _ _=>rfl
theorem iJ (h:rD o=true) (name:Str) (env:Env) (whole:Sem Value):attributeBase o name env whole=whole:=
 (Bool.or_eq_true_iff.mp h).elim (fun h=>Expr.Name.elim (motive_1:=fun o=>attributeBase o name env whole=whole) o (eq_of_beq h) fun _ _=>rfl) fun h=>
  (Bool.or_eq_true_iff.mp h).elim (fun h=>Expr.Subscript.elim (motive_1:=fun o=>attributeBase o name env whole=whole) o (eq_of_beq h) fun _ _ _=>rfl)
   fun h=>Vp h name env whole
theorem pU (ho:eX Θ o co) (h:iG Θ es ces) {name:Str}(hp:∀env whole,attributeBase o name env whole=whole) (hl:(apos.endLine == pos.line)=true) {T id:String}
  (pa:PlainAttrs T) (slot:Slot T name id) (hty:typeOf (.builtin id)=pure (.type "method_descriptor")) (hlen:es.length<30) {R:Type}{K:V→Hp→Option R}{L:V→List V→Hp→Option R}{r:R}(ev:dI Θ.c co Γ.ρ σ.H K=some r) (ok:Ok Γ σ)
  (hT:∀x u τ,Le σ τ→Ok Γ τ→RV τ.W x u→K x τ.H=some r→τ.s.TypeIs u T∧(∀a,u=.ref a→∃ob,τ.s.heap.get? a=some ob∧ob.dict=none)∧dI Θ.c ces Γ.ρ τ.H (fun y H=>(hZ y).bind fun vs=>L x vs H)=some r)
  (hQ:∀x u vs ws τ,Le σ τ→Ok Γ τ→RV τ.W x u→dK τ.W vs ws→L x vs τ.H=some r→wpAny Θ.X.M Γ.A (call (.builtin id) (u::ws)) Q fX τ.s) :
  wpAny Θ.X.M Γ.A (eval (.Call (.Attribute o name apos) es [] pos) Γ.env) Q fX σ.s:=by
 refine wpAny_Call_method (T:=T) (id:=id) (hp Γ.env _) ?_ hl pa slot hty (ho Γ σ R K r _ ev ok fun x u τ l o rx ev=>?_)
 ·refine rl (bU ..) (rl (bU ..) ?_)
  refine ⟨⟨?_,rfl⟩,?_⟩
  ·refine rl (jA h ..) (rl (kL ..) (rl List.all_map ?_));exact bR.mpr fun _ _=>rfl
  ·refine rl bZ ?_;simpa using hlen
 ·refine iE (hT x u τ l o rx ev) fun h1 h2 ev=>?_
  exact ⟨h1,h2,Calls.callWith_builtin (Do pos h Γ.env) (sH h pos ev o fun vs ws υ l2 o2 rs ev=>hQ x u vs ws υ (l.trans l2) o2 (rx.up l2) rs ev)⟩
theorem oP (ok:Ok Γ σ) {i:Nat}{a:Addr}{h':Heap}{tk:Nat}(g:σ.W.φ[i]? = some a) (hs:Heap.SameBut a σ.s.heap h') (x:OR σ.W h' v a) :
  Le σ ⟨σ.W,{ σ.s with heap:=h',toks:=tk },σ.H.set i v⟩∧Ok Γ ⟨σ.W,{ σ.s with heap:=h',toks:=tk },σ.H.set i v⟩:=
 have l:Le σ ⟨σ.W,{ σ.s with heap:=h',toks:=tk },σ.H.set i v⟩:=⟨Tr.upd (bT g) hs.2 x.alive,⟨rfl,rfl,rfl⟩⟩
 ⟨l,ok.move l (ok.S.upd g hs.2 x)⟩
noncomputable def Fz:FH→String
 |.append=>"list.append" | .extend=>"list.extend" | .popLast=>"list.pop" | .popAt=>"list.pop"
theorem Vq (ok:Ok Γ σ) {m:FH}{q:V×Hp}(e:oJ σ.H m x vs=some q) (rx:RV σ.W x u) (rs:dK σ.W vs ws) (hQ:∀w s',Le σ ⟨σ.W,s',q.2⟩→Ok Γ ⟨σ.W,s',q.2⟩→RV σ.W q.1 w→Q w s') :
  wpAny Θ.X.M Γ.A (call (.builtin (Fz m)) (u::ws)) Q fX σ.s:=cV e fun y hb e=>cV hb fun i hi h1=>cV h1 fun ob ho h2=>cV h2 fun xs hx h3=>cZ h3 fun hl h4=>by
 cases x <;> first | exact nS hi;done | skip
 cases ob <;> first | exact nS hx;done | skip
 cases hi;cases hx;obtain rfl:=aB h4
 refine dF rx fun a e_e=>?_;clear rx;subst e_e;intro g
 obtain ⟨us,n,g',ru⟩:=ok.S.objs i _ a ho g
 have hl:=gZ hl
 have hn:=ru.size
 have fin:∀{us':Array Value}{n':Nat}{h':Heap}{tk:Nat}{ys:List V}{v:V}{w:Value},Heap.SameBut a σ.s.heap h'→h'.get? a=some (iW "list" us' n')→dK σ.W ys us'.toList→RV σ.W v w→some (v,σ.H.set i (.lst ys))=some q→Q w { σ.s with heap:=h',toks:=tk }:=fun hs ho r rv e=>by
  obtain rfl:=aB e
  obtain ⟨l,o⟩:=oP ok g hs (v:=.lst _) (⟨_,_,ho,r⟩:kE ..)
  exact hQ _ _ l o rv
 have popped:∀{j:Nat}{v:V}{w:Value},RV σ.W v w→some (v,σ.H.set i (.lst (xs.eraseIdx j)))=some q→Q w { σ.s with heap:=σ.s.heap.update a (Obj.mapSeq fun xs=>xs.eraseIdxIfInBounds j) }:=fun {j} _ _ rv e=>by
  refine fin (us':=us.eraseIdxIfInBounds j) (n':=if (us.eraseIdxIfInBounds j).size == us.size then n else n+1) (tk:=σ.s.toks) (cL ..) (Heap.get?_update_self _ g' rfl) ?_ rv e
  refine rl (show (us.eraseIdxIfInBounds j).toList=us.toList.eraseIdx j by simp) ?_
  exact ru.erase j
 have nil:vs.isEmpty=true→ws=[]:=fun h=>by
  cases vs with
  |nil=>exact rs
  |cons _ _=>exact fT h
 cases m
 ·refine cV e fun v hv e=>?_
  refine dF (iH hv rs) fun z e_e rz=>?_;subst e_e
  refine wpAny_list_append_plain (hl:=⟨n,g'⟩) (fun h' hpl hs=>?_) (jB (by exact L1 (aD (A0 hn) hl)))
  refine wT hpl fun n' hpl=>?_
  exact fin (tk:=σ.s.toks) hs hpl (by refine rl Array.toList_push ?_;exact ru.snoc rz) RV.none e
 ·refine cV e fun v hv ea=>cV ea fun ys hy eb=>dU eb fun hle ek=>?_
  refine dF (iH hv rs) fun z e_e rz=>?_;subst e_e
  cases v <;> first | exact nS hy;done | skip
  cases hy
  obtain ⟨b,us2,n2,rfl,gb,r2⟩:=rz
  have gb:=ok.S.froz _ _ gb
  have h2:=r2.size
  unfold Ab at hle
  refine call_meets F.slot_list_extend ⟨_,g',rfl⟩ F.entry_list_extend (F.args_list_extend_2 _ _) (AutoSeq1.list_extend_list_list_0 a us n b us2 n2 (by simp [Builtin.List.listTooLong,sizeLine];omega) (jB (by exact L1 (aD (A0 hn) hl))) (by refine rl sizeLine_eq ?_;exact SK hn hl h2 hle)) ⟨g',gb,?_⟩
  exact fin (tk:=σ.s.toks) (cL ..) (Heap.get?_update_self _ g' rfl) (by refine rl Array.toList_append ?_;exact ru.append r2) RV.none ek
 ·refine cZ e fun hv e=>cV e fun v hx e=>?_
  cases nil hv
  refine dF (ru.get hx) fun w hw rw'=>?_
  rw [cF,hn] at hw
  refine call_meets F.slot_list_pop ⟨_,g',rfl⟩ F.entry_list_pop (F.args_list_pop_1 _) (MeetsSeq.list_pop_last a us n w hw (by refine rl sizeLine_eq ?_;exact L1 (aD (A0 hn) hl))) ⟨g',?_⟩
  rw [hn] at e
  exact popped rw' e
 ·refine cV e fun k hk e=>cV e fun j hj e=>dU e fun h0 e=>cV e fun v hx e=>?_
  refine dF (iH hk rs) fun z e_e rz=>?_;subst e_e
  obtain ⟨tz,rfl⟩:=int_at hj rz
  refine dF (ru.get hx) fun w hw rw'=>?_
  rw [cF] at hw
  have hlt:j.toNat<us.size:=(Array.getElem?_eq_some_iff.mp hw).1
  have hfit:Builtin.List.listFitsIndex j=true:=by
   unfold Builtin.List.listFitsIndex
   refine rl (bU ..) (rl bZ (rl bZ ?_))
   exact SJ h0 hlt hn hl
  refine call_meets F.slot_list_pop ⟨_,g',rfl⟩ F.entry_list_pop (F.args_list_pop_2 _ _) (MeetsSeq.list_pop_at a us n j tz j.toNat w hfit (seqIndex_of h0 (by exact A3 hlt)) hw (by refine rl sizeLine_eq ?_;exact L1 (aD (A0 hn) hl))) ⟨g',?_⟩
  exact popped rw' e
theorem Ga (ok:Ok Γ σ) (h:nL σ.H x=true) (r:RV σ.W x u):σ.s.TypeIs u "list"∧(∀a,u=.ref a→∃ob,σ.s.heap.get? a=some ob∧ob.dict=none):=by
 cases x <;> first | exact fT h;done | skip
 rename_i i
 refine dF r fun a e_e=>?_;clear r;subst e_e;intro g
 obtain ⟨xs,hx⟩:=Option.isSome_iff_exists.mp h
 refine cV (show (σ.H[i]?).bind iZ=some xs from hx) fun ob ho hx=>?_
 cases ob <;> first | exact nS hx;done | skip
 obtain ⟨us,n,g',_⟩:=ok.S.objs i _ a ho g
 exact ⟨⟨_,g',rfl⟩,fun b e=>by cases e;exact ⟨_,g',rfl⟩⟩
theorem BH (ho:eX Θ o co) (h:iG Θ es ces) (hp:rD o=true) (hl:(apos.endLine == pos.line)=true) {name:Str}{m:FH}(sl:Slot "list" name (Fz m)) (ty:typeOf (.builtin (Fz m))=pure (.type "method_descriptor")) (hn:es.length<30):eX Θ (.Call (.Attribute o name apos) es [] pos) (.eff m co ces):=fun Γ σ R K r Q ev ok hQ=>
  pU ho h (iJ hp _) hl F.plainAttrs_list sl ty hn (L:=fun x vs H=>(oJ H m x vs).bind fun r=>K r.1 r.2) ev ok (fun x u τ l o rx ev=>cZ ev fun hw ev=>⟨(Ga o hw rx).1,(Ga o hw rx).2,ev⟩)
   fun x u vs ws τ l o rx rs ev=>cV ev fun q hq ev=>Vq o hq rx rs fun w s' l2 o2 rv=>hQ _ w ⟨τ.W,s',q.2⟩ (l.trans l2) o2 rv ev
theorem Dp {o:V}{q:List V×List V}(h:oG o=some q):o=.dct (Db o) q.1 q.2:=by cases o <;> first | (exact nS h;done) | (obtain rfl:=aB h;rfl)
theorem Kj {W:Wd}{i:Nat}{P:Value→Prop}(h:refOf x=some i) (r:RV W x u) (k:∀a,W.φ[i]? = some a→P (.ref a)):P u:=by
 cases x <;> first | (exact nS h;done) | (cases h;exact r.elim fun a q=>q.1 ▸ k a q.2)
theorem IO {W:Wd}{P:List Value→Prop}(e:nJ vs=some x) (r:dK W vs ws) (k:∀u,RV W x u→P [u]):P ws:=(iH e r).elim fun u q=>q.1 ▸ k u q.2
theorem Qo (ok:Ok Γ σ) {q:V×Hp}(e:Mz σ.H x vs=some q) (rx:RV σ.W x u) (rs:dK σ.W vs ws) (hQ:∀w s',Le σ ⟨σ.W,s',q.2⟩→Ok Γ ⟨σ.W,s',q.2⟩→RV σ.W q.1 w→Q w s'):wpAny Θ.X.M Γ.A (call (.builtin "dict.pop") (u::ws)) Q fX σ.s:=
 cV e fun i hi e=>cV e fun ob ho e=>cV e fun qd hd e=>cV e fun k hk e=>cV e fun kI hkI e=>cZ e fun hne e=>cZ e fun hok e=>cZ e fun hsm e=>cV e fun v hf e=>by
  apply Kj hi rx
  intro a g
  apply IO hk rs
  intro z rz
  refine Uy ok (ho.trans (aQ some ((Dp hd).trans (aQ (fun b=>V.dct b qd.1 qd.2) (by rw [Bool.not_eq_true'] at hne;exact hne))))) g hok (gZ hsm) hf rz ((int_at hkI rz).elim fun t e=>by refine rl e ?_;rfl) fun h' tk w rw' x' hs=>?_
  obtain rfl:=aB e
  exact hQ w _ (oP (tk:=tk) ok g hs x').1 (oP (tk:=tk) ok g hs x').2 rw'
theorem vV (ok:Ok Γ σ) (h:rW σ.H x=true) (r:RV σ.W x u):σ.s.TypeIs u "dict"∧(∀a,u=.ref a→∃ob,σ.s.heap.get? a=some ob∧ob.dict=none):=
 (Option.isSome_iff_exists.mp h).elim fun q hx=>cV hx fun i hi hx=>cV hx fun ob ho hx=>by
  apply Kj hi r
  intro a g
  have D:=ok.S.objs i _ a (ho.trans (aQ some (Dp hx))) g
  obtain ⟨es,n,m,g',_⟩:=D
  exact ⟨⟨_,g'.1,rfl⟩,fun b e=>Value.ref.inj e ▸ ⟨_,g'.1,rfl⟩⟩
theorem Vr (ho:eX Θ o co) (h:iG Θ es ces) (hp:rD o=true) (hl:(apos.endLine == pos.line)=true) (hn:es.length<30):eX Θ (.Call (.Attribute o ("pop":Str) apos) es [] pos) (.dpop co ces):=fun Γ σ R K r Q ev ok hQ=>
  pU ho h (iJ hp _) hl F.plainAttrs_dict F.slot_dict_pop F.type_dict_pop hn (L:=fun x vs H=>(Mz H x vs).bind fun r=>K r.1 r.2) ev ok (fun x u τ l o rx ev=>cZ ev fun hw ev=>⟨(vV o hw rx).1,(vV o hw rx).2,ev⟩)
   fun x u vs ws τ l o rx rs ev=>cV ev fun q hq ev=>Qo o hq rx rs fun w s' l2 o2 rv=>hQ _ w ⟨τ.W,s',q.2⟩ (l.trans l2) o2 rv ev
noncomputable def xK:V→Bool
 |.str s=>s.cps.isEmpty
 |_=>false
theorem xL (h:xK x=true):x=.str (Str.ofString ""):=by
 cases x <;> first | exact fT h;done | skip
 rename_i st
 obtain ⟨cps⟩:=st
 have:cps = #[]:=Array.isEmpty_iff.mp h
 subst this;rfl
theorem Vs (ha:fK Θ e ce) {kk:Nat}{cp:Pos}(hl:(apos.endLine == pos.line)=true):eX Θ (.Call (.Attribute (.Constant (.str (Str.ofString "")) kk cp) ("join":Str) apos) [e] [] pos) (.prim .join (.cons ce .nil)):=fun Γ σ R K r Q ev ok hQ=>by
 refine pU (Be (v:=.str (Str.ofString "")) rfl) (.cons ha .nil) (fun _ _=>rfl) hl F.plainAttrs_str F.slot_str_join F.type_str_join (Nat.lt_of_sub_pos (show 0<29 by decide)) (K:=fun x H=>gd (xK x) (dI Θ.c (.cons ce .nil) Γ.ρ H fun y H=>(hZ y).bind fun vs=>(dS H .join vs).bind fun v=>K v H))
  (L:=fun x vs H=>gd (xK x) ((dS H .join vs).bind fun v=>K v H)) ev ok (fun x u τ l o rx ev1=>cZ ev1 fun hx ev2=>?_) fun x u vs ws τ l o rx rs ev1=>cZ ev1 fun hx ev2=>cV ev2 fun v hv ev3=>?_
 ·have hx:=xL hx
  subst hx
  obtain ⟨tk,rfl⟩:=rx
  exact ⟨typeIs_str _ _ _,fun a e=>(by exact PySem.Value.noConfusion e),ev2⟩
 ·have hx:=xL hx
  subst hx
  refine wT rx fun tk e_e=>?_;clear rx;subst e_e
  exact Qk o rs hv fun w W' s' l2 o2 rv=>hQ v w ⟨W',s',τ.H⟩ (l.trans l2) o2 rv ev3
theorem Gb (ok:Ok Γ σ) {z y:V}{zv yv:Value}{H':Hp}(e:jU σ.H z x y=some H') (rz:RV σ.W z zv) (rx:RV σ.W x u) (ry:RV σ.W y yv) {Q:Unit→Shared→Prop}(hQ:∀s',Le σ ⟨σ.W,s',H'⟩→Ok Γ ⟨σ.W,s',H'⟩→Q () s') :
  wpAny Θ.X.M Γ.A (setItem u yv zv) Q fX σ.s:=cV e fun i hi e1=>cV e1 fun ob ho e2=>by
 cases x <;> first | exact nS hi;done | skip
 cases hi
 refine dF rx fun a e_e=>?_;clear rx;subst e_e;intro g
 cases ob <;> first | exact nS e2;done | skip
 ·rename_i xs0
  refine cV e2 fun xs hx e=>cV e fun j hj e=>cZ e fun hi e3=>?_
  obtain rfl:=aB hx;obtain rfl:=aB e3
  obtain ⟨t,rfl⟩:=int_at hj ry
  refine iE (Vb hi) fun k1 k2 k3=>?_
  obtain ⟨us,n,g',ru⟩:=ok.S.objs i _ a ho g
  rw [ru.size] at k2
  refine PySem.W.ki_setAt (n:=n) g' k1 (by exact k3) (by exact k2) ?_
  have x:OR σ.W (σ.s.heap.update a (Obj.mapSeq fun us=>us.setIfInBounds j.toNat zv)) (.lst (xs0.set j.toNat z)) a:=by
   show kE _ _ _
   refine ⟨us.setIfInBounds j.toNat zv,n,(Heap.get?_update_self (Obj.mapSeq fun us=>us.setIfInBounds j.toNat zv) g' rfl).trans ?_,by refine rl Array.toList_setIfInBounds ?_;exact ru.set rz⟩
   show some (Obj.mk _ _ (.seq _ (if (us.setIfInBounds j.toNat zv).size == us.size then n else n+1)) _)=_
   exact rl Array.size_setIfInBounds (rl (beq_self_eq_true ..) (rl (if_pos rfl) rfl))
  obtain ⟨l,o⟩:=oP (tk:=σ.s.toks) ok g (cL ..) x
  exact hQ _ l o
 ·refine cZ e2 fun h1 e=>cZ e fun h3 e=>?_
  cases e
  exact Ux ok ho g h1 (bD h3) rz ry fun h' tk x hs=>hQ _ (oP ok g hs x).1 (oP ok g hs x).2
theorem mK {W:Wd}{k:Nat}(e:kD x=some k) (r:RV W x u):∃t,u=.int k t:=cV e fun j hj e=>dU e fun h0 e=>by
 obtain rfl:=aB e
 refine rl (bP h0) ?_
 exact int_at hj r
theorem Kk (us:Array Value) {j k:Nat}(h:j≤k):slicePick us (some j) (some k) none=((us.toList.drop j).take (k-j)).toArray:=by
 refine rl (slicePick_plain ..) ?_
 show ((us.toList.drop (clipAt us.size j)).take (clipAt us.size k-clipAt us.size j)).toArray=_
 refine rl (clipAt_nat ..) (rl (clipAt_nat ..) ?_)
 congr 1
 rcases Nat.le_total j us.size with q | q
 ·refine rl (Nat.min_eq_left q) ?_
  rcases Nat.le_total k us.size with q2 | q2
  ·exact rl (Nat.min_eq_left q2) rfl
  ·rw [Nat.min_eq_right q2,List.take_of_length_le (by refine rl List.length_drop (rl cB ?_);exact aN _),List.take_of_length_le (by refine rl List.length_drop (rl cB ?_);exact Nat.sub_le_sub_right q2 j)]
 ·exact rl (Nat.min_eq_right q) (rl (List.drop_of_length_le (by rw [cB];exact aN _)) (rl (List.drop_of_length_le (by rw [cB];exact q)) (rl List.take_nil (rl List.take_nil rfl))))
section
variable {prog:Program}{w:World}{A:Around}{E:Value→Shared→Prop}{s:Shared}
end
theorem vW {w:Value}(h:(w == Value.none)=true):w=.none:=by cases w <;> first | rfl | exact fT h
end
section
variable {prog:Program}{w:World}{A:Around}{E:Value→Shared→Prop}{s:Shared}
theorem sJ {sl:Addr}{b n:Nat}{u:Tok}{Q:Int×Int×Nat→Shared→Prop}(hs:s.heap.IsSliceOf sl .none (.int b u) .none) (hb:b≤n) (h:Q (0,1,b) s) :
  wpAny (model prog w) A (Builtin.Slice.sliceApplied (.ref sl) (pure (n:Int))) Q E s:=by
 refine fU (id hs) fun os hos hcs hds=>?_
 unfold Builtin.Slice.sliceApplied Builtin.Slice.sliceFields
 refine aC (aC (wpAny_field hos hds (x:=.none) rfl (aC (wpAny_field hos hds (x:=.int b u) rfl (aC (wpAny_field hos hds (x:=.none) rfl (aK ?_)))))))
 refine aC (PyProof.Rows.slicePart_none ?_)
 show wpAny _ _ (if ((1:Int) == 0)=true then _ else _) _ _ s
 refine rl (if_neg (by decide)) ?_
 refine aC (PyProof.Rows.slicePart_none (aC (PyProof.Rows.slicePart_int (aC (aK ?_)))))
 show wpAny _ _ (match Builtin.Slice.sliceAdjust none (some (b:Int)) 1 (n:Int) with | (lo,hi)=>pure (lo,(1:Int),Builtin.Slice.slicePlaces lo hi 1)) _ _ s
 have e:Builtin.Slice.sliceAdjust none (some (b:Int)) 1 (n:Int)=(0,(b:Int)):=by
  unfold Builtin.Slice.sliceAdjust
  have h1:¬((1:Int)<0):=by exact (by decide)
  have h2:¬((b:Int)<0):=by exact q5
  simp only [h1,h2,if_false]
  congr 1
  omega
 have e2:Builtin.Slice.slicePlaces 0 (b:Int) 1=b:=by
  unfold Builtin.Slice.slicePlaces
  have h1:(1:Int)>0:=by exact (by decide)
  simp only [h1,if_true,Int.ediv_one]
  split <;> omega
 refine rl e ?_
 show wpAny _ _ (pure ((0:Int),(1:Int),Builtin.Slice.slicePlaces 0 (b:Int) 1)) _ _ s
 refine rl e2 ?_
 exact aK h
theorem Qp (xs:Array Value) (b:Nat):((List.range b).filterMap fun (k:Nat)=>xs[((0:Int)+(k:Int)*1).toNat]?).toArray=(xs.toList.take b).toArray:=by
 have e:(fun (k:Nat)=>xs[((0:Int)+(k:Int)*1).toNat]?)=fun k=>xs[0+k]?:=by
  funext k
  have:((0:Int)+(k:Int)*1).toNat=0+k:=by exact SI
  exact rl this rfl
 refine rl e ?_
 have:=pick_run xs 0 b
 rw [List.filterMap_map,List.drop_zero] at this
 exact aQ _ this
theorem rE {t sl:Addr}{items:Array Value}{b:Nat}{u:Tok}{Q:Value→Shared→Prop}(ht:PyProof.Rows.IsTup s.heap t items) (hs:s.heap.IsSliceOf sl .none (.int b u) .none) (hb:b<items.size)
  (h:Q (.ref s.heap.objs.size) { s with heap:=s.heap.push { cls:=.type "tuple",data:=.seq (items.toList.take b).toArray } })
  (hsz:items.size≤sizeLine):wpAny (model prog w) A (getItem (.ref t) (.ref sl)) Q E s:=by
 have htake:sizeOk (.seq (items.toList.take b).toArray):=by
  show (items.toList.take b).toArray.size≤sizeLine
  refine rl List.size_toArray (rl List.length_take (rl cB ?_))
  exact aD (Nat.min_le_right _ _) hsz
 refine fU (id hs) fun os hos hcs hds=>?_
 have hTs:s.TypeIs (.ref sl) "slice":=⟨os,hos,hcs⟩
 unfold getItem
 try with_reducible refine bS ?_
 first | refine aC (aK ?_) | skip
 refine aC (wpAny_sequenceKey ht.typeIs (by decide) ?_)
 refine aC (wpAny_callSpecial?_slot (name:=Str.ofString "__getitem__") ht.typeIs PyProof.Rows.slot_tuple_getitem
  (wpAny_call_entry PyProof.Rows.slot_tuple_getitem ht.typeIs PyProof.Rows.entry_tuple_getitem ?_ (PyProof.Rows.args_tuple_getitem _ _)))
 show wpAny _ _ (Builtin.Tuple.tupleItemsOf (.ref t) >>= _) _ _ s
 refine aC (PyProof.Rows.tupleItemsOf_ ht ?_)
 refine aC (wpAny_typeOf hTs ?_)
 refine rl (if_pos (by decide)) ?_
 refine aC (sJ hs (cI hb) ?_)
 have hno:¬(((0:Int) == 0&&(1:Int) == 1&&b == items.size)=true):=by
  have:(b == items.size)=false:=by refine ri bY ?_;exact q9 hb
  refine rl this ?_;simp
 show wpAny _ _ (if ((0:Int) == 0&&(1:Int) == 1&&b == items.size)=true then _ else _) _ _ s
 refine rl (if_neg hno) (rl (Qp items b) ?_)
 first
  |exact aC (m:=Builtin.Tuple.tupleExact _) (wpAny_newObj_type (aK ⟨_,rfl,aK h⟩) htake)
  |exact aC (m:=Builtin.Tuple.tupleExact _) (wpAny_newObj_type (aC (aK (aK ⟨_,rfl,aK h⟩))) htake)
  |exact aC (aC (m:=Builtin.Tuple.tupleExact _) (wpAny_newObj_type (aK (aK ⟨_,rfl,aK h⟩)) htake))
  |exact aC (aC (m:=Builtin.Tuple.tupleExact _) (wpAny_newObj_type (aK ⟨_,rfl,aK h⟩) htake))
end
section
variable {Θ:Th}{Γ:Gm Θ}{σ:St}{e o:Expr}{ce co:E}{es:List Expr}{ces:E}{Q:Value→Shared→Prop}{G:Glob}{f:Str}{p apos pos:Pos}{v x:V}{w u:Value}{vs xs:List V}{ws:List Value}
theorem Qq (ok:Ok Γ σ) {l h y:V}{lv hv:Value}(e:lU σ.H x l h=some y) (rx:RV σ.W x u) (rl:RV σ.W l lv) (rh:RV σ.W h hv) {sl:Addr}(hs:σ.s.heap.IsSliceOf sl lv hv .none) (hQ:Kt Γ σ y Q) :
  (∃T g,σ.s.TypeIs u T∧typeLookup (.type T) "__getitem__"=pure (some (.builtin g)))∧wpAny Θ.X.M Γ.A (getItem u (.ref sl)) Q fX σ.s:=by
 have hl0:=(is_none rl).2
 have hh0:=(is_none rh).2
 have lst:((eC σ.H x).bind fun xs=>(Px xs l h).bind fun ys=>some (.lst ys))=some y→(∃T g,σ.s.TypeIs u T∧typeLookup (.type T) "__getitem__"=pure (some (.builtin g)))∧wpAny Θ.X.M Γ.A (getItem u (.ref sl)) Q fX σ.s:=fun e=>cV e fun xs hx e=>cV e fun ys hy e=>cZ hy fun hlen hy=>by
  obtain rfl:=aB e
  obtain ⟨a,rfl,us,n,g,q⟩:=fY ok.S hx rx
  have hl:σ.s.heap.IsList a us:=⟨_,g,rfl,n,rfl⟩
  have hlen:=gZ hlen
  have hn:=q.size
  refine ⟨⟨_,_,hl.typeIs,slot_list_getitem.lookup⟩,?_⟩
  have go:∀{lo hi:Option Int},IsPart lv lo→IsPart hv hi→dK σ.W ys (slicePick us lo hi none).toList→wpAny Θ.X.M Γ.A (getItem (.ref a) (.ref sl)) Q fX σ.s:=by
   intro lo hi p1 p2 r
   refine wpAny_getItem_list_slice hl hs p1 p2 .none (by simp) ?_ (jB (by exact L1 (aD (A0 hn) hlen)))
   refine iE (ok.list (n:=0) (m:=σ.s.toks) r) fun l o fr=>?_
   rw [Array.toArray_toList] at l o fr
   exact fr.freeze l o.S fun ob l4 S4 rv=>hQ _ _ _ l4 (ok.move l4 S4) rv
  cases h1:isNone l with
  |true=>
   rw [h1] at hy hl0
   cases vW hl0
   refine cV hy fun k hk hy=>?_
   obtain rfl:=aB hy
   obtain ⟨t,rfl⟩:=mK hk rh
   exact go .none (.int _ t) (by rw [slicePick_upto'];exact q.take k)
  |false=>
   rw [h1] at hy
   refine cV hy fun j hj hy=>?_
   obtain ⟨t,rfl⟩:=mK hj rl
   cases h2:isNone h with
   |true=>
    rw [h2] at hy hh0
    cases vW hh0
    obtain rfl:=aB hy
    exact go (.int _ t) .none (by rw [slicePick_from'];exact q.drop j)
   |false=>
    rw [h2] at hy
    refine cV hy fun k hk hy=>dU hy fun hjk hy=>?_
    obtain rfl:=aB hy
    obtain ⟨t',rfl⟩:=mK hk rh
    exact go (.int _ t) (.int _ t') (by rw [Kk _ hjk];exact (q.drop j).take _)
 cases x <;> first | exact lst e | skip
 rename_i xs
 refine cZ e fun hlen e=>?_
 have hlen:=gZ hlen
 obtain ⟨a,us,n,rfl,g,q⟩:=rx
 have hn:=q.size
 have ht:PyProof.Rows.IsTup σ.s.heap a us:=⟨_,ok.S.froz _ _ g,rfl,n,rfl⟩
 refine ⟨⟨_,_,ht.typeIs,PyProof.Rows.slot_tuple_getitem.lookup⟩,?_⟩
 cases h1:isNone l with
 |true=>
  rw [h1] at e hl0
  cases vW hl0
  refine cV e fun k hk e=>dU e fun hk2 e=>?_
  obtain rfl:=aB e
  obtain ⟨t,rfl⟩:=mK hk rh
  refine rE ht hs (by exact aR hk2 (bM hn)) ?_ (jB (by exact L1 (aD (A0 hn) hlen)))
  exact ok.tuple (n:=0) (m:=σ.s.toks) (q.take k) fun W' l2 o2 rt=>hQ _ W' _ l2 o2 rt
 |false=>
  rw [h1] at e
  refine cV e fun j hj e=>cZ e fun hc e=>?_
  obtain rfl:=aB e
  obtain ⟨h2,hc⟩:=aF.mp hc
  have hc:=bD hc
  rw [h2] at hh0
  cases vW hh0
  obtain ⟨t,rfl⟩:=mK hj rl
  refine PyProof.Rows.getItem_tuple_from ht hs hc.1 (by exact aD hc.2 (bM hn)) ?_ (jB (by exact L1 (aD (A0 hn) hlen)))
  exact ok.tuple (n:=0) (m:=σ.s.toks) (q.drop j) fun W' l2 o2 rt=>hQ _ W' _ l2 o2 rt
noncomputable def BI (Θ:Th) (o:Option Expr) (ce:E):Prop:=match o with
 |none=>ce=.const .none
 |some e=>eX Θ e ce
theorem Gc {lo:Option Expr}(h:BI Θ lo ce) {R:Type}{K:V→Hp→Option R}{r:R}(ev:dI Θ.c ce Γ.ρ σ.H K=some r) (ok:Ok Γ σ) (hQ:∀v w τ,Le σ τ→Ok Γ τ→RV τ.W v w→K v τ.H=some r→Q w τ.s):wpAny Θ.X.M Γ.A (evalPart lo Γ.env) Q fX σ.s:=by
 cases lo with
 |none=>cases (show _=_ from h);exact aK (hQ _ _ σ (.refl _) ok RV.none ev)
 |some e=>exact h Γ σ R K r Q ev ok hQ
theorem Qr {a:Expr}{ca clo chi:E}{lo hi:Option Expr}(ha:eX Θ a ca) (hlo:BI Θ lo clo) (hhi:BI Θ hi chi):eX Θ (.Subscript a (.Slice lo hi none p) pos) (.slice ca clo chi):=fun Γ σ R K r Q ev ok hQ=>
 PyProof.Rows.Subscript_ (ha Γ σ R _ r _ ev ok fun x u τ l o rx ev=>wpAny_Slice (Gc hlo ev o fun lx lv τ2 l2 o2 rl ev=>Gc hhi ev o2 fun hx hv τ3 l3 o3 rh ev=>aK (cV ev fun y hy ev=>by
  have hk:∀b o,τ3.s.heap.get? b=some o→(τ3.s.heap.push { cls:=.type "slice",data:=.fields #[lv,hv,.none] }).get? b=some o:=fun b o e=>bB _ e
  have l4:Le τ3 (τ3.hp (τ3.s.heap.push { cls:=.type "slice",data:=.fields #[lv,hv,.none] }) τ3.s.toks):=.grow hk
  have L:=((l.trans l2).trans l3).trans l4
  obtain ⟨⟨T,g,hT,hg⟩,hw⟩:=Qq (Q:=Q) (o3.grow (n:=τ3.s.toks) hk) hy (rx.mono (l2.t.le.trans l3.t.le)) (rl.mono l3.t.le) rh (Heap.IsSliceOf.new ..) fun w W' s' l5 o5 rv=>hQ _ w ⟨W',s',τ3.H⟩ (L.trans l5) o5 rv ev
  exact PyProof.Rows.tail_any (ops:=[.ref τ3.s.heap.objs.size,u]) hT hg hw rfl)))
end
end
section
structure oL (P:Addr→Prop) (W W':Wd) (h h':Heap):Prop where
 le:W.le W'
 keep:∀b o,h.get? b=some o→b∉W.φ→¬P b→h'.get? b=some o
 alive:∀b,h.get? b≠none→¬P b→h'.get? b≠none
 nf:∀b∈W'.φ,b∈W.φ∨h.get? b=none∨P b
 nz:∀b o,W'.σ b=some o→W.σ b=some o∨h.get? b=none∨P b
section
variable {P P':Addr→Prop}{W W' W'':Wd}{h h' h'':Heap}
theorem oL.refl:oL P W W h h:=⟨.refl _,fun _ _ e _ _=>e,fun _ e _=>e,fun _ m=>.inl m,fun _ _ m=>.inl m⟩
theorem Tr.toP (x:Tr W W' h h'):oL P W W' h h':=⟨x.le,fun b o e n _=>x.keep b o e n,fun b e _=>x.alive b e,fun b m=>(x.nf b m).imp_right .inl,fun b o m=>(x.nz b o m).imp_right .inl⟩
theorem oL.mono (x:oL P W W' h h') (hp:∀b,P b→P' b):oL P' W W' h h':=
 ⟨x.le,fun b o e n p=>x.keep b o e n fun q=>p (hp b q),fun b e p=>x.alive b e fun q=>p (hp b q),fun b m=>(x.nf b m).imp_right (·.imp_right (hp b)),fun b o m=>(x.nz b o m).imp_right (·.imp_right (hp b))⟩
theorem oL.fresh {h₀:Heap}{W₀:Wd}(x:oL P' W₀ W h₀ h) (y:oL P W W' h h') (hp:∀b,P b→P' b∨h₀.get? b=none):oL P' W₀ W' h₀ h' where
 le:=x.le.trans y.le
 keep:=fun b o e nb np=>y.keep b o (x.keep b o e nb np) (fun m=>(x.nf b m).elim nb fun q=>q.elim (fun q=>by rw [q] at e;exact nS e) np) fun p=>(hp b p).elim np fun q=>by rw [q] at e;exact nS e
 alive:=fun b e np=>y.alive b (x.alive b e np) fun p=>(hp b p).elim np fun q=>e q
 nf:=fun b m=>by
  rcases y.nf b m with q | q | q
  ·exact x.nf b q
  ·by_cases p:P' b
   ·exact .inr (.inr p)
   ·exact .inr (.inl (bK fun e=>x.alive b e p q))
  ·exact .inr ((hp b q).symm)
 nz:=fun b o m=>by
  rcases y.nz b o m with q | q | q
  ·exact x.nz b o q
  ·by_cases p:P' b
   ·exact .inr (.inr p)
   ·exact .inr (.inl (bK fun e=>x.alive b e p q))
  ·exact .inr ((hp b q).symm)
theorem oL.trans (x:oL P W W' h h') (y:oL P W' W'' h' h''):oL P W W'' h h'':=x.fresh y fun _ p=>.inl p
theorem oL.toTr (x:oL P W W' h h') (hp:∀b,P b→h.get? b=none):Tr W W' h h':=
 ⟨x.le,fun b o e n=>x.keep b o e n (fun p=>by rw [hp b p] at e;exact nS e),fun b e=>x.alive b e fun p=>e (hp b p),fun b m=>(x.nf b m).imp_right (·.elim id (hp b)),fun b o m=>(x.nz b o m).imp_right (·.elim id (hp b))⟩
theorem Tr.fresh {h₀:Heap}{W₀:Wd}(x:Tr W₀ W h₀ h) (y:oL P W W' h h') (hp:∀b,P b→h₀.get? b=none):Tr W₀ W' h₀ h':=
 ((x.toP (P:=fun _=>False)).fresh y fun b p=>.inr (hp b p)).toTr fun _ p=>p.elim
theorem oL.ext {a:Addr}(hp:P a) (hs:∀b o,b≠a→h.get? b=some o→h'.get? b=some o):oL P W W h h' where
 le:=.refl _
 keep:=fun b o e _ np=>hs b o (fun q=>np (q ▸ hp)) e
 alive:=fun b e np=>by
  cases q:h.get? b with
  |none=>exact absurd q e
  |some o=>refine rl (hs b o (fun r=>np (r ▸ hp)) q) ?_;simp
 nf:=fun _ m=>.inl m
 nz:=fun _ _ m=>.inl m
end
noncomputable def iK (X:Cx) (W:Wd) (b:Addr):Prop:=X.B.get? b=none∧W.σ b=none∧b∉W.φ
theorem iK.of_none {X:Cx}{W:Wd}{H:Hp}{h:Heap}{b:Addr}(S:SR X.B W H h) (e:h.get? b=none):iK X W b:=by
 refine ⟨?_,?_,fun m=>S.mem_alive m e⟩
 ·cases q:X.B.get? b with
  |none=>rfl
  |some o=>rw [S.base b o q] at e;exact Sn e
 ·cases q:W.σ b with
  |none=>rfl
  |some o=>rw [S.froz b o q] at e;exact Sn e
theorem iK.move {X:Cx}{W W':Wd}{h h':Heap}{P:Addr→Prop}{b:Addr}(f:iK X W b) (t:oL P W W' h h') (ha:h.get? b≠none) (np:¬P b):iK X W' b:=by
 refine ⟨f.1,?_,fun m=>(t.nf b m).elim f.2.2 fun q=>q.elim ha np⟩
 cases q:W'.σ b with
 |none=>rfl
 |some o=>
  rcases t.nz b o q with e | e | e
  ·rw [f.2.1] at e;exact nS e
  ·exact absurd e ha
  ·exact absurd e np
theorem SR.free {X:Cx}{W:Wd}{H:Hp}{h h':Heap}{P:Addr→Prop}(S:SR X.B W H h) (hp:∀b,P b→iK X W b) (k:∀b o,¬P b→h.get? b=some o→h'.get? b=some o):SR X.B W H h':=
 S.other (P:=P) (fun b p=>(hp b p).1) (fun b p=>(hp b p).2.1) (fun b p=>(hp b p).2.2) k
theorem xM {M:Model}{A:Around}{E:Value→Shared→Prop}{s:Shared}{target:Expr}{I:Addr}{w:Value}{o:Obj}{c:String}{Q:Unit→Shared→Prop}(ho:s.heap.get? I=some o) (hc:o.cls=.type c)
  (hn:(["enumerate","zip","dict_itemiterator","dict_reverseitemiterator","odict_iterator","itertools.zip_longest","itertools.pairwise"]:List String).contains c=false) (h:Q () s) :
  wpAny M A (letOwnedTupleGo target (.ref I) w) Q E s:=by
 have go:wpAny M A (do
   let (.ref r,.ref a):=(Value.ref I,w) | return
   let o ←load r
   match o.cls,o.data with
   |.type n,.fields vs=>
    if ["enumerate","zip","dict_itemiterator","dict_reverseitemiterator","odict_iterator","itertools.zip_longest","itertools.pairwise"].contains n&&vs[0]? == some (rawInt a) then
     rule "for.unpacks-the-owned-tuple"
     updateField r 0 .none
   |_,_=>pure ():Sem Unit) Q E s:=by
  cases w <;> try exact aK h
  refine aC (wpAny_load ho ?_)
  refine rl hc ?_
  cases o.data <;> try exact aK h
  simp only [hn,Bool.false_and,Bool.false_eq_true,if_false]
  exact aK h
 cases target <;> first | exact aK h | exact go
section
variable {prog:Program}{w:World}{A:Around}{E:Value→Shared→Prop}{s:Shared}
theorem Bg {d:Addr}{es:Array DictEntry}{ep:Nat}{Q:Value→Shared→Prop}(g:s.heap.get? d=some (jH es ep)) (hd:(d == sysModules)=false)
  (hQ:Q (.ref s.heap.objs.size) { s with heap:=s.heap.push { cls:=.type "dict_keyiterator",data:=.fields #[.ref d,.int 0 0,.int es.size 0,.int ep 0] } }) :
  wpAny (model prog w) A (pyIter (.ref d)) Q E s:=by
 have hT:s.TypeIs (.ref d) "dict":=⟨_,g,rfl⟩
 refine wpAny_pyIter_slot hT F.slot_dict_iter (wpAny_call_entry F.slot_dict_iter hT F.entry_dict_iter ?_ (F.args_dict_iter_1 _))
 unfold Builtin.«dict.__iter__»
 refine aC ?_
 unfold Builtin.Dict.dictSlotNone
 refine aC (wpAny_notOrdered_dict hT ?_)
 show wpAny _ _ (pure (Value.ref d)) _ _ s
 refine aK ?_
 show wpAny _ _ (Builtin.Dict.showsAll d >>= _) _ _ s
 unfold Builtin.Dict.showsAll
 refine rl (if_neg (by rw [hd];exact Bool.false_ne_true)) ?_
 refine aC (aK ?_)
 refine aC (wpAny_dictEntries g rfl ?_)
 refine aC (wpAny_dictEpoch g rfl ?_)
 refine aC (wpAny_newObj_type (aK ⟨_,rfl,"dict_keyiterator",_,⟨_,bQ _ rfl,rfl⟩,F.slot_dict_keyiterator_next.lookup,?_⟩))
 simpa [rawInt] using hQ
theorem xN {it d:Addr}{i ep m:Nat}{es:Array DictEntry}{e:DictEntry}{Q:Option Value→Shared→Prop}(hm:m=es.size) (hit:s.heap.IsKeyIter it d i m ep)
  (hod:s.heap.get? d=some (jH es ep)) (hx:es[i]? = some e)
  (hQ:∀h',h'.IsKeyIter it d (i+1) m ep→Heap.SameBut it s.heap h'→Q (some e.key) { s with heap:=h' }) :
  wpAny (model prog w) A (pyNext (.ref it)) Q E s:=by
 subst hm
 refine fU (id hit) fun o ho hc hd=>?_
 unfold pyNext
 refine aC (wpAny_attempt (wpAny_callSpecial?_slot (name:=Str.ofString "__next__") hit.typeIs F.slot_dict_keyiterator_next
  (wpAny_call_entry F.slot_dict_keyiterator_next hit.typeIs F.entry_dict_keyiterator_next ?_ (F.args_dict_keyiterator_next_1 _))))
 refine aC (aK ?_)
 refine aC ?_
 refine aC ?_
 first | refine aC (wpAny_typeNameOfWhole_keyiter hit.typeIs (aK ?_)) | refine aC (wpAny_typeNameOf_keyiter hit.typeIs (aK ?_))
 refine aC (wpAny_fieldsOf ho hd ?_)
 have hown:Builtin.Dict_items.ownsTuple "dict_keyiterator"=false:=by decide
 simp only [hown,Bool.false_eq_true,if_false]
 show wpAny _ _ (if (Value.ref d == Value.none)=true then _ else _) _ _ s
 refine rl (if_neg (show ¬((Value.ref d == Value.none)=true) from Bool.false_ne_true)) ?_
 refine aC (aK ?_)
 refine aC (wpAny_dictEntries hod rfl ?_)
 refine rl (if_neg (by simp)) ?_
 refine aC (aK ?_)
 refine aC (wpAny_dictEpoch hod rfl ?_)
 refine rl (if_neg (by simp)) ?_
 refine aK ?_
 simp only [show ¬((i:Int)<0) from by exact q5,if_false,Int.toNat_natCast,hx]
 refine aC ?_
 first | refine aC (wpAny_typeNameOfWhole_keyiter hit.typeIs (aK ?_)) | refine aC (wpAny_typeNameOf_keyiter hit.typeIs (aK ?_))
 refine aC (wpAny_isOneOf_keyiter hit.typeIs ?_)
 show wpAny _ _ (setField (.ref it) 1 (rawInt ((i:Int)+1)) >>= _) _ _ s
 refine aC (wpAny_setField ho hd (by simp) ?_)
 have hit':(s.heap.update it (Obj.mapFields (·.setIfInBounds 1 (rawInt ((i:Int)+1))))).IsKeyIter it d (i+1) es.size ep:=
  ⟨_,Heap.get?_update_self _ ho (Obj.isFreed_of_fields (Obj.data_mapFields hd _)),(Obj.cls_mapFields ..).trans hc,by refine rl (Obj.data_mapFields hd ..) ?_;simp [rawInt]⟩
 refine aC (bS ?_)
 refine aC (wpAny_isOneOf_keyiter (s:={ s with heap:=s.heap.update it (Obj.mapFields (·.setIfInBounds 1 (rawInt ((i:Int)+1)))) }) hit'.typeIs ?_)
 show wpAny _ _ (pure e.key) _ _ _
 exact aK (aK ⟨_,rfl,aK (hQ _ hit' (cL ..))⟩)
theorem Af {it d:Addr}{i ep:Nat}{es:Array DictEntry}{Q:Option Value→Shared→Prop}{m:Nat}(hh:A.handled=none) (hm:m=es.size) (hit:s.heap.IsKeyIter it d i m ep)
  (hod:s.heap.get? d=some (jH es ep)) (hx:es[i]? = none)
  (hQ:∀h',Heap.ExtBut it s.heap h'→Q none { s with heap:=h' }):wpAny (model prog w) A (pyNext (.ref it)) Q E s:=by
 subst hm
 refine fU (id hit) fun o ho hc hd=>?_
 unfold pyNext
 refine aC (wpAny_attempt (wpAny_callSpecial?_slot (name:=Str.ofString "__next__") hit.typeIs F.slot_dict_keyiterator_next
  (wpAny_call_entry F.slot_dict_keyiterator_next hit.typeIs F.entry_dict_keyiterator_next ?_ (F.args_dict_keyiterator_next_1 _))))
 refine aC (aK ?_)
 refine aC ?_
 refine aC ?_
 first | refine aC (wpAny_typeNameOfWhole_keyiter hit.typeIs (aK ?_)) | refine aC (wpAny_typeNameOf_keyiter hit.typeIs (aK ?_))
 refine aC (wpAny_fieldsOf ho hd ?_)
 have hown:Builtin.Dict_items.ownsTuple "dict_keyiterator"=false:=by decide
 simp only [hown,Bool.false_eq_true,if_false]
 show wpAny _ _ (if (Value.ref d == Value.none)=true then _ else _) _ _ s
 refine rl (if_neg (show ¬((Value.ref d == Value.none)=true) from Bool.false_ne_true)) ?_
 refine aC (aK ?_)
 refine aC (wpAny_dictEntries hod rfl ?_)
 refine rl (if_neg (by simp)) ?_
 refine aC (aK ?_)
 refine aC (wpAny_dictEpoch hod rfl ?_)
 refine rl (if_neg (by simp)) ?_
 refine aK ?_
 simp only [show ¬((i:Int)<0) from by exact q5,if_false,Int.toNat_natCast,hx]
 refine aC ?_
 first | refine aC (wpAny_typeNameOfWhole_keyiter hit.typeIs (aK ?_)) | refine aC (wpAny_typeNameOf_keyiter hit.typeIs (aK ?_))
 show wpAny _ _ (setField (.ref it) 0 .none >>= _) _ _ s
 refine aC (wpAny_setField ho hd (by simp) ?_)
 show wpAny _ _ (newExc (.type "StopIteration") [] >>= _) _ _ _
 refine aC ?_
 simp only [newExc,newTuple]
 refine aC (wpAny_newObj_type ?_ (by size_fits))
 refine aC (m:=firstArgMember _ _) (wpAny_of_eq (a:=Value.none) (by first | rfl | (simp only [firstArgMember];rfl)) ?_)
 refine wpAny_newObj_type ?_ (by size_fits)
 simp only [raiseNew]
 refine aC (wpAny_handled ?_)
 refine rl (show A.in1.handled=none from hh) ?_
 refine aC (aK (wpAny_throw ?_))
 refine aC (wpAny_isInstance (T:="StopIteration") (b:=true) ⟨_,bQ _ rfl,rfl⟩ isSubtype_stop ?_)
 exact aK (hQ _ (((cL ..).extBut.push _).push _))
end
theorem oL.extP {P:Addr→Prop}{W:Wd}{h h':Heap}(hs:∀b o,¬P b→h.get? b=some o→h'.get? b=some o):oL P W W h h' where
 le:=.refl _
 keep:=fun b o e _ np=>hs b o np e
 alive:=fun b e np=>by
  cases q:h.get? b with
  |none=>exact absurd q e
  |some o=>refine rl (hs b o np q) ?_;exact cJ _
 nf:=fun _ m=>.inl m
 nz:=fun _ _ m=>.inl m
inductive KA (W:Wd) (H:Hp) (ks:List V) (a:Addr) (n:Nat):V→Prop
 |frz {e:Bool}{vs:List V}(es:Array DictEntry) (g:W.σ a=some (jH es n)) (r:dK W ks (es.toList.map (·.key))):KA W H ks a n (.dct e ks vs)
 |box {i:Nat}{vs:List V}(g:W.φ[i]? = some a) (e:H[i]? = some (.dct true ks vs)) (hn:n=ks.length):KA W H ks a n (.ref i)
theorem KA.at {B:Bs}{W:Wd}{H:Hp}{h:Heap}{ks:List V}{a:Addr}{n:Nat}{src:V}{P:Prop}(k:KA W H ks a n src) (S:SR B W H h) (f:∀es,h.get? a=some (jH es n)→dK W ks (es.toList.map (·.key))→P):P:=by
 cases k with
 |frz es g r=>exact f es (S.froz _ _ g) r
 |@box i vs g e hn=>
  have D:=S.objs i _ a e g
  obtain ⟨es,m,_,g',r,_⟩:=D
  have q:n=m:=hn.trans (g'.2 rfl).symm
  exact f es (by refine rl q ?_;exact g'.1) r
theorem KA.move {W W':Wd}{H H':Hp}{ks:List V}{a:Addr}{n:Nat}{src:V}(k:KA W H ks a n src) (le:W.le W') (hG:∀i,gP src=some i→H'[i]? = H[i]?):KA W' H' ks a n src:=by
 cases k with
 |frz es g r=>exact .frz es (le.fz _ _ g) (r.mono le)
 |@box i vs g e hn=>exact .box (le.bx.elim fun r hr=>by refine rr hr (rl (bH (aS.mp g).1) ?_);exact g) ((hG i rfl).trans e) hn
inductive IK where
 |list (src:V)
 |tuple (xs:List V)
 |range
 |str (x:Str) (t:Tok)
 |enum (src:V) (it:Addr)
 |dict (src:V) (ks:List V)
noncomputable def IK.G:IK→Option Nat
 |.list src=>gP src
 |.enum src _=>gP src
 |.dict src _=>gP src
 |_=>none
noncomputable def IK.own:IK→Bool
 |.enum _ _=>true
 |_=>false
noncomputable def IK.ads (I:Addr):IK→List Addr
 |.enum _ it=>[I,it]
 |_=>[I]
noncomputable def Bh (k m:Nat):List V:=(List.range' k m).map fun (j:Nat)=>V.int (j:Int)
noncomputable def mL (x:Str) (k:Nat):List V:=(x.cps.toList.drop k).map fun c=>V.str ⟨#[c]⟩
noncomputable def IK.St (W:Wd) (H:Hp) (h:Heap) (I:Addr) (rest:List V):IK→Prop
 |.list src=>∃k xs a,h.IsListIter I a k∧eC H src=some xs∧RV W src (.ref a)∧rest=xs.drop k
 |.tuple xs=>∃k a,h.IsTupleIter I a k∧RV W (.tup xs) (.ref a)∧rest=xs.drop k
 |.range=>∃k m:Nat,IsRangeIter h I (k:Int) (m:Int) 1∧rest=Bh k m
 |.str x t=>∃k,h.IsStrIter I (strIterType x) x t k∧rest=mL x k
 |.enum src it=>∃(k:Nat) (xs:List V) (a:Addr) (old:Value),IsEnum h I it k old∧h.IsListIter it a k∧I≠it∧eC H src=some xs∧RV W src (.ref a)∧rest=As k (xs.drop k)
 |.dict src ks=>∃k a n,h.IsKeyIter I a k ks.length n∧KA W H ks a n src∧rest=ks.drop k
inductive IV (W:Wd) (h:Heap) (tt:Bool):V→Value→Prop
 |val {x:V}{w:Value}(r:RV W x w):IV W h tt x w
 |tup {vs:List V}{a:Addr}{us:Array Value}{n:Nat}(t:tt=true) (g:h.get? a=some (iW "tuple" us n)) (r:dK W vs us.toList):IV W h tt (.tup vs) (.ref a)
section
variable {X:Cx}{A:Around}{W W':Wd}{H H':Hp}{h h':Heap}{s:Shared}{I:Addr}{rest xs:List V}{x:V}{K:IK}
theorem Gd {src:V}(e:eC H src=some xs) (hG:∀i,gP src=some i→H'[i]? = H[i]?):eC H' src=some xs:=by
 cases src <;> first | exact e | skip
 rename_i i
 show (H'[i]?).bind iZ=_
 refine rl (hG i rfl) ?_;exact e
theorem IP {X:Cx}{src:V}{a b:Addr}(e:eC H src=some xs) (r:RV W src (.ref a)) (f:iK X W b):a≠b:=by
 rintro rfl
 cases src <;> first | exact nS e;done | skip
 ·obtain ⟨a',us,n,e',g,_⟩:=r;cases e';rw [f.2.1] at g;exact nS g
 ·refine dF r fun a' e' g=>?_;cases e';exact f.2.2 (bT g)
theorem IK.move (st:K.St W H h I rest) (le:W.le W') (hG:∀i,K.G=some i→H'[i]? = H[i]?) (hk:∀b∈K.ads I,∀o,h.get? b=some o→h'.get? b=some o):K.St W' H' h' I rest:=by
 cases K with
 |list src=>
  refine Jq st fun k xs a z_1 e rv er=>?_;obtain ⟨o,ho,r⟩:=z_1
  exact (show ∃k xs a,_ from ⟨k,xs,a,⟨o,hk _ (.head _) o ho,r⟩,Gd e hG,rv.mono le,er⟩)
 |tuple xs=>
  refine iY st fun k a z_1 rv er=>?_;obtain ⟨o,ho,r⟩:=z_1
  exact (show ∃k a,_ from ⟨k,a,⟨o,hk _ (.head _) o ho,r⟩,rv.mono le,er⟩)
 |range=>
  refine qZ st fun k m hit er=>?_
  exact (show ∃k m:Nat,_ from ⟨k,m,hk _ (.head _) _ hit,er⟩)
 |str x t=>
  refine dF st fun k z_1 er=>?_;obtain ⟨o,ho,r⟩:=z_1
  exact (show ∃k,_ from ⟨k,⟨o,hk _ (.head _) o ho,r⟩,er⟩)
 |enum src it=>
  obtain ⟨k,xs,a,old,he,⟨o,ho,r⟩,ne,e,rv,er⟩:=st
  exact (show ∃(k:Nat) (xs:List V) (a:Addr) (old:Value),_ from ⟨k,xs,a,old,hk _ (.head _) _ he,⟨o,hk _ (.tail _ (.head _)) o ho,r⟩,ne,Gd e hG,rv.mono le,er⟩)
 |dict src ks=>
  refine Pv st fun k a n z_1 g er=>?_;obtain ⟨o,ho,r⟩:=z_1
  exact (show ∃k a n,_ from ⟨k,a,n,⟨o,hk _ (.head _) o ho,r⟩,g.move le hG,er⟩)
theorem pV {α:Type}{k:Nat}{xs rest:List α}{x:α}(er:x::rest=xs.drop k):xs[k]? = some x∧rest=xs.drop (k+1):=
 ⟨by refine rr (List.head?_drop) (rr er ?_);rfl,by refine rr List.tail_drop (rr er ?_);rfl⟩
theorem Qs {k:Nat}(er:x::rest=As k (xs.drop k)):∃y,xs[k]? = some y∧x=.tup [.int k,y]∧rest=As (k+1) (xs.drop (k+1)):=by
 cases q:xs.drop k with
 |nil=>rw [q] at er;cases er
 |cons y ys=>
  rw [q] at er
  obtain ⟨h1,h2⟩:=pV q.symm
  obtain ⟨rfl,rfl⟩:=List.cons.inj er
  exact ⟨y,h1,rfl,by exact rr h2 rfl⟩
noncomputable def rF (e:Expr):Bool:=e.ctorIdx == 25
theorem Kl {e:Expr}(h:rF e=true):∃es n p,e=.Tuple es n p:=Expr.Tuple.elim (motive_1:=fun e=>∃es n p,e=.Tuple es n p) e (eq_of_beq h) fun a b c=>⟨a,b,c,rfl⟩
theorem IK.item (S:SR X.B W H s.heap) (hf:∀b∈K.ads I,iK X W b) (st:K.St W H s.heap I (x::rest)) {target:Expr}(hT:K.own=true→rF target=true) {P:Shared→Prop}{Q:Value→Shared→Prop}
  (hQ:∀w h' tk,(∀b o,b∉K.ads I→s.heap.get? b=some o→h'.get? b=some o)→(∀b∈K.ads I,h'.get? b≠none)→K.St W H h' I rest→IV W h' (rF target) x w→Q w { s with heap:=h',toks:=tk }) :
  wpAny X.M A (pyNext (.ref I)) (fun r s₁=>match r with
   |none=>P s₁
   |some v=>wpAny X.M A (letOwnedTupleGo target (.ref I) v) (fun _ s'=>Q v s') fX s₁) fX s:=by
 have one:∀{w:Value}{h':Heap}{tk:Nat}{o:Obj}{c:String},K.ads I=[I]→Heap.SameBut I s.heap h'→h'.get? I=some o→o.cls=.type c→(["enumerate","zip","dict_itemiterator","dict_reverseitemiterator","odict_iterator","itertools.zip_longest","itertools.pairwise"]:List String).contains c=false→K.St W H h' I rest→RV W x w→
   wpAny X.M A (letOwnedTupleGo target (.ref I) w) (fun _ s'=>Q w s') fX { s with heap:=h',toks:=tk }:=fun {w h' tk o c} ha hs ho hc hn st r=>by
  refine xM (s:={ s with heap:=h',toks:=tk }) ho hc hn (hQ w h' tk (fun b o nb e=>(hs.2 b fun q=>nb (by refine rl ha (rl q ?_);exact .head _)).trans e) (fun b hb=>?_) st (.val r))
  rw [ha] at hb
  refine rl (aG.mp hb) (rl ho ?_)
  exact cJ _
 cases K with
 |list src=>
  refine Jq st fun k xs a hit e r er=>?_
  obtain ⟨a',e',us,n,g,q⟩:=fY S e r
  cases e'
  obtain ⟨hx,er'⟩:=pV er
  refine dF (q.get hx) fun w hw rw'=>?_
  rw [cF] at hw
  refine wpAny_pyNext_list_item hit ⟨_,g,rfl,n,rfl⟩ hw fun h' hit' hs=>?_
  refine fU (id hit') fun o ho hcl hd=>?_
  exact one (tk:=s.toks) rfl hs ho hcl rfl (show ∃k xs a,_ from ⟨k+1,xs,a,hit',e,r,er'⟩) rw'
 |tuple xs=>
  refine iY st fun k a hit r er=>?_
  have r':=r
  obtain ⟨a',us,n,e',g,q⟩:=r
  cases e'
  obtain ⟨hx,er'⟩:=pV er
  refine dF (q.get hx) fun w hw rw'=>?_
  rw [cF] at hw
  refine wpAny_pyNext_tuple_item hit ⟨_,S.froz _ _ g,rfl,n,rfl⟩ hw fun h' hit' hs=>?_
  refine fU (id hit') fun o ho hcl hd=>?_
  exact one (tk:=s.toks) rfl hs ho hcl rfl (show ∃k a,_ from ⟨k+1,a,hit',r',er'⟩) rw'
 |range=>
  refine qZ st fun k m hit er=>?_
  cases m with
  |zero=>cases er
  |succ m=>
   obtain ⟨rfl,rfl⟩:=List.cons.inj er
   refine wpAny_pyNext_range_item hit (by exact Z3 (Bc (aW (aX _) (aN _)))) fun h' hit' hs=>?_
   rw [show (((m+1:Nat):Int)-1)=(m:Int) by exact SL] at hit'
   exact one rfl hs hit' rfl rfl (show ∃k m:Nat,_ from ⟨k+1,m,hit',rfl⟩) RV.int
 |str y t=>
  refine dF st fun k hit er=>?_
  have hk:k<y.cps.size:=by
   rcases Nat.lt_or_ge k y.cps.size with h | h
   ·exact h
   ·rw [mL,List.drop_of_length_le (by simpa using h)] at er;cases er
  have hx:y.cps[k]? = some y.cps[k]:=Array.getElem?_eq_getElem hk
  have e2:mL y k=V.str ⟨#[y.cps[k]]⟩::mL y (k+1):=by
   unfold mL
   rw [List.drop_eq_getElem_cons (by simpa using hk),cQ,Array.getElem_toList]
  rw [e2,List.cons.injEq] at er
  obtain ⟨rfl,rfl⟩:=er
  have fin:∀h' tk,h'.IsStrIter I (strIterType y) y t (k+1)→Heap.SameBut I s.heap h'→wpAny X.M A (letOwnedTupleGo target (.ref I) (Value.str ⟨#[y.cps[k]]⟩ s.toks)) (fun _ s'=>Q (Value.str ⟨#[y.cps[k]]⟩ s.toks) s') fX { s with heap:=h',toks:=tk }:=by
   intro h' tk hit' hs
   refine fU (id hit') fun o ho hcl hd=>?_
   exact one rfl hs ho hcl (by unfold strIterType;split <;> rfl) (show ∃k,_ from ⟨k+1,hit',rfl⟩) RV.str
  cases ha:y.cps.all (· < 128)
  ·have et:strIterType y="str_iterator":=by unfold strIterType;refine rl ha ?_;rfl
   rw [et] at hit fin
   exact wpAny_pyNext_wide_item hit hx fun h' a b=>fin h' _ a b
  ·have et:strIterType y="str_ascii_iterator":=by unfold strIterType;refine rl ha ?_;rfl
   rw [et] at hit fin
   exact wpAny_pyNext_ascii_item hit hx fun h' a b=>fin h' _ a b
 |enum src it=>
  obtain ⟨k,xs,a,old,he,hit,ne,e,r,er⟩:=st
  refine MA (Kl (hT rfl)) fun es nn pp e_e=>?_;subst e_e
  refine fU (Qs er) fun y hy e_e er'=>?_;subst e_e
  obtain ⟨a',e',us,n,g,q⟩:=fY S e r
  cases e'
  refine dF (q.get hy) fun w hw rw'=>?_
  rw [cF] at hw
  have hai:a≠it:=IP e r (hf it (.tail _ (.head _)))
  refine wpAny_pyNext_enum_item he hit ⟨_,g,rfl,n,rfl⟩ hw ne fun h₁ heo hit₁ ht₁ hz₁ hk₁=>?_
  refine wpAny_letOwnedTupleGo_enum (s:={ s with heap:=h₁,toks:=s.toks+1 }) heo fun h₂ he₂ hs₂=>?_
  have hsz:∀b,s.heap.get? b≠none→s.heap.objs.size≠b:=fun b hb q=>hb (q ▸ eE _)
  refine dF (hit₁) fun oi hoi hci=>?_
  have hoi₂:h₂.get? it=some oi:=(hs₂.2 it (Ne.symm ne)).trans hoi
  refine hQ (.ref s.heap.objs.size) h₂ (s.toks+1) (fun b o nb eb=>?_) (fun b hb=>?_) (show ∃(k:Nat) (xs:List V) (a:Addr) (old:Value),_ from ⟨k+1,xs,a,w,he₂,⟨oi,hoi₂,hci⟩,ne,e,r,er'⟩) (.tup (us:=#[.int k s.toks,w]) (n:=0) rfl ((hs₂.2 _ (hsz I (by refine rl he ?_;exact cJ _))).trans ht₁) (.cons RV.int (.cons rw' .nil)))
  ·have h1:b≠I:=fun q=>nb (q ▸ .head _)
   exact (hs₂.2 b h1).trans (hk₁ b o h1 (fun q=>nb (q ▸ .tail _ (.head _))) eb)
  ·rcases aZ.mp hb with rfl | hb
   ·refine rl (he₂) ?_;exact cJ _
   ·refine rl (aG.mp hb) (rl (hoi₂) ?_);exact cJ _
 |dict src ks=>
  refine Pv st fun k a n hit ka er=>?_
  obtain ⟨hx,er'⟩:=pV er
  refine ka.at S fun es g r=>?_
  refine dF (r.get hx) fun w hw rw'=>?_
  rw [bG] at hw
  refine dQ hw fun e he ew=>?_
  rw [cF] at he
  refine xN (gD r) hit g he fun h' hit' hs=>?_
  refine fU (id hit') fun o ho hcl hd=>?_
  exact one (tk:=s.toks) rfl hs ho hcl rfl (show ∃k a n,_ from ⟨k+1,a,n,hit',ka,er'⟩) (ew ▸ rw')
theorem oQ {α:Type}{k:Nat}{xs:List α}(er:[]=xs.drop k) {n:Nat}(h:xs.length=n):n≤k:=h ▸ List.drop_eq_nil_iff.mp er.symm
theorem IK.done (hh:A.handled=none) (S:SR X.B W H s.heap) (hf:∀b∈K.ads I,iK X W b) (st:K.St W H s.heap I []) {Q:Option Value→Shared→Prop}(hQ:∀h',(∀b o,b∉K.ads I→s.heap.get? b=some o→h'.get? b=some o)→Q none { s with heap:=h' }):wpAny X.M A (pyNext (.ref I)) Q fX s:=by
 have one:K.ads I=[I]→∀h',Heap.ExtBut I s.heap h'→Q none { s with heap:=h' }:=fun ha h' hx=>hQ h' fun b o nb e=>hx b o (fun q=>nb (by refine rl ha (rl q ?_);exact .head _)) e
 cases K with
 |list src=>
  refine Jq st fun k xs a hit e r er=>?_
  obtain ⟨a',e',us,n,g,q⟩:=fY S e r
  cases e'
  exact wpAny_pyNext_list_end hh hit ⟨_,g,rfl,n,rfl⟩ (Array.getElem?_eq_none (oQ er q.size)) (one rfl)
 |tuple xs=>
  refine iY st fun k a hit r er=>?_
  obtain ⟨a',us,n,e',g,q⟩:=r
  cases e'
  exact wpAny_pyNext_tuple_end hh hit ⟨_,S.froz _ _ g,rfl,n,rfl⟩ (Array.getElem?_eq_none (oQ er q.size)) (one rfl)
 |range=>
  refine qZ st fun k m hit er=>?_
  cases m with
  |succ m=>cases er
  |zero=>exact wpAny_pyNext_range_end hh hit (by exact (by decide)) (one rfl)
 |str y t=>
  refine dF st fun k hit er=>?_
  have hx:y.cps[k]? = none:=Array.getElem?_eq_none (oQ (List.map_eq_nil_iff.mp er.symm).symm (cB ..))
  cases ha:y.cps.all (· < 128)
  ·have et:strIterType y="str_iterator":=by unfold strIterType;refine rl ha ?_;rfl
   rw [et] at hit
   exact wpAny_pyNext_wide_end hh hit hx (one rfl)
  ·have et:strIterType y="str_ascii_iterator":=by unfold strIterType;refine rl ha ?_;rfl
   rw [et] at hit
   exact wpAny_pyNext_ascii_end hh hit hx (one rfl)
 |enum src it=>
  obtain ⟨k,xs,a,old,he,hit,ne,e,r,er⟩:=st
  obtain ⟨a',e',us,n,g,q⟩:=fY S e r
  cases e'
  have er:[]=xs.drop k:=by
   cases p:xs.drop k with
   |nil=>rfl
   |cons y ys=>rw [p] at er;cases er
  exact wpAny_pyNext_enum_end hh he hit ⟨_,g,rfl,n,rfl⟩ (Array.getElem?_eq_none (oQ er q.size)) fun h' hx=>hQ h' fun b o nb e=>hx b o (fun q=>nb (q ▸ .tail _ (.head _))) e
 |dict src ks=>
  refine Pv st fun k a n hit ka er=>?_
  exact ka.at S fun es g r=>Af hh (gD r) hit g (Array.getElem?_eq_none (oQ er (by exact rl r.length (rl (aA ..) (rl cB rfl))))) (one rfl)
theorem IK.self (st:K.St W H s.heap I rest) {Q:Value→Shared→Prop}(hQ:Q (.ref I) s):wpAny X.M A (pyIter (.ref I)) Q fX s:=by
 cases K with
 |list src=>refine AP st fun k xs a hit _=>?_;exact wpAny_pyIter_listiter hit hQ
 |tuple xs=>refine qZ st fun k a hit _=>?_;exact wpAny_pyIter_tupleiter hit hQ
 |range=>refine qZ st fun k m hit _=>?_;exact wpAny_pyIter_rangeiter hit hQ
 |enum src it=>refine Jr st fun k xs a old he _=>?_;exact wpAny_pyIter_enum he hQ
 |dict src ks=>refine AP st fun k a n hit _=>?_;exact wpAny_pyIter_keyiter hit hQ
 |str y t=>
  refine dF st fun k hit _=>?_
  cases ha:y.cps.all (· < 128)
  ·have et:strIterType y="str_iterator":=by unfold strIterType;refine rl ha ?_;rfl
   rw [et] at hit
   exact wpAny_pyIter_striter_wide hit hQ
  ·have et:strIterType y="str_ascii_iterator":=by unfold strIterType;refine rl ha ?_;rfl
   rw [et] at hit
   exact wpAny_pyIter_striter_ascii hit hQ
end
end
section
structure Qt (X:Cx) (σ τ:St) (K:IK) (I:Addr) (xs:List V) (G:Option Nat) (md:Md):Prop where
 st:K.St τ.W τ.H τ.s.heap I xs
 free:∀b∈K.ads I,iK X τ.W b
 alive:∀b∈K.ads I,τ.s.heap.get? b≠none
 new:∀b∈K.ads I,σ.s.heap.get? b=none
 g:∀i,K.G=some i→G=some i
 own:K.own=true→md.own=true
theorem Qt.up {X:Cx}{σ τ υ:St}{K:IK}{I:Addr}{xs:List V}{G:Option Nat}{md:Md}(i:Qt X τ υ K I xs G md) (l:Le σ τ):Qt X σ υ K I xs G md:=⟨i.st,i.free,i.alive,fun b hb=>bK fun q=>l.t.alive _ q (i.new b hb),i.g,i.own⟩
structure lD (Θ:Th) (e:Expr) (md:Md) (ce:E):Prop where
 run:∀(Γ:Gm Θ) (σ:St) (R:Type) (L:List V→Option Nat→Hp→Option R) (r:R) (Q:Value→Shared→Prop),dI Θ.c ce Γ.ρ σ.H (fun v H=>(nK md H v).bind fun xs=>L xs (gP v) H)=some r→Ok Γ σ→
  (∀K I xs G τ,Le σ τ→Ok Γ τ→Qt Θ.X σ τ K I xs G md→L xs G τ.H=some r→Q (.ref I) τ.s)→wpAny Θ.X.M Γ.A (eval e Γ.env) (fun x s₁=>wpAny Θ.X.M Γ.A (pyIter x) Q fX s₁) fX σ.s
 fold:∀env x,foldedSetIterable e env x=pure x
section
variable {Θ:Th}{Γ:Gm Θ}{σ:St}{e:Expr}{ce:E}{G:Glob}{f:Str}{p pos:Pos}{v:V}{w:Value}{xs:List V}
theorem Vt (ok:Ok Γ σ) {K:IK}{md:Md}{ob:Obj}{m:Nat}(ha:K.ads σ.s.heap.objs.size=[σ.s.heap.objs.size]) (ho:K.own=false) (hf:ob.isFreed=false) (st:K.St σ.W σ.H (σ.s.heap.push ob) σ.s.heap.objs.size xs) {g:Option Nat}(hg:∀i,K.G=some i→g=some i):Le σ (σ.hp (σ.s.heap.push ob) m)∧Ok Γ (σ.hp (σ.s.heap.push ob) m)∧Qt Θ.X σ (σ.hp (σ.s.heap.push ob) m) K σ.s.heap.objs.size xs g md:=by
 have hk:∀b o,σ.s.heap.get? b=some o→(σ.s.heap.push ob).get? b=some o:=fun b o e=>bB _ e
 have one:∀{b:Addr},b∈K.ads σ.s.heap.objs.size→b=σ.s.heap.objs.size:=fun hb=>by rw [ha] at hb;exact aG.mp hb
 exact ⟨.grow hk,ok.grow hk,st,fun b hb=>by refine rl (one hb) ?_;exact iK.of_none ok.S (eE _),fun b hb=>by refine rl (one hb) ?_;show (σ.s.heap.push ob).get? _≠none;refine rl (bQ _ hf) ?_;exact cJ _,fun b hb=>by refine rl (one hb) ?_;exact eE _,hg,fun q=>by rw [ho] at q;exact fT q⟩
theorem Dq (ok:Ok Γ σ) (e:Tx σ.H v=some xs) (r:RV σ.W v w) {Q:Value→Shared→Prop}(hQ:∀K I τ,Le σ τ→Ok Γ τ→τ.H=σ.H→Qt Θ.X σ τ K I xs (gP v) .plain→Q (.ref I) τ.s):wpAny Θ.X.M Γ.A (pyIter w) Q fX σ.s:=by
 have fin:∀{K:IK}{ob:Obj},K.ads σ.s.heap.objs.size=[σ.s.heap.objs.size]→K.own=false→ob.isFreed=false→K.St σ.W σ.H (σ.s.heap.push ob) σ.s.heap.objs.size xs→(∀i,K.G=some i→gP v=some i)→Q (.ref σ.s.heap.objs.size) { σ.s with heap:=σ.s.heap.push ob }:=fun {K ob} ha ho hf st hg=>by
  obtain ⟨l,o,i⟩:=Vt (m:=σ.s.toks) ok ha ho hf st hg
  exact hQ K _ _ l o rfl i
 have lst:eC σ.H v=some xs→wpAny Θ.X.M Γ.A (pyIter w) Q fX σ.s:=fun e=>by
  obtain ⟨a,rfl,us,n,g,q⟩:=fY ok.S e r
  exact wpAny_pyIter_list ⟨_,g,rfl,n,rfl⟩ (fin (K:=.list v) rfl rfl rfl (show ∃k xs a,_ from ⟨0,xs,a,⟨_,bQ _ rfl,rfl,rfl⟩,e,r,rfl⟩) fun i h=>h)
 cases v <;> first | exact lst e | skip
 ·rename_i x
  obtain rfl:=aB e
  obtain ⟨t,rfl⟩:=r
  exact wpAny_pyIter_strU (fin (K:=.str x t) rfl rfl rfl (show ∃k,_ from ⟨0,⟨_,bQ _ rfl,rfl,rfl⟩,rfl⟩) fun i h=>h)
 ·rename_i ys
  cases e
  have r':=r
  obtain ⟨a,us,n,rfl,g,q⟩:=r
  exact wpAny_pyIter_tuple ⟨_,ok.S.froz _ _ g,rfl,n,rfl⟩ (fin (K:=.tuple xs) rfl rfl rfl (show ∃k a,_ from ⟨0,a,⟨_,bQ _ rfl,rfl,rfl⟩,r',rfl⟩) fun i h=>h)
 ·rename_i e' ks vs
  cases e
  have r':=r
  obtain ⟨a,rfl,es,n,m,g,r1,_⟩:=r
  exact Bg (ok.S.froz _ _ g) m (fin (K:=.dict (.dct e' xs vs) xs) rfl rfl rfl (show ∃k a n,_ from ⟨0,a,n,⟨_,bQ _ rfl,rfl,by refine rl (gD r1) ?_;rfl⟩,.frz es g r1,rfl⟩) fun i h=>h)
 ·rename_i i
  refine cV e fun o ho e=>?_
  cases hb:Db o with
  |false=>rw [hb] at e;exact lst (show (σ.H[i]?).bind iZ=some xs by refine rl ho ?_;exact e)
  |true=>
   rw [hb] at e
   refine cV e fun q hq e=>?_
   obtain rfl:=aB e
   have eo:σ.H[i]? = some (.dct true q.1 q.2):=ho.trans (aQ some ((Dp hq).trans (by exact rl hb rfl)))
   refine dF r fun a e_e g=>?_;subst e_e
   have D:=ok.S.objs i _ a eo g
   obtain ⟨es,n,m,g',r1,_⟩:=D
   have hn:n=q.1.length:=g'.2 rfl
   exact Bg g'.1 m (fin (K:=.dict (.ref i) q.1) rfl rfl rfl (show ∃k a n,_ from ⟨0,a,n,⟨_,bQ _ rfl,rfl,by refine rl (gD r1) ?_;rfl⟩,.box g eo hn,rfl⟩) fun i h=>h)
theorem Vu (h:fK Θ e ce):lD Θ e .plain ce:=
 ⟨fun Γ σ R L r Q ev ok hQ=>h.val Γ σ R _ r _ ev ok fun v w τ l o rv ev=>cV ev fun xs hx ev=>Dq o hx rv fun K I υ l2 o2 hH i=>hQ K I xs (gP v) υ (l.trans l2) o2 (i.up l) (hH ▸ ev),h.plain.fold⟩
theorem Km (hv:Θ.X.gv f=some (.type "enumerate")) (hg:eW Θ.sc f=true) (h:fK Θ e ce):lD Θ (.Call (.Name f p) [e] [] pos) .enum ce:=
 ⟨fun Γ σ R L r Q ev ok hQ=>nP hv (.inr ⟨_,rfl⟩) hg (.cons h .nil) (K:=fun vs H=>(nJ vs).bind fun v=>(nK .enum H v).bind fun xs=>L xs (gP v) H) ev ok fun vs ws τ l o rs ev=>cV ev fun x hx ev=>cV ev fun ys hr ev=>cV hr fun xs hn hr=>cZ hr fun hs hr=>by
  refine dF (iH hx rs) fun u e_e ru=>?_;subst e_e
  obtain rfl:=aB hr
  obtain ⟨a,rfl,us,n,g,q⟩:=fY o.S hn ru
  refine call_enumerate_list ⟨_,g,rfl,n,rfl⟩ fun h' he hit _ hk=>?_
  have l2:Le τ (τ.hp h' τ.s.toks):=.grow hk
  refine wpAny_pyIter_enum (s:={ τ.s with heap:=h' }) he ?_
  have n0:=eE τ.s.heap
  have n1:τ.s.heap.get? (τ.s.heap.objs.size+1)=none:=by
   cases q:τ.s.heap.get? (τ.s.heap.objs.size+1) with
   |none=>rfl
   |some o=>exact absurd (Heap.lt_size q) (Nat.not_lt.mpr (Nat.le_succ _))
  have new:∀b∈IK.ads (τ.s.heap.objs.size+1) (.enum x τ.s.heap.objs.size),τ.s.heap.get? b=none:=fun b hb=>by
   rcases aZ.mp hb with rfl | hb
   ·exact n1
   ·refine rl (aG.mp hb) ?_;exact n0
  refine hQ (.enum x τ.s.heap.objs.size) (τ.s.heap.objs.size+1) _ (gP x) (τ.hp h' τ.s.toks) (l.trans l2) (o.grow hk) ⟨(show ∃(k:Nat) (xs:List V) (a:Addr) (old:Value),_ from ⟨0,xs,a,.none,he,hit,Nat.succ_ne_self _,hn,ru,rfl⟩),fun b hb=>iK.of_none o.S (new b hb),fun b hb=>?_,fun b hb=>bK fun q=>l.t.alive _ q (new b hb),fun i h=>h,fun _=>rfl⟩ ev
  rcases aZ.mp hb with rfl | hb
  ·refine rl he ?_;exact cJ _
  ·refine rl (aG.mp hb) ?_;refine dF hit fun o' ho _=>?_;refine rl ho ?_;exact cJ _,fun _ _=>rfl⟩
theorem xO (n:Int):Builtin.Range.rangeSize 0 n 1=(n.toNat:Int):=by
 unfold Builtin.Range.rangeSize
 refine rl (if_pos (by decide)) ?_
 split
 ·next h=>exact rl (Int.sub_zero ..) (rl (Int.ediv_one ..) (rl (Int.sub_add_cancel ..) (rl (bP (Int.le_of_lt h)) rfl)))
 ·next h=>refine rl (Int.toNat_eq_zero.mpr (Int.not_lt.mp h)) ?_;rfl
theorem mM {i:Int}(h1:-1000000<i) (h2:i<1000001):Builtin.Range.rangeFitsLong i=true:=by
 unfold Builtin.Range.rangeFitsLong
 refine rl (bU ..) (rl bZ (rl bZ ?_))
 constructor <;> omega
theorem Ge {n:Int}(h1:-1000000<n) (h2:n<1000000):Builtin.Range.small 0 n 1=true:=by
 unfold Builtin.Range.small
 rw [xO,mM (i:=0) (by decide) (by decide),mM h1 (Int.lt_trans h2 (by decide)),mM (i:=1) (by decide) (by decide),mM (i:=n.toNat) (by exact Z3 (Bc (A6 (Z6 h1)))) (by exact Z1 (Bc (A6 (Z5 h2)))),if_pos (by decide),mM (i:=n+(1-1)) (by exact Z3 (bX (Z6 h1) (cN _))) (by exact Z1 (bX (Z5 h2) (cN _))),Bool.or_true]
 rfl
theorem Gf (hv:Θ.X.gv f=some (.type "range")) (hg:eW Θ.sc f=true) (h:fK Θ e ce):lD Θ (.Call (.Name f p) [e] [] pos) .rng ce:=
 ⟨fun Γ σ R L r Q ev ok hQ=>nP hv (.inr ⟨_,rfl⟩) hg (.cons h .nil) (K:=fun vs H=>(nJ vs).bind fun v=>(nK .rng H v).bind fun xs=>L xs (gP v) H) ev ok fun vs ws τ l o rs ev=>cV ev fun x hx ev=>cV ev fun xs hr ev=>cV hr fun n hn hr=>dU hr fun hlt hr=>by
  refine dF (iH hx rs) fun u e_e ru=>?_;subst e_e
  refine wT (int_at hn ru) fun t e_e=>?_;subst e_e
  obtain rfl:=aB hr
  have hG:gP x=none:=by cases x <;> first | rfl | exact nS hn
  refine call_range_1 (wpAny_pyIter_range (a:=0) (b:=n) (c:=1) (bQ _ rfl) (Ge hlt.1 hlt.2) ?_)
  have hk:∀b ob,τ.s.heap.get? b=some ob→(τ.s.heap.push { cls:=.type "range",data:=.fields #[.int 0 τ.s.toks,.int n t,.int 1 (τ.s.toks+1)] }).get? b=some ob:=fun b ob e=>bB _ e
  have l2:Le τ (τ.hp _ (τ.s.toks+1+1)):=.grow hk
  obtain ⟨l3,o3,i⟩:=Vt (K:=.range) (md:=.rng) (xs:=jK n) (g:=gP x) (m:=τ.s.toks+1+1) (ob:={ cls:=.type "range_iterator",data:=.fields #[rawInt 0,rawInt (Builtin.Range.rangeSize 0 n 1),rawInt 1] }) (o.grow hk (n:=τ.s.toks+1+1)) rfl rfl rfl
   (show ∃k m:Nat,_ from ⟨0,n.toNat,by refine rl (xO ..) ?_;exact bQ _ rfl,by rw [jK,Bh,List.range_eq_range']⟩) fun i h=>(by exact nS h)
  exact hQ .range _ _ _ _ ((l.trans l2).trans l3) o3 (i.up (l.trans l2)) ev,fun _ _=>rfl⟩
end
theorem oR {ns:List Str}{x:Str}{i:Nat}(h:iB ns x=some i):ns[i]? = some x:=by
 unfold iB at h
 rw [List.findIdx?_eq_some_iff_getElem] at h
 refine dF h fun hi h1 _=>?_
 refine rl (aP hi) ?_
 exact aQ some (eq_of_beq h1)
theorem Kn {ns:List Str}{x y:Str}{i:Nat}(h:iB ns x=some i) (h':iB ns y=some i):x=y:=by
 have a:=oR h;have b:=oR h';rw [a] at b;exact aB b
theorem Qu {h:Heap}{a:Addr}{m m':Str→Option Value}(x:h.Ns a m) (y:h.Ns a m'):m=m':=by
 refine Jq x fun o es ep e d _ r=>?_
 refine Jq y fun o' es' ep' e' d' _ r'=>?_
 rw [e] at e';obtain rfl:=aB e'
 rw [d] at d';cases d'
 funext z;exact rr (r ..) (rr (r' ..) rfl)
theorem lO {h:Heap}{a b:Addr}{m:Str→Option Value}{v:Option Value}(x:h.Ns a m) (y:h.IsCell b v):b≠a:=by
 rintro rfl
 refine Pv x fun o es ep e d _=>?_
 refine dF y fun o' e' d'=>?_
 rw [e] at e';obtain rfl:=aB e'
 rw [d] at d';exact PySem.Data.noConfusion d'
noncomputable def qL (sc:Scope) (env:Env) (b:Addr):Prop:=b=env.locals∨∃x,sc.names.lookup x=some .cell∧env.cells.lookup x=some b
theorem qL.own {sc:Scope}{env:Env}{b:Addr}(h:qL sc env b):Qc env b:=h.elim .inl fun ⟨x,_,e⟩=>.inr ⟨x,e⟩
structure vX (P:Addr→Prop) (σ τ:St):Prop where
 t:oL P σ.W τ.W σ.s.heap τ.s.heap
 q:vI σ.s τ.s
theorem Le.toP {P:Addr→Prop}{σ τ:St}(l:Le σ τ):vX P σ τ:=⟨l.t.toP,l.q⟩
theorem vX.trans {P:Addr→Prop}{a b c:St}(x:vX P a b) (y:vX P b c):vX P a c:=⟨x.t.trans y.t,x.q.trans y.q⟩
theorem vX.refl {P:Addr→Prop}(a:St):vX P a a:=⟨.refl,.refl _⟩
theorem vX.mono {P P':Addr→Prop}{a b:St}(x:vX P a b) (h:∀b,P b→P' b):vX P' a b:=⟨x.t.mono h,x.q⟩
noncomputable abbrev Gm.at {Θ:Th}(Γ:Gm Θ) (ρ:Loc):Gm Θ:=⟨Γ.env,ρ,Γ.A⟩
section
variable {Θ:Th}{Γ:Gm Θ}{σ:St}{v:V}{w:Value}{ρ':Loc}{Q:Unit→Shared→Prop}
theorem Vv (ok:Ok Γ σ) {b:Addr}(o:Qc Γ.env b):iK Θ.X σ.W b:=⟨ok.E.base b o,ok.f.apart b o,ok.f.out b o⟩
theorem mN (ok:Ok Γ σ) {x:Str}{i:Nat}(hx:sB Θ.sc x=true) (hi:iB Θ.ns x=some i) (r:RV σ.W v w) (hlt:i<Γ.ρ.length)
  (hQ:∀s',vX (qL Θ.sc Γ.env) σ ⟨σ.W,s',σ.H⟩→Ok (Γ.at (Γ.ρ.set i (some v))) ⟨σ.W,s',σ.H⟩→Q () s'):wpAny Θ.X.M Γ.A (storeName Γ.env x w) Q fX σ.s:=by
 have key:∀(a:Addr) (h':Heap) (tk:Nat),qL Θ.sc Γ.env a→Heap.SameBut a σ.s.heap h'→h'.get? a≠none→(∃m,h'.Ns Γ.env.locals m)→(∀y c,Γ.env.cells.lookup y=some c→∃v,h'.IsCell c v)→
   (∀y u,y≠x→Bd Γ.env σ.s.heap y u→Bd Γ.env h' y u)→Bd Γ.env h' x w→Q () { σ.s with heap:=h',toks:=tk }:=by
  intro a h' tk oa hs ha h1 h2 h3 h4
  refine hQ _ ⟨oL.ext oa hs.extBut,⟨rfl,rfl,rfl⟩⟩ ⟨ok.E,⟨?_,ok.f.out,?_,h1,h2,ok.f.apart⟩,ok.A,ok.S.free (P:=fun b=>b=a) (fun b p=>p ▸ Vv ok oa.own) fun b o nb e=>(hs.2 b nb).trans e⟩
  ·intro y j u hy hj hu
   by_cases hij:j=i
   ·subst hij
    have hu:(Γ.ρ.set j (some v))[j]? = some (some u):=hu
    rw [List.getElem?_set_self hlt] at hu
    cases hu
    cases Kn hj hi
    exact ⟨w,r,h4⟩
   ·have hu:(Γ.ρ.set i (some v))[j]? = some (some u):=hu
    rw [List.getElem?_set_ne (Ne.symm hij)] at hu
    refine dF (ok.f.vars y j u hy hj hu) fun w' r' b'=>?_
    exact ⟨w',r',h3 y w' (fun e=>hij (by subst e;rw [hj] at hi;exact aB hi)) b'⟩
  ·intro b ob
   by_cases hb:b=a
   ·subst hb;exact ha
   ·show h'.get? b≠none
    refine rl (hs.2 b hb) ?_;exact ok.f.alive b ob
 obtain ⟨m,hn⟩:=ok.f.nsp
 rcases (lC hx).1 with hk | hk
 ·have hloc:=ok.E.loc x hk
  refine wpAny_storeName_local hloc hn (fun h' hn' hs'=>?_) (by refine rl ok.E.kind ?_;rfl)
  refine key Γ.env.locals h' _ (.inl rfl) hs' ?_ ⟨_,hn'⟩ (fun y c hc=>?_) (fun y u hy b=>?_) (.inl ⟨hloc,_,hn',if_pos rfl⟩)
  ·refine AP hn' fun o _ _ e _=>?_;refine rl e ?_;exact cJ _
  ·obtain ⟨u,hu⟩:=ok.f.cell y c hc
   exact ⟨u,hu.sameBut hs' (lO hn hu)⟩
  ·rcases b with ⟨ky,m',hm',e'⟩ | ⟨ky,c,hc,hu⟩
   ·exact .inl ⟨ky,_,hn',(if_neg hy).trans (Qu hm' hn ▸ e')⟩
   ·exact .inr ⟨ky,c,hc,hu.sameBut hs' (lO hn hu)⟩
 ·have hcel:=ok.E.cel x hk
  obtain ⟨c,hc⟩:=ok.E.cells x (.inl hk)
  obtain ⟨v₀,hv₀⟩:=ok.f.cell x c hc
  refine wpAny_storeName_cell ok.E.kind hcel hc hv₀ fun h' hv' hs'=>?_
  refine key c h' _ (.inr ⟨x,hk,hc⟩) hs' ?_ ⟨_,hn.sameBut hs' (Ne.symm (lO hn hv₀))⟩ (fun y c' hc'=>?_) (fun y u hy b=>?_) (.inr ⟨.inl hcel,c,hc,hv'⟩)
  ·refine dF hv' fun o e _=>?_;refine rl e ?_;exact cJ _
  ·by_cases hcc:c'=c
   ·subst hcc;exact ⟨_,hv'⟩
   ·obtain ⟨u,hu⟩:=ok.f.cell y c' hc'
    exact ⟨u,hu.sameBut hs' hcc⟩
  ·rcases b with ⟨ky,m',hm',e'⟩ | ⟨ky,c',hc',hu⟩
   ·exact .inl ⟨ky,m',hm'.sameBut hs' (Ne.symm (lO hm' hv₀)),e'⟩
   ·exact .inr ⟨ky,c',hc',hu.sameBut hs' fun e=>hy (ok.E.inj y x c' hc' (e ▸ hc))⟩
theorem nQ {ns:List Str}{sc:Scope}{e:Expr}{i:Nat}(h:Tm ns sc e=some i):∃x p,e=.Name x p∧sB sc x=true∧iB ns x=some i:=
 cV h fun x hx h1=>cZ h1 fun ht h2=>by
  obtain ⟨p,rfl⟩:=Qm hx
  exact ⟨x,p,rfl,ht,h2⟩
theorem sK:∀{es:List Expr}{is:List Nat}{vs:List V}{ws:List Value}{Γ:Gm Θ}{ρ':Loc}{s:Shared},fF (Tm Θ.ns Θ.sc) es=some is→kW is vs Γ.ρ=some ρ'→dK σ.W vs ws→Ok Γ ⟨σ.W,s,σ.H⟩→
  (∀s',vX (qL Θ.sc Γ.env) ⟨σ.W,s,σ.H⟩ ⟨σ.W,s',σ.H⟩→Ok (Γ.at ρ') ⟨σ.W,s',σ.H⟩→Q () s')→wpAny Θ.X.M Γ.A (assignInOrder ((assignEach es Γ.env).map (·.2)) ws) Q fX s
 |[],is,vs,ws,Γ,ρ',s,h1,h2,r,ok,hQ=>by
  obtain rfl:=aB h1
  cases vs with
  |cons _ _=>exact nS h2
  |nil=>obtain rfl:=aB h2;cases (show _=_ from r);exact aK (hQ s (.refl _) ok)
 |e::es,is,vs,ws,Γ,ρ',s,h1,h2,r,ok,hQ=>cV h1 fun i hi h1=>dQ h1 fun is' his h1=>by
  subst h1
  refine iY (nQ hi) fun x px e_e hx hs=>?_;subst e_e
  cases vs with
  |nil=>exact nS h2
  |cons v vs=>
   refine dU h2 fun hlt h2=>?_
   refine iY r fun w ws e_e=>?_;clear r;subst e_e;intro r1 r2
   show wpAny Θ.X.M Γ.A (do holding ws (assign (.Name x px) Γ.env w);assignInOrder ((assignEach es Γ.env).map (·.2)) ws) _ _ s
   exact aC (bS (wpAny_assign_Name (mN (σ:=⟨σ.W,s,σ.H⟩) ok hx hs r1 hlt fun s' l o=>sK (Γ:=Γ.at (Γ.ρ.set i (some v))) his h2 r2 o fun s'' l2 o2=>hQ s'' (l.trans l2) o2)))
theorem mO {ns:List Str}{sc:Scope}(env:Env):∀{es:List Expr}{is:List Nat},fF (Tm ns sc) es=some is→(assignEach es env).length=is.length∧(assignEach es env).findIdx? (·.1)=none
 |[],_,h=>by obtain rfl:=aB h;exact ⟨rfl,rfl⟩
 |e::es,_,h=>cV h fun i hi h=>dQ h fun is' his h=>by
  subst h
  refine qZ (nQ hi) fun x px e_e _=>?_;subst e_e
  obtain ⟨h1,h2⟩:=mO env his
  refine ⟨aQ (· + 1) h1,?_⟩
  show List.findIdx? _ ((false,_)::assignEach es env)=none
  refine rl (List.findIdx?_cons) (rl h2 ?_)
  rfl
theorem mP:∀{is:List Nat}{vs:List V}{ρ ρ':Loc},kW is vs ρ=some ρ'→is.length=vs.length
 |[],vs,_,_,h=>by cases vs with | nil=>rfl | cons _ _=>exact nS h
 |i::is,vs,ρ,ρ',h=>by
  cases vs with
  |nil=>exact nS h
  |cons v vs=>exact cZ h fun _ h=>aQ (· + 1) (mP h)
theorem Gg {e:Expr}{es:List Expr}(h:Qa e=some es):∃k p,e=.Tuple es k p:=dQ h fun q _ hx=>⟨q.1.2.1,q.1.2.2,hx ▸ q.2⟩
theorem IQ {W:Wd}{vs:List V}(e:hZ v=some vs) (r:RV W v w):Ax W "tuple" w (dK W vs):=by
 cases v <;> first | exact nS e;done | skip
 cases e;exact r
theorem rG (ok:Ok Γ σ) {target:Expr}{t:T}(ht:Fl Θ.ns Θ.sc target=some t) (hb:qR t v Γ.ρ=some ρ') (r:IV σ.W σ.s.heap (rF target) v w) (hQ:∀s',vX (qL Θ.sc Γ.env) σ ⟨σ.W,s',σ.H⟩→Ok (Γ.at ρ') ⟨σ.W,s',σ.H⟩→Q () s') :
  wpAny Θ.X.M Γ.A (assign target Γ.env w) Q fX σ.s:=by
 unfold Fl at ht
 cases hu:Qa target with
 |none=>
  rw [hu] at ht
  refine dQ ht fun i hi ht=>?_
  subst ht
  refine iY (nQ hi) fun x px e_e hx hs=>?_;subst e_e
  cases r with
  |tup t g q=>exact fT t
  |val r=>exact dU hb fun hlt hb=>by obtain rfl:=aB hb;exact wpAny_assign_Name (mN ok hx hs r hlt hQ)
 |some es=>
  rw [hu] at ht
  refine wU (Gg hu) fun kk tp e_e=>?_;subst e_e
  refine dQ ht fun is his ht=>?_
  subst ht
  refine cV hb fun vs hvs hb=>?_
  obtain ⟨a,us,n,rfl,g,q⟩:∃a us n,w=.ref a∧σ.s.heap.get? a=some (iW "tuple" us n)∧dK σ.W vs us.toList:=by
   cases r with
   |val r=>obtain ⟨a,us,n,e,g,q⟩:=IQ hvs r;exact ⟨a,us,n,e,ok.S.froz _ _ g,q⟩
   |tup t g q=>cases hvs;exact ⟨_,_,_,rfl,g,q⟩
  obtain ⟨h1,h2⟩:=mO Γ.env his
  have hl:=mP hb
  have hl2:=q.size
  refine wpAny_assign_Tuple ok.A.handled ⟨_,g,rfl,n,rfl⟩ (by exact Eq.trans h1 (Eq.trans hl hl2)) h2 fun h' hx=>?_
  have hk:∀b o,σ.s.heap.get? b=some o→h'.get? b=some o:=fun b o e=>hx b o (Nat.ne_of_lt (Heap.lt_size e)) e
  have l:Le σ (σ.hp h' σ.s.toks):=.grow hk
  exact sK (σ:=σ) (Γ:=Γ) his hb q (ok.grow (n:=σ.s.toks) hk) fun s' l2 o2=>hQ s' (l.toP.trans l2) o2
end
end
section
theorem eK {β:Type}{l:List (Str×β)}{x:Str}{b:β}(h:l.lookup x=some b):(x,b)∈l:=by
 induction l with
 |nil=>simp at h
 |cons p l ih=>
  obtain ⟨n,k⟩:=p
  rw [List.lookup_cons] at h
  split at h
  ·rename_i e;cases h;refine rl (eq_of_beq e) ?_;exact aH
  ·exact aT _ (ih h)
structure rH (ns:List Str) (sc csc:Scope) (t:Expr):Prop where
 kind:csc.kind=.function
 dot:iB ns (".0":Str)=none
 nocell:∀y∈csc.names,y.2≠.cell
 loc:∀y∈csc.names,y.2=.local→csc.names.lookup y.1=some .local∧(y.1=(".0":Str)∨y.1∈sC t)
 fre:∀y∈csc.names,y.2=.free→csc.names.lookup y.1=some .free∧(sc.names.lookup y.1=some .cell∨sc.names.lookup y.1=some .free)∧fS y.1=true
theorem Qv {ns:List Str}{sc csc:Scope}{t:Expr}(h:Jx ns sc csc t=true):rH ns sc csc t:=by
 unfold Jx at h
 rw [bU,bU,beq_iff_eq,Option.isNone_iff_eq_none,bR] at h
 have key:∀y∈csc.names,y.2≠.cell∧(y.2=.local→csc.names.lookup y.1=some .local∧(y.1=(".0":Str)∨y.1∈sC t))∧(y.2=.free→csc.names.lookup y.1=some .free∧(sc.names.lookup y.1=some .cell∨sc.names.lookup y.1=some .free)∧fS y.1=true):=by
  intro y hy
  have h:=h.2 y hy
  simp only [bU,Bool.or_eq_true,Bool.not_eq_true',beq_iff_eq,bY,List.contains_eq_mem,bZ] at h
  exact ⟨h.1.1,fun e=>h.1.2.resolve_left (fun q=>q e),fun e=>and_assoc.mp (h.2.resolve_left (fun q=>q e))⟩
 exact ⟨h.1.1,h.1.2,fun y hy=>(key y hy).1,fun y hy=>(key y hy).2.1,fun y hy=>(key y hy).2.2⟩
theorem rI {env:Env}:∀(names:List (Str×NameKind)) (cs:List (Str×Addr)),(∀y∈names,y.2=.free→∃c,env.cells.lookup y.1=some c)→(∀x c,cs.lookup x=some c→env.cells.lookup x=some c)→
  ∃cl,(forIn names cs fun (p:Str×NameKind) (r:List (Str×Addr))=>(match p with
   |(name,kind)=>if (kind == NameKind.free)=true then do let a ←cellOf env name;pure (ForInStep.yield ((name,a)::r)) else pure (ForInStep.yield r):Sem (ForInStep (List (Str×Addr)))))=pure cl∧
   (∀x c,cl.lookup x=some c→env.cells.lookup x=some c)∧(∀x,(x,NameKind.free)∈names∨(∃c,cs.lookup x=some c)→∃c,cl.lookup x=some c)
 |[],cs,_,h=>⟨cs,rfl,h,fun x hx=>hx.elim (fun m=>absurd m (by simp)) id⟩
 |(n,k)::names,cs,h1,h2=>by
  by_cases hk:k=.free
  ·subst hk
   obtain ⟨c,hc⟩:=h1 (n,.free) aH rfl
   obtain ⟨cl,e,a,b⟩:=rI names ((n,c)::cs) (fun y hy=>h1 y (aT _ hy)) (fun x c' hx=>by
    rw [List.lookup_cons] at hx
    split at hx
    ·rename_i ex;obtain rfl:=aB hx;refine rl (eq_of_beq ex) ?_;exact hc
    ·exact h2 x c' hx)
   refine ⟨cl,?_,a,fun x hx=>b x ?_⟩
   ·refine rl (List.forIn_cons ..) ?_
    simp only [beq_self_eq_true,if_true,cellOf,hc]
    exact e
   ·rcases hx with hx | ⟨c',hc'⟩
    ·rcases aZ.mp hx with q | q
     ·cases q;exact .inr ⟨c,by simp⟩
     ·exact .inl q
    ·right
     refine rl List.lookup_cons ?_
     split
     ·exact ⟨_,rfl⟩
     ·exact ⟨c',hc'⟩
  ·refine fU (rI names cs (fun y hy=>h1 y (aT _ hy)) h2) fun cl e a b=>?_
   refine ⟨cl,?_,a,fun x hx=>b x ?_⟩
   ·refine rl (List.forIn_cons ..) ?_
    have:(k == NameKind.free)=false:=by simpa using hk
    simp only [this,Bool.false_eq_true,if_false]
    exact e
   ·rcases hx with hx | hx
    ·rcases aZ.mp hx with q | q
     ·cases q;exact absurd rfl hk
     ·exact .inl q
    ·exact .inr hx
theorem Ko {env:Env}{scope:Scope}(h:∀y∈scope.names,y.2=.free→∃c,env.cells.lookup y.1=some c) :
  ∃cl,closureFor scope env=pure cl∧(∀x c,cl.lookup x=some c→env.cells.lookup x=some c)∧∀x,(x,NameKind.free)∈scope.names→∃c,cl.lookup x=some c:=by
 refine fU (rI scope.names [] h (fun x c hx=>by simp at hx)) fun cl e a b=>?_
 refine ⟨cl,?_,a,fun x hx=>b x (.inl hx)⟩
 simp only [closureFor]
 refine rl e ?_
 rfl
theorem jC {env:Env}:∀{names:List (Str×NameKind)}{x:Str}{k:NameKind},names.lookup x=some k→
  ∃k',(names.map fun (n,k)=>if (k == NameKind.free&&env.scope.kind == .function&&env.kindOf n == some .cell) then (n,NameKind.cell) else (n,k)).lookup x=some k'∧(k≠.free→k'=k)∧(k=.free→k'=.free∨k'=.cell)
 |[],_,_,h=>by simp at h
 |(n,k0)::r,x,k,h=>by
  have ih:=@jC env r x k
  cases hx:x == n with
  |true=>
   simp only [List.lookup_cons,hx,Option.some.injEq] at h
   subst h
   by_cases hc:(k0 == NameKind.free&&env.scope.kind == .function&&env.kindOf n == some .cell)=true
   ·refine ⟨.cell,?_,fun hf=>?_,fun _=>.inr rfl⟩
    ·show List.lookup x ((if (k0 == NameKind.free&&env.scope.kind == .function&&env.kindOf n == some .cell)=true then (n,NameKind.cell) else (n,k0))::_)=_
     refine rl (if_pos hc) ?_;simp only [List.lookup_cons,hx]
    ·simp only [bU,beq_iff_eq] at hc;exact absurd hc.1.1 hf
   ·refine ⟨k0,?_,fun _=>rfl,fun e=>.inl e⟩
    show List.lookup x ((if (k0 == NameKind.free&&env.scope.kind == .function&&env.kindOf n == some .cell)=true then (n,NameKind.cell) else (n,k0))::_)=_
    refine rl (if_neg hc) ?_;simp only [List.lookup_cons,hx]
  |false=>
   simp only [List.lookup_cons,hx] at h
   refine dF (ih h) fun k' e a=>?_
   refine ⟨k',?_,a⟩
   show List.lookup x ((if (k0 == NameKind.free&&env.scope.kind == .function&&env.kindOf n == some .cell)=true then (n,NameKind.cell) else (n,k0))::_)=_
   by_cases hc:(k0 == NameKind.free&&env.scope.kind == .function&&env.kindOf n == some .cell)=true
   ·refine rl (if_pos hc) ?_;simp only [List.lookup_cons,hx];exact e
   ·refine rl (if_neg hc) ?_;simp only [List.lookup_cons,hx];exact e
noncomputable abbrev Th.at (Θ:Th) (csc:Scope):Th:=⟨Θ.X,Θ.c,Θ.k,Θ.ns,csc⟩
section
variable {Θ:Th}{Γ:Gm Θ}{σ:St}{csc:Scope}{t:Expr}{cl:List (Str×Addr)}{C:Addr}{ρ ρ':Loc}
theorem Kp (hC:rH Θ.ns Θ.sc csc t) (hCB:Θ.X.B.get? C=none) (hE:Nh Θ.X Θ.sc Γ.env) (h1:∀x c,cl.lookup x=some c→Γ.env.cells.lookup x=some c) (h2:∀x,(x,NameKind.free)∈csc.names→∃c,cl.lookup x=some c) :
  Nh Θ.X csc (compEnvC csc cl C Γ.env) where
 ok:=hE.ok
 kind:=hC.kind
 globals:=hE.globals
 builtins:=hE.builtins
 glob:=fun x hx=>by
  refine fU (jC (env:=Γ.env) (eq_of_beq (aF.mp hx).1)) fun k' e' a _=>?_
  cases a (by decide)
  exact e'
 inter:=by show (csc.kind == .module&&_)=false;refine rl hC.kind ?_;rfl
 loc:=fun x e=>by
  refine fU (jC (env:=Γ.env) e) fun k' e' a _=>?_
  cases a (by decide)
  exact e'
 fre:=fun x e=>by
  rcases e with e | e
  ·exact absurd rfl (hC.nocell _ (eK e))
  ·refine fU (jC (env:=Γ.env) e) fun k' e' _ b=>?_
   rcases b rfl with q | q <;> subst q
   ·exact .inr e'
   ·exact .inl e'
 cel:=fun x e=>absurd rfl (hC.nocell _ (eK e))
 cells:=fun x e=>by
  rcases e with e | e
  ·exact absurd rfl (hC.nocell _ (eK e))
  ·exact h2 x (eK e)
 inj:=fun x y c a b=>hE.inj x y c (h1 x c a) (h1 y c b)
 base:=by
  rintro b (rfl | ⟨x,hx⟩)
  ·exact hCB
  ·exact hE.base b (.inr ⟨x,h1 x b hx⟩)
noncomputable def xP:T→List Nat
 |.slot i=>[i]
 |.tup is=>is
noncomputable def Gh (t:T) (ρ:Loc):Loc:=ρ.mapIdx fun i o=>if i∈xP t then none else o
theorem Gi {t:T}{ρ:Loc}{j:Nat}:(Gh t ρ)[j]? = (ρ[j]?).map fun o=>if j∈xP t then none else o:=by
 unfold Gh;exact rl (List.getElem?_mapIdx) rfl
theorem uY {t:T}{ρ:Loc}:ρ.length=(Gh t ρ).length:=by unfold Gh;exact rl List.length_mapIdx rfl
theorem kF:∀{is:List Nat}{vs:List V}{ρ₁ ρ₂ ρ':Loc},ρ₁.length=ρ₂.length→(∀j,j∉is→ρ₁[j]? = ρ₂[j]?)→kW is vs ρ₁=some ρ'→kW is vs ρ₂=some ρ'
 |[],vs,ρ₁,ρ₂,ρ',_,h,e=>by
  cases vs with
  |cons _ _=>exact nS e
  |nil=>obtain rfl:=aB e;exact aQ some (List.ext_getElem? fun j=>(h j cE).symm)
 |i::is,vs,ρ₁,ρ₂,ρ',hl,h,e=>by
  cases vs with
  |nil=>exact nS e
  |cons v vs=>
   refine dU e fun hi e=>?_
   show gd (decide (i<ρ₂.length)) _=_
   refine rl (aO (hl ▸ hi)) ?_
   refine kF (by exact rl List.length_set (rl List.length_set (rl hl rfl))) (fun j hj=>?_) e
   by_cases hij:j=i
   ·subst hij;exact rl (List.getElem?_set_self hi) (rl (List.getElem?_set_self (hl ▸ hi)) rfl)
   ·refine rl (List.getElem?_set_ne (Ne.symm hij)) (rl (List.getElem?_set_ne (Ne.symm hij)) ?_)
    exact h j fun m=>(aZ.mp m).elim hij hj
theorem Kq {t:T}{v:V}(h:qR t v ρ=some ρ'):qR t v (Gh t ρ)=some ρ':=by
 have ag:∀j,j∉xP t→ρ[j]? = (Gh t ρ)[j]?:=fun j hj=>by
  refine rl Gi ?_
  cases ρ[j]? with
  |none=>rfl
  |some o=>exact aQ some (if_neg hj).symm
 cases t with
 |slot i=>exact kF (is:=[i]) (vs:=[v]) uY ag h
 |tup is=>exact cV h fun vs hv h=>by show (hZ v).bind _=_;refine rl hv ?_;exact kF uY ag h
theorem Ag {ns:List Str}{tt:T}(ht:Fl ns csc t=some tt) {x:Str}(hx:x∈sC t):∃i,iB ns x=some i∧i∈xP tt:=by
 have one:∀{e:Expr}{i:Nat},Tm ns csc e=some i→x∈De e→iB ns x=some i:=fun h hx=>by
  refine iY (nQ h) fun y p e_e _ hs=>?_;subst e_e
  cases aG.mp hx
  exact hs
 unfold Fl at ht
 unfold sC at hx
 cases hu:Qa t with
 |none=>
  rw [hu] at ht hx
  refine dQ ht fun i hi ht=>?_
  subst ht
  exact ⟨i,one hi hx,aG.mpr rfl⟩
 |some es=>
  rw [hu] at ht hx
  refine dQ ht fun is his ht=>?_
  subst ht
  show ∃i,iB ns x=some i∧i∈is
  replace hx:x∈es.flatMap De:=hx
  clear ht hu
  induction es generalizing is with
  |nil=>cases hx
  |cons e es ih=>
   refine cV his fun i hi his=>dQ his fun is' his' his=>?_
   subst his
   rw [List.flatMap_cons] at hx
   rcases aY.mp hx with hx | hx
   ·exact ⟨i,one hi hx,aH⟩
   ·refine dF (ih is' his' hx) fun j h1 h2=>?_
    exact ⟨j,h1,aT _ h2⟩
theorem Qw (hC:rH Θ.ns Θ.sc csc t) (hCB:Θ.X.B.get? C=none) {tt:T}(ht:Fl Θ.ns csc t=some tt) (ok:Ok Γ σ) (h1:∀x c,cl.lookup x=some c→Γ.env.cells.lookup x=some c) (h2:∀x,(x,NameKind.free)∈csc.names→∃c,cl.lookup x=some c)
  (hn:∃m,σ.s.heap.Ns C m) (fC:iK Θ.X σ.W C):Ok (Θ:=Θ.at csc) ⟨compEnvC csc cl C Γ.env,Gh tt Γ.ρ,Γ.A⟩ σ:=by
 have hE:=Kp (C:=C) hC hCB ok.E h1 h2
 refine ⟨hE,⟨fun x i v hx hi hv=>?_,?_,?_,hn,fun x c hx=>ok.f.cell x c (h1 x c hx),?_⟩,ok.A,ok.S⟩
 ·have hv:(Gh tt Γ.ρ)[i]? = some (some v):=hv
  rw [Gi] at hv
  refine dQ hv fun o ho hv=>?_
  by_cases hni:i∈xP tt
  ·rw [if_pos hni] at hv;exact Sn hv
  rw [if_neg hni] at hv
  subst hv
  rcases (xF hx).1 with e | e | e
  ·rcases (hC.loc _ (eK e) rfl).2 with q | q
   ·have q:x=(".0":Str):=q
    subst q
    have hi:iB Θ.ns (".0":Str)=some i:=hi
    rw [hC.dot] at hi;exact nS hi
   ·refine dF (Ag ht q) fun j a b=>?_
    cases aB (a.symm.trans hi)
    exact absurd b hni
  ·exact absurd rfl (hC.nocell _ (eK e))
  ·refine iE (hC.fre _ (eK e) rfl) fun _ k hp=>?_
   refine dF (ok.f.vars x i v (Kc k hp) hi ho) fun w r b=>?_
   obtain ⟨c',hc'⟩:=h2 x (eK e)
   refine ⟨w,r,.inr ⟨hE.fre x (.inr e),c',hc',?_⟩⟩
   rcases b with ⟨kl,_⟩ | ⟨_,c,hc,hv⟩
   ·rcases ok.E.fre x k with q | q <;> rw [q] at kl <;> cases kl
   ·cases aB (hc.symm.trans (h1 x c' hc'));exact hv
 ·rintro b (rfl | ⟨x,hx⟩)
  ·exact fC.2.2
  ·exact ok.f.out b (.inr ⟨x,h1 x b hx⟩)
 ·rintro b (rfl | ⟨x,hx⟩)
  ·refine Jr hn fun m o _ _ e _=>?_;exact fun q=>by rw [q] at e;exact nS e
  ·exact ok.f.alive b (.inr ⟨x,h1 x b hx⟩)
 ·rintro b (rfl | ⟨x,hx⟩)
  ·exact fC.2.1
  ·exact ok.f.apart b (.inr ⟨x,h1 x b hx⟩)
end
end
section
theorem FR.moveP {P:Addr→Prop}{W W':Wd}{env:Env}{ns:List Str}{sc:Scope}{ρ:Loc}{h h':Heap}(f:FR W env ns sc ρ h) (t:oL P W W' h h') (hp:∀b,Qc env b→¬P b):FR W' env ns sc ρ h' where
 vars:=fun x i v a b c=>by
  refine dF (f.vars x i v a b c) fun w y z=>?_
  exact ⟨w,y.mono t.le,z.move fun b o ob e=>t.keep b o e (f.out b ob) (hp b ob)⟩
 out:=fun b ob m=>(t.nf b m).elim (f.out b ob) fun q=>q.elim (f.alive b ob) (hp b ob)
 alive:=fun b ob=>t.alive b (f.alive b ob) (hp b ob)
 nsp:=by
  refine Jr f.nsp fun m o es ep e r=>?_
  exact ⟨m,o,es,ep,t.keep _ _ e (f.out _ (.inl rfl)) (hp _ (.inl rfl)),r⟩
 cell:=fun x c e=>by
  refine qZ (f.cell x c e) fun v o g d=>?_
  exact ⟨v,o,t.keep _ _ g (f.out _ (.inr ⟨x,e⟩)) (hp _ (.inr ⟨x,e⟩)),d⟩
 apart:=fun b ob=>by
  cases q:W'.σ b with
  |none=>rfl
  |some o=>exact (t.nz b o q).elim (fun e=>by rw [f.apart b ob] at e;exact nS e) fun e=>e.elim (fun e=>absurd e (f.alive b ob)) fun e=>absurd e (hp b ob)
theorem Vx {h:Heap}{C:Addr}(n:∃m,h.Ns C m):h.get? C≠none:=by
 refine Jr n fun m o es ep e r=>?_
 refine rl e ?_;exact cJ _
theorem vY {h h':Heap}{C:Addr}(k:∀o,h.get? C=some o→h'.get? C=some o) (n:∃m,h.Ns C m):∃m,h'.Ns C m:=by
 refine Jr n fun m o es ep e r=>?_
 exact ⟨m,o,es,ep,k o e,r⟩
theorem vZ {H H0:Hp}{G:Option Nat}(h:same H H0 G=true):∀i,G=some i→H[i]? = H0[i]?:=by
 rintro i rfl
 exact bD h
section
variable {prog:Program}{w:World}{A:Around}{R:Result→Shared→Prop}{s:Shared}
theorem Dr {elt target iter:Expr}{ifs:List Expr}{scope:Scope}{pos:Pos}{it acc:Value}{env:Env}(I:Nat→Shared→Prop)
  (turn:∀n s,I n s→wpAny (model prog w) A (pyNext it) (fun r s₁=>match r with
   |none=>R (.ok .next) s₁
   |some v=>wpAny (model prog w) A (letOwnedTupleGo target it v) (fun _ s₁'=>wpAny (model prog w) A (assign target env v) (fun _ s₂=>
     wpAny (model prog w) A (forIn ifs true fun c r=>if r=true then do let ok ←isTrue c env (eval c env);pure (ForInStep.yield ok) else pure (ForInStep.yield r)) (fun ok s₃=>
      if ok=true then wpAny (model prog w) A (eval elt env) (fun x s₄=>
       wpAny (model prog w) A (call (.builtin "list.append") [acc,x]) (fun _ s₅=>∃m,m<n∧I m s₅) fX s₄) fX s₃
      else ∃m,m<n∧I m s₃) fX s₂) fX s₁') fX s₁) fX s)
  (n:Nat) (h:I n s) :
  codeAny (model prog w) A (.compLoop (.ListComp elt [⟨target,iter,ifs,0⟩] scope pos) 0 it acc env) R s:=by
 refine codeAny_loop rfl I (fun n s hI=>?_) n h
 show wpAny _ A ((compTurn (.ListComp elt [⟨target,iter,ifs,0⟩] scope pos) 0 it acc env).onRaise (fun x=>do noteFrame x env;theTreesLotGoes x)) _ _ s
 refine wpAny_noted ?_
 refine rl (compTurn_list ..) ?_
 refine aC (wpAny_standAt (aC (wpAny_mono (turn n s hI) (fun r s₁ h₁=>?_) fun _ _ h'=>h'.elim)))
 cases r with
 |none=>exact aK h₁
 |some v=>
  refine aC (wpAny_mono h₁ (fun _ s₁' h₁'=>?_) fun _ _ h'=>h'.elim)
  refine aC (wpAny_mono h₁' (fun _ s₂ h₂=>aC (wpAny_mono h₂ (fun ok s₃ h₃=>?_) fun _ _ h'=>h'.elim)) fun _ _ h'=>h'.elim)
  cases ok with
  |false=>exact aK ⟨rfl,h₃⟩
  |true=>
   exact aC (aC (wpAny_mono h₃ (fun x s₄ h₄=>aC (wpAny_mono h₄ (fun _ s₅ h₅=>aK (aK ⟨rfl,h₅⟩)) fun _ _ h'=>h'.elim)) fun _ _ h'=>h'.elim))
end
theorem No {md:Md}{t:T}(h:sD md t=true) (ho:md.own=true):t.two=true:=by
 unfold sD at h;rw [ho] at h;exact h
theorem xQ {ns:List Str}{sc:Scope}{e:Expr}{t:T}(h:Fl ns sc e=some t) (h2:t.two=true):rF e=true:=by
 unfold Fl at h
 cases hu:Qa e with
 |none=>rw [hu] at h;exact dQ h fun i _ h=>by subst h;exact fT h2
 |some es=>refine wU (Gg hu) fun kk tp e_e=>?_;subst e_e;rfl
inductive nR (Θ:Th):List Expr→E→Prop
 |nil:nR Θ [] (.const (.bool true))
 |one {e:Expr}{ce:E}:Vd Θ e ce→nR Θ [e] ce
structure PC {Θ:Th}(Γ:Gm Θ) (σ τ:St) (v:V) (D C:Addr):Prop where
 l:Le σ τ
 ok:Ok Γ τ
 f:lN σ τ v D
 n:σ.s.heap.get? C=none
 fC:iK Θ.X τ.W C
 m:∃m,τ.s.heap.Ns C m
 ne:C≠D
noncomputable def Vy (Is:List Addr) (D C b:Addr):Prop:=b∈Is∨b=D∨b=C
structure CI {Θ:Th}(Γ:Gm Θ) (σ:St) (H1:Hp) (K:IK) (I D C:Addr) (rest ds:List V) (τ:St):Prop where
 l:vX (Vy (K.ads I) D C) σ τ
 ok:Ok Γ τ
 st:K.St τ.W H1 τ.s.heap I rest
 fI:∀b∈K.ads I,iK Θ.X τ.W b
 aI:∀b∈K.ads I,τ.s.heap.get? b≠none
 acc:kE τ.s.heap D (dK τ.W ds)
 fD:iK Θ.X τ.W D
 fC:iK Θ.X τ.W C
 m:∃m,τ.s.heap.Ns C m
 nE:∀b,Qc Γ.env b→¬Vy (K.ads I) D C b
section
variable {Θ:Th}{Γ:Gm Θ}{σ τ υ:St}{H1:Hp}{K:IK}{I D C:Addr}{rest ds rest' ds':List V}{ifs:List Expr}{ce:E}
theorem iK.eval {X:Cx}{a:Addr}(f:iK X σ.W a) (l:Le σ τ) (h:σ.s.heap.get? a≠none):iK X τ.W a:=f.move (l.t.toP (P:=fun _=>False)) h id
theorem Np (c:CI Γ σ H1 K I D C rest ds τ) (l:Le τ υ) (S:SR Θ.X.B υ.W υ.H υ.s.heap):CI Γ σ H1 K I D C rest ds υ:=by
 obtain ⟨us,n,g,r⟩:=c.acc
 exact ⟨c.l.trans l.toP,c.ok.move l S,IK.move c.st l.t.le (fun _ _=>rfl) fun b hb o e=>l.t.keep _ o e (c.fI b hb).2.2,fun b hb=>(c.fI b hb).eval l (c.aI b hb),fun b hb=>l.t.alive _ (c.aI b hb),⟨us,n,l.t.keep _ _ g c.fD.2.2,r.up l⟩,
  c.fD.eval l (by refine rl g ?_;exact cJ _),c.fC.eval l (Vx c.m),vY (fun o e=>l.t.keep _ o e c.fC.2.2) c.m,c.nE⟩
theorem Ds (c:CI Γ σ H1 K I D C rest ds τ) {P:Addr→Prop}{s':Shared}(l:vX P τ ⟨τ.W,s',τ.H⟩) (hP:∀b,P b→Vy (K.ads I) D C b) (S:SR Θ.X.B τ.W τ.H s'.heap) (st:K.St τ.W H1 s'.heap I rest') (aI:∀b∈K.ads I,s'.heap.get? b≠none) (acc:kE s'.heap D (dK τ.W ds')) (m:∃m,s'.heap.Ns C m) :
  CI Γ σ H1 K I D C rest' ds' ⟨τ.W,s',τ.H⟩:=
 ⟨c.l.trans (l.mono hP),⟨c.ok.E,c.ok.f.moveP l.t fun b ob p=>c.nE b ob (hP b p),c.ok.A,S⟩,st,c.fI,aI,acc,c.fD,c.fC,m,c.nE⟩
theorem BK (h:nR Θ ifs ce) {R:Type}{K:V→Bool→Hp→Option R}{r:R}{Q:Bool→Shared→Prop}(ev:dI Θ.c ce Γ.ρ σ.H (fun v H=>(fL H v).bind fun b=>K v b H)=some r) (ok:Ok Γ σ)
  (hQ:∀v b τ,Le σ τ→Ok Γ τ→fL τ.H v=some b→K v b τ.H=some r→Q b τ.s) :
  wpAny Θ.X.M Γ.A (forIn ifs true fun c r=>if r=true then do let ok ←isTrue c Γ.env (eval c Γ.env);pure (ForInStep.yield ok) else pure (ForInStep.yield r)) Q fX σ.s:=by
 cases h with
 |nil=>exact aK (hQ (.bool true) true σ (.refl _) ok rfl ev)
 |one h=>
  refine rl (List.forIn_cons ..) (rl (if_pos rfl) ?_)
  exact aC (aC (h Γ σ R K r _ ev ok fun v b τ l o hv ev=>aK (aK (hQ v b τ l o hv ev))))
theorem tY {elt target iter:Expr}{csc:Scope}{pos p:Pos}{celt cit:E}{ct:T}{rng:Md}(hC:rH Θ.ns Θ.sc csc target) (ht:Fl Θ.ns csc target=some ct) (hw:sD rng ct=true) (hit:lD Θ iter rng cit)
  (hifs:nR (Θ.at csc) ifs ce) (helt:fK (Θ.at csc) elt celt) {use:Option (Value→Sem Unit)}{Q:Value→Shared→Prop}{R:Type}{KK:V→Hp→Option R}{r:R}(ev:dI Θ.c (.comp ct rng cit ce celt) Γ.ρ σ.H KK=some r) (ok:Ok Γ σ)
  (hQ:∀v D C τ,PC Γ σ τ v D C→KK v τ.H=some r→compPost Θ.X.M Γ.A fX use Q (.ref D) C (.ok .next) τ.s) :
  wpAny Θ.X.M Γ.A (comprehension (.ListComp elt [⟨target,iter,ifs,0⟩] csc pos) csc Γ.env p (newList []) false (eval iter Γ.env) use) Q fX σ.s:=by
 refine fU (Ko (env:=Γ.env) (scope:=csc) fun y hy hf=>ok.E.cells y.1 (hC.fre y hy hf).2.1) fun cl hcl h1 h2=>?_
 refine wpAny_comprehension_free rfl (hit.fold Γ.env) hcl hC.kind (fun y hy e=>(hC.loc y hy e).1) (hit.run Γ σ R (fun xs G H1=>rV (wW ct Γ.ρ (fun ρ H K=>dI Θ.c ce ρ H K) fun ρ H K=>dI Θ.c celt ρ H K) G H1 xs [] H1 fun vs H2=>KK (.lst vs) H2) r _ ev ok fun K I xs G τ l o it ev=>?_)
 refine wpAny_newObj_type (wpAny_newFunctionEnv hC.nocell (fun y hy=>absurd hy cE) (fun h₁ hns₁ hsb₁=>?_) hC.kind)
 dsimp only at hns₁ hsb₁ ⊢
 generalize hH2:τ.s.heap.push { cls:=.type "list",dict:=none,data:=.seq ([]:List Value).toArray }=H2 at hns₁ hsb₁ ⊢
 have hCs:H2.objs.size=τ.s.heap.objs.size+1:=by exact rr hH2 (rl (Heap.size_push ..) rfl)
 have hDC:τ.s.heap.objs.size≠H2.objs.size:=by refine rl hCs ?_;exact Nat.ne_of_lt (Nat.lt_succ_self _)
 have hD0:=eE τ.s.heap
 have hC0:τ.s.heap.get? H2.objs.size=none:=by
  cases q:τ.s.heap.get? H2.objs.size with
  |none=>rfl
  |some o=>have:=Heap.lt_size q;rw [hCs] at this;exact absurd this (Nat.not_lt.mpr (Nat.le_succ _))
 have old:∀b o,τ.s.heap.get? b=some o→h₁.get? b=some o:=fun b o e=>hsb₁.extBut b o (fun q=>by rw [q,hC0] at e;exact nS e) (bB _ (hH2 ▸ bB _ e))
 generalize hDe:τ.s.heap.objs.size=D at *
 generalize hCe:H2.objs.size=C at *
 have hacc:h₁.get? D=some (iW "list" #[] 0):=hsb₁.extBut _ _ hDC (bB _ (by refine rr hH2 (rr hDe ?_);exact bQ _ rfl))
 have new:∀b,Vy (K.ads I) D C b→σ.s.heap.get? b=none:=by
  rintro b (hb | rfl | rfl)
  ·exact it.new b hb
  ·exact bK fun q=>l.t.alive _ q hD0
  ·exact bK fun q=>l.t.alive _ q hC0
 have hDI:D∉K.ads I:=fun q=>it.alive D q hD0
 have hCI:C∉K.ads I:=fun q=>it.alive C q hC0
 have hTo:K.own=true→rF target=true:=fun q=>xQ ht (No hw (it.own q))
 have loop:∀s₃:Shared,s₃={ τ.s with heap:=h₁,toks:=τ.s.toks+([]:List (Str×Value)).length }→
   codeAny Θ.X.M Γ.A (.compLoop (.ListComp elt [⟨target,iter,ifs,0⟩] csc pos) 0 (.ref I) (.ref D) (compEnvC csc cl C Γ.env)) (compPost Θ.X.M Γ.A fX use Q (.ref D) C) s₃:=by
  rintro s₃ rfl
  refine Dr (fun n s'=>∃rest ds υ,n=rest.length∧s'=υ.s∧CI Γ τ τ.H K I D C rest ds υ∧rV (wW ct Γ.ρ (fun ρ H K=>dI Θ.c ce ρ H K) fun ρ H K=>dI Θ.c celt ρ H K) G τ.H rest ds υ.H (fun vs H2=>KK (.lst vs) H2)=some r) (fun n s' hI=>?_) xs.length
   ⟨xs,[],τ.hp h₁ _,rfl,rfl,⟨(Le.grow old).toP,o.grow old,IK.move it.st (.refl _) (fun _ _=>rfl) fun b _ o e=>old _ o e,it.free,fun b hb=>(Tr.grow (W:=τ.W) old).alive _ (it.alive b hb),⟨#[],0,hacc,dK.nil⟩,iK.of_none o.S hD0,iK.of_none o.S hC0,⟨_,hns₁⟩,fun b ob q=>ok.f.alive b ob (new b q)⟩,ev⟩
  refine Jq hI fun rest ds υ e_e=>?_;clear hI;subst e_e;intro e_e;subst e_e;intro c hl
  have mv:∀{rest},same υ.H τ.H G=true→K.St υ.W τ.H υ.s.heap I rest→K.St υ.W υ.H υ.s.heap I rest:=fun hs st=>IK.move st (.refl _) (fun i hi=>vZ hs i (it.g i hi)) fun _ _ o e=>e
  cases rest with
  |nil=>
   refine cZ hl fun hs hl=>cZ hl fun hsm hl=>IK.done o.A.handled c.ok.S c.fI (mv hs c.st) fun h' hx=>?_
   have l4:vX (Vy (K.ads I) D C) υ (υ.hp h' υ.s.toks):=⟨(oL.extP (P:=fun b=>b∈K.ads I) fun b o nb e=>hx b o nb e).mono fun b hb=>.inl hb,⟨rfl,rfl,rfl⟩⟩
   have S4:SR Θ.X.B υ.W υ.H h':=c.ok.S.free (P:=fun b=>b∈K.ads I) c.fI fun b o nb e=>hx b o nb e
   have L:=c.l.trans l4
   obtain ⟨us,n,g,ra⟩:=c.acc
   refine hQ (.lst ds) D C (υ.hp h' υ.s.toks) ⟨⟨l.t.fresh L.t new,l.q.trans L.q⟩,ok.move ⟨l.t.fresh L.t new,l.q.trans L.q⟩ S4,⟨(⟨us,n,hx D _ hDI g,ra⟩:kE ..),c.fD.2.1,c.fD.2.2,new D (.inr (.inl rfl))⟩,new C (.inr (.inr rfl)),c.fC,vY (fun o e=>hx C o hCI e) c.m,Ne.symm hDC⟩ hl
  |cons x rest=>
   refine cZ hl fun hs hl=>cZ hl fun hsm hl=>cV hl fun ρ' hb hl=>IK.item c.ok.S c.fI (mv hs c.st) hTo fun w h' tk hx ha st rw'=>?_
   have S4:SR Θ.X.B υ.W υ.H h':=c.ok.S.free (P:=fun b=>b∈K.ads I) c.fI fun b o nb e=>hx b o nb e
   obtain ⟨us,n,g,ra⟩:=c.acc
   have c4:CI Γ τ τ.H K I D C rest ds (υ.hp h' tk):=Ds (P:=fun b=>b∈K.ads I) c ⟨oL.extP fun b o nb e=>hx b o nb e,⟨rfl,rfl,rfl⟩⟩ (fun b e=>.inl e) S4 (IK.move st (.refl _) (fun i hi=>(vZ hs i (it.g i hi)).symm) fun _ _ o e=>e) ha ⟨us,n,hx D _ hDI g,ra⟩ (vY (fun o e=>hx C o hCI e) c.m)
   refine rG (σ:=υ.hp h' tk) (Qw hC c4.fC.1 ht c4.ok h1 h2 c4.m c4.fC) ht (Kq hb) rw' fun s5 l5 o5=>?_
   have own5:∀b,qL csc (compEnvC csc cl C Γ.env) b→b=C:=fun b m=>m.elim id fun ⟨x,e,_⟩=>absurd rfl (hC.nocell _ (eK e))
   have keep5:∀b o,b≠C→iK Θ.X υ.W b→h'.get? b=some o→s5.heap.get? b=some o:=fun b o nb fb e=>l5.t.keep b o e fb.2.2 fun q=>nb (own5 b q)
   obtain ⟨us4,n4,g4,ra4⟩:=c4.acc
   have c5:CI Γ τ τ.H K I D C rest ds ⟨υ.W,s5,υ.H⟩:=Ds c4 l5 (fun b m=>.inr (.inr (own5 b m))) o5.S (IK.move c4.st (.refl _) (fun _ _=>rfl) fun b hb o e=>keep5 b o (fun q=>hCI (q ▸ hb)) (c4.fI b hb) e) (fun b hb=>l5.t.alive b (c4.aI b hb) fun q=>hCI ((own5 b q) ▸ hb)) ⟨us4,n4,keep5 D _ hDC c4.fD g4,ra4⟩ o5.f.nsp
   refine BK (Θ:=Θ.at csc) (K:=fun v q H1=>br q (dI Θ.c celt ρ' H1 _) _) hifs hl o5 fun vb q τ6 l6 o6 _ hl=>?_
   cases q with
   |false=>exact ⟨rest.length,Nat.lt_succ_self _,rest,ds,τ6,rfl,rfl,Np c5 l6 o6.S,by refine rr (bV ds) ?_;exact hl⟩
   |true=>
    refine helt.val _ τ6 R _ r _ (show dI Θ.c celt ρ' τ6.H _=some r from hl) o6 fun v wv τ7 l7 o7 rv hl=>?_
    have c7:=Np c5 (l6.trans l7) o7.S
    obtain ⟨us7,n7,g7,ra7⟩:=c7.acc
    refine wpAny_list_append_plain (hl:=⟨n7,g7⟩) (fun h8 hpl hs8=>?_) ?_
    ·refine wT hpl fun n8 hpl=>?_
     refine ⟨rest.length,Nat.lt_succ_self _,rest,ds++[v],τ7.hp h8 τ7.s.toks,rfl,rfl,?_,hl⟩
     exact Ds (P:=fun b=>b=D) c7 ⟨oL.ext rfl hs8.extBut,⟨rfl,rfl,rfl⟩⟩ (fun b e=>.inr (.inl e)) (c7.ok.S.free (P:=fun b=>b=D) (fun b e=>e ▸ c7.fD) fun b o nb e=>(hs8.2 b nb).trans e)
      (IK.move c7.st (.refl _) (fun _ _=>rfl) fun b hb o e=>(hs8.2 b fun q=>hDI (q ▸ hb)).trans e) (fun b hb q=>c7.aI b hb ((hs8.2 b fun q=>hDI (q ▸ hb)).symm.trans q)) ⟨_,n8,hpl,by refine rl Array.toList_push ?_;exact ra7.snoc rv⟩ (vY (fun o e=>(hs8.2 C (Ne.symm hDC)).trans e) c7.m)
    ·exact jB (ra7.size ▸ gZ hsm)
 exact codeAny_compStart_list (loop _ rfl) (wpAny_mono (IK.self (K:=K) (X:=Θ.X) (W:=τ.W) (H:=τ.H) (IK.move it.st (.refl _) (fun _ _=>rfl) fun b _ o e=>old _ o e) (loop _ rfl)) (fun _ _ x=>x) fun _ _ x=>x.elim)
end
end
section
section
variable (Θ:Th)
noncomputable def NQ (m:Env→Sem Flow) (cs:S):Prop:=∀(Γ:Gm Θ) (σ:St) (R:Type) (K:Loc→Hp→Option R) (L:V→Hp→Option R) (r:R) (Q:Flow→Shared→Prop),dG Θ.c cs Γ.ρ σ.H K L=some r→Ok Γ σ→
 (∀ρ' τ,vX (qL Θ.sc Γ.env) σ τ→Ok (Γ.at ρ') τ→K ρ' τ.H=some r→Q .next τ.s)→
 (∀v w τ,vX (qL Θ.sc Γ.env) σ τ→SR Θ.X.B τ.W τ.H τ.s.heap→RV τ.W v w→L v τ.H=some r→Q (.ret w) τ.s)→wpAny Θ.X.M Γ.A (m Γ.env) Q fX σ.s
noncomputable abbrev jJ (st:Stmt) (cs:S):Prop:=NQ Θ (exec st) cs
noncomputable abbrev oS (st:List Stmt) (cs:S):Prop:=NQ Θ (execs st) cs
end
theorem Nq {α:Type}{M:Model}{A:Around}{t:Sem α}{Q:α→Shared→Prop}{E:Value→Shared→Prop}{s:Shared}(h:wpAny M A t Q fX s):wpAny M A t Q E s:=wpAny_mono h (fun _ _ x=>x) fun _ _ x=>x.elim
theorem vI.heap {s s':Shared}(q:vI s s') {h:Heap}{n:Nat}:vI s { s' with heap:=h,toks:=n }:=⟨q.gens,q.drawn,q.os⟩
section
variable {Θ:Th}{Γ:Gm Θ}{σ τ:St}{e:Expr}{ce:E}{csc:Scope}{v:V}{pos p:Pos}
theorem Bi {elt target iter:Expr}{ifs:List Expr}{celt cit:E}{ct:T}{rng:Md}(hC:rH Θ.ns Θ.sc csc target) (ht:Fl Θ.ns csc target=some ct) (hw:sD rng ct=true) (hit:lD Θ iter rng cit)
  (hifs:nR (Θ.at csc) ifs ce) (helt:fK (Θ.at csc) elt celt):tW Θ (.ListComp elt [⟨target,iter,ifs,0⟩] csc pos) (.comp ct rng cit ce celt):=fun Γ σ R K r Q ev ok hQ=>by
 refine rl (eval_ListComp ..) ?_
 refine tY hC ht hw hit hifs helt (use:=none) ev ok fun v D C τ pc ev=>?_
 obtain ⟨m,hm⟩:=pc.m
 refine ⟨m,hm,fun h' hs=>?_⟩
 have l:Le σ (τ.hp h' τ.s.toks):=⟨pc.l.t.fresh (oL.ext (P:=fun b=>b=C) rfl hs.extBut) (fun b e=>e ▸ pc.n),pc.l.q.heap⟩
 have S:SR Θ.X.B τ.W τ.H h':=pc.ok.S.free (P:=fun b=>b=C) (fun b e=>e ▸ pc.fC) fun b o nb e=>(hs.2 b nb).trans e
 exact hQ v D (τ.hp h' τ.s.toks) l (ok.move l S) ⟨pc.f.x.move (.refl _) (hs.2 D (Ne.symm pc.ne)),pc.f.z,pc.f.f,pc.f.n⟩ ev
theorem Gj (h:eX Θ e ce) {x:Str}{px:Pos}{i:Nat}(hi:Tm Θ.ns Θ.sc (.Name x px)=some i) (hsw:∀env,swapsWith e (some (.Name x px)) pos.line env=pure false):jJ Θ (.Assign [.Name x px] e pos) (.assign (.slot i) ce):=fun Γ σ R K L r Q ev ok hN hR=>
 wpAny_Assign_Name (h Γ σ R _ r _ ev ok fun v w τ l o rv ev=>cV ev fun ρ' hb ev=>dU hb fun hlt hb=>by
  obtain rfl:=aB hb
  refine iY (nQ hi) fun y q e hx hs=>?_
  cases e
  exact mN o hx hs rv hlt fun s' l2 o2=>hN _ ⟨τ.W,s',τ.H⟩ (l.toP.trans l2) o2 ev) (hsw Γ.env)
theorem tZ {G:Glob}{elt target iter:Expr}{ifs:List Expr}{celt cit:E}{ct:T}{rng:Md}(hC:rH Θ.ns Θ.sc csc target) (ht:Fl Θ.ns csc target=some ct) (hw:sD rng ct=true) (hit:lD Θ iter rng cit)
  (hifs:nR (Θ.at csc) ifs ce) (helt:fK (Θ.at csc) elt celt) {x:Str}{px:Pos}{i:Nat}(hi:Tm Θ.ns Θ.sc (.Name x px)=some i) :
  jJ Θ (.Assign [.Name x px] (.ListComp elt [⟨target,iter,ifs,0⟩] csc p) pos) (.assign (.slot i) (fb G p (.comp ct rng cit ce celt))):=by
 have key:∀env,∃b,swapsWith (.ListComp elt [⟨target,iter,ifs,0⟩] csc p) (some (.Name x px)) pos.line env=pure b:=fun env=>⟨_,rfl⟩
 intro Γ σ R K L r Q ev ok hN hR
 obtain ⟨b,hb⟩:=key Γ.env
 cases b with
 |false=>exact wpAny_Assign_Name (tX (G:=G) (p:=p) (Bi hC ht hw hit hifs helt) Γ σ R _ r _ ev ok fun v w τ l o rv ev=>cV ev fun ρ' hb ev=>dU hb fun hlt hb=>by
   obtain rfl:=aB hb
   refine iY (nQ hi) fun y q e hx hs=>?_
   cases e
   exact mN o hx hs rv hlt fun s' l2 o2=>hN _ ⟨τ.W,s',τ.H⟩ (l.toP.trans l2) o2 ev) hb
 |true=>
  refine iY (nQ hi) fun y q e hx hsl=>?_
  cases e
  have fin:∀(v:V) (D C:Addr) (τ:St),Le σ τ→SR Θ.X.B τ.W τ.H τ.s.heap→RV τ.W v (.ref D)→iK Θ.X τ.W C→σ.s.heap.get? C=none→(∃m,τ.s.heap.Ns C m)→((qR (.slot i) v Γ.ρ).bind fun ρ'=>K ρ' τ.H)=some r→
    compPost Θ.X.M Γ.A fX (some (assign (.Name x px) Γ.env)) (fun _ s'=>Q .next s') (.ref D) C (.ok .next) τ.s:=by
   intro v D C τ l S rv fC nC hm ev
   refine cV ev fun ρ' hb ev=>dU hb fun hlt hb=>?_
   obtain rfl:=aB hb
   have o:=ok.move l S
   have hCo:¬Qc Γ.env C:=fun q=>ok.f.alive C q nC
   show wpAny Θ.X.M Γ.A (assign (.Name x px) Γ.env (.ref D)) _ fX τ.s
   refine wpAny_assign_Name (mN o hx hsl rv hlt fun s2 l2 o2=>?_)
   refine Jr hm fun m ob es ep e rr=>?_
   refine ⟨m,⟨ob,es,ep,l2.t.keep C _ e fC.2.2 fun q=>hCo q.own,rr⟩,fun h' hs=>?_⟩
   have L:=l.toP.trans l2
   exact hN _ ⟨τ.W,{ s2 with heap:=h' },τ.H⟩ ⟨L.t.fresh (oL.ext (P:=fun b=>b=C) rfl hs.extBut) fun b e=>.inr (e ▸ nC),⟨L.q.gens,L.q.drawn,L.q.os⟩⟩
    ⟨o2.E,o2.f.moveP (P:=fun b=>b=C) (oL.ext rfl hs.extBut) fun b ob e=>hCo (e ▸ ob),o2.A,o2.S.free (P:=fun b=>b=C) (fun b e=>e ▸ fC) fun b o nb e=>(hs.2 b nb).trans e⟩ ev
  refine rl (exec_Assign_Name_used _ _ _ _ hb) ?_
  refine aC (wpAny_standAt (aC ?_))
  show wpAny _ Γ.A (do let _ ←comprehension (.ListComp elt [⟨target,iter,ifs,0⟩] csc p) csc Γ.env _ (newList []) false (eval iter Γ.env) (some (assign (.Name x px) Γ.env))) _ _ σ.s
  refine aC (wpAny_mono (Q:=fun _ s'=>Q .next s') ?_ (fun _ s' hq=>aK (aK hq)) fun _ _ e=>e)
  replace ev:dI Θ.c (fb G p (.comp ct rng cit ce celt)) Γ.ρ σ.H (fun v H1=>(qR (.slot i) v Γ.ρ).bind fun ρ'=>K ρ' H1)=some r:=ev
  unfold fb at ev
  cases hx:G.bx p with
  |false=>
   rw [hx] at ev
   refine tY hC ht hw hit hifs helt (use:=some (assign (.Name x px) Γ.env)) ev ok fun v D C τ pc ev=>pc.f.freeze pc.l pc.ok.S fun ob l2 S2 rv=>fin v D C ⟨τ.W.freeze D ob,τ.s,τ.H⟩ l2 S2 rv ⟨pc.fC.1,?_,pc.fC.2.2⟩ pc.n pc.m ev
   show (if C=D then _ else τ.W.σ C)=none
   refine rl (if_neg pc.ne) ?_;exact pc.fC.2.1
  |true=>
   rw [hx] at ev
   refine tY hC ht hw hit hifs helt (use:=some (assign (.Name x px) Γ.env)) (KK:=fun o H1=>(qR (.slot i) (.ref H1.length) Γ.ρ).bind fun ρ'=>K ρ' (H1++[o])) ev ok fun v D C τ pc ev=>?_
   refine iE (pc.f.box pc.l ok.S pc.ok.S) fun l2 S2 rv=>?_
   refine fin _ D C ⟨τ.W.box D,τ.s,τ.H++[v]⟩ l2 S2 rv ⟨pc.fC.1,pc.fC.2.1,fun m=>?_⟩ pc.n pc.m ev
   rcases aY.mp m with q | q
   ·exact pc.fC.2.2 q
   ·exact pc.ne (aG.mp q)
theorem vJ (h:eX Θ e ce) {es:List Expr}{kk:Nat}{tp:Pos}{ct:T}(ht:Fl Θ.ns Θ.sc (.Tuple es kk tp)=some ct)
  (hs:∀env,swapsWithSole [.Tuple es kk tp] e pos.line env=pure false) (hw:∀(Γ:Gm Θ) (σ:St),Ok Γ σ→swappedStores [.Tuple es kk tp] e Γ.env=pure none):jJ Θ (.Assign [.Tuple es kk tp] e pos) (.assign ct ce):=fun Γ σ R K L r Q ev ok hN hR=>
 PyProof.Rows.Assign_Tuple (h Γ σ R _ r _ ev ok fun v w τ l o rv ev=>cV ev fun ρ' hb ev=>rG o ht hb (.val rv) fun s' l2 o2=>hN _ ⟨τ.W,s',τ.H⟩ (l.toP.trans l2) o2 ev) (hs Γ.env) (hw Γ σ ok)
theorem Qx (h:eX Θ e ce) (hsw:∀env,swapsWith e none pos.line env=pure false):jJ Θ (.Expr e pos) (.expr ce):=fun Γ σ R K L r Q ev ok hN hR=>
 wpAny_Expr_any (h Γ σ R _ r _ ev ok fun v w τ l o rv ev=>hN _ τ l.toP o ev) ok.E.inter (hsw Γ.env)
theorem Dt {a i:Expr}{ca ci:E}(he:eX Θ e ce) (ha:eX Θ a ca) (hi:eX Θ i ci) (hsw:∀env,swapsWith e (some (.Subscript a i p)) pos.line env=pure false) :
  jJ Θ (.Assign [.Subscript a i p] e pos) (.setItem ce ca ci):=fun Γ σ R K L r Q ev ok hN hR=>
 wpAny_Assign_Subscript (he Γ σ R _ r _ ev ok fun v w τ l o rv ev=>ha Γ τ R _ r _ ev o fun x u τ2 l2 o2 rx ev=>hi Γ τ2 R _ r _ ev o2 fun y t τ3 l3 o3 ry ev=>cV ev fun H4 h4 ev=>
  Gb o3 h4 (rv.mono (l2.t.le.trans l3.t.le)) (rx.up l3) ry fun s' l4 o4=>hN _ ⟨τ3.W,s',H4⟩ (((l.trans l2).trans l3).trans l4).toP o4 ev) (hsw Γ.env)
theorem BL (h:Vd Θ e ce) {a b:List Stmt}{ca cb:S}(ha:oS Θ a ca) (hb:oS Θ b cb):jJ Θ (.If e a b pos) (.iff ce ca cb):=fun Γ σ R K L r Q ev ok hN hR=>
 wpAny_If (h Γ σ R (fun _ q H1=>br q (dG Θ.c ca Γ.ρ H1 K L) (dG Θ.c cb Γ.ρ H1 K L)) r _ ev ok fun v q τ l o _ ev=>by
  cases q
  ·exact hb Γ τ R K L r Q ev o (fun ρ' υ l2 o2 ev=>hN ρ' υ (l.toP.trans l2) o2 ev) fun v w υ l2 S rv ev=>hR v w υ (l.toP.trans l2) S rv ev
  ·exact ha Γ τ R K L r Q ev o (fun ρ' υ l2 o2 ev=>hN ρ' υ (l.toP.trans l2) o2 ev) fun v w υ l2 S rv ev=>hR v w υ (l.toP.trans l2) S rv ev)
theorem Vz (h:eX Θ e ce):jJ Θ (.Return (some e) pos) (.ret ce):=fun Γ σ R K L r Q ev ok hN hR=>
 wpAny_Return_some (h Γ σ R _ r _ ev ok fun v w τ l o rv ev=>hR v w τ l.toP o.S rv ev)
theorem Ah:jJ Θ (.Return none pos) (.ret (.const .none)):=fun Γ σ R K L r Q ev ok hN hR=>
 wpAny_Return_none (hR .none .none σ (.refl _) ok.S RV.none ev)
theorem Kr {st:Stmt}:jJ Θ st .stuck:=fun Γ σ R K L r Q ev=>nomatch (show none=some r from ev)
theorem Qy:oS Θ [] .skip:=fun Γ σ R K L r Q ev ok hN hR=>wpAny_execs_nil (hN Γ.ρ σ (.refl _) ok ev)
theorem Ks {st:Stmt}{cs:S}{sts:List Stmt}{css:S}(h:jJ Θ st cs) (hs:oS Θ sts css):oS Θ (st::sts) (.seq cs css):=fun Γ σ R K L r Q ev ok hN hR=>
 wpAny_execs_cons (h Γ σ R _ L r _ ev ok (fun ρ' τ l o ev=>hs (Γ.at ρ') τ R K L r Q ev o (fun ρ2 υ l2 o2 ev=>hN ρ2 υ (l.trans l2) o2 ev) fun v w υ l2 S rv ev=>hR v w υ (l.trans l2) S rv ev) fun v w τ l S rv ev=>hR v w τ l S rv ev)
theorem Gk {prog:Program}{w:World}{A:Around}{s:Shared}{R:Result→Shared→Prop}{target it body env} (I:Nat→Shared→Prop)
  (turn:∀n s,I n s→wpAny (model prog w) A (pyNext it) (fun r s₁=>match r with
   |none=>R (.ok .next) s₁
   |some v=>wpAny (model prog w) A (letOwnedTupleGo target it v) (fun _ s₁'=>
     wpAny (model prog w) A (assign target env v) (fun _ s₂=>wpAny (model prog w) A (execs body env) (fun f s₃=>match f with
      |.next | .cont=>∃m,m<n∧I m s₃
      |.brk=>R (.ok .next) s₃
      |.ret v=>R (.ok (.ret v)) s₃) fX s₂) fX s₁') fX s₁) fX s)
  (n:Nat) (h:I n s):codeAny (model prog w) A (.forLoop target it body [] env) R s:=by
 refine codeAny_forLoop_any I (fun n s hI=>wpAny_mono (turn n s hI) (fun r s₁ h₁=>?_) fun _ _ x=>x.elim) n h
 cases r with
 |none=>exact wpAny_execs_nil h₁
 |some v=>exact wpAny_mono h₁ (fun _ s₂ h₂=>wpAny_mono h₂ (fun _ s₃ h₃=>wpAny_mono h₃ (fun _ _ x=>x) fun _ _ x=>x.elim) fun _ _ x=>x.elim) fun _ _ x=>x.elim
theorem Ku (h:Vd Θ e ce) {body:List Stmt}{cb:S}(hb:oS Θ body cb):jJ Θ (.While e body [] pos) (.whil ce cb):=fun Γ σ R K L r Q ev ok hN hR=>by
 refine wpAny_While (codeAny_whileLoop (fun n s'=>∃ρc υ,s'=υ.s∧vX (qL Θ.sc Γ.env) σ υ∧Ok (Γ.at ρc) υ∧rB (fun ρ H K=>dI Θ.c ce ρ H fun x H1=>(fL H1 x).bind fun q=>K q H1) (fun ρ H K=>dG Θ.c cb ρ H K L) n ρc υ.H K=some r) (fun n s' hI=>?_) Θ.c.fuel
  ⟨Γ.ρ,σ,rfl,.refl _,ok,ev⟩)
 refine PT hI fun ρc υ e_e=>?_;clear hI;subst e_e;intro l o hl
 cases n with
 |zero=>exact nS hl
 |succ n=>
  refine Nq (h (Γ.at ρc) υ R (fun _ q H1=>br q (dG Θ.c cb ρc H1 (fun ρ' H'=>rB (fun ρ H K=>dI Θ.c ce ρ H fun x H1=>(fL H1 x).bind fun q=>K q H1) (fun ρ H K=>dG Θ.c cb ρ H K L) n ρ' H' K) L) (K ρc H1)) r _ hl o fun _ q τ l2 o2 _ hl=>?_)
  cases q with
  |false=>exact wpAny_execs_nil (hN ρc τ (l.trans l2.toP) o2 hl)
  |true=>exact Nq (hb (Γ.at ρc) τ R _ L r _ hl o2 (fun ρ2 φ l3 o3 hl=>⟨n,Nat.lt_succ_self n,ρ2,φ,rfl,(l.trans l2.toP).trans l3,o3,hl⟩) fun v w φ l3 S rv hl=>hR v w φ ((l.trans l2.toP).trans l3) S rv hl)
theorem Wa {target iter:Expr}{body:List Stmt}{ct:T}{rng:Md}{cit:E}{cb:S}(ht:Fl Θ.ns Θ.sc target=some ct) (hw:sD rng ct=true) (hit:lD Θ iter rng cit) (hb:oS Θ body cb) :
  jJ Θ (.For target iter body [] pos) (.forr ct rng cit cb):=fun Γ σ R KK L r Q ev ok hN hR=>by
 refine wpAny_For (hit.run Γ σ R (fun xs G H1=>rA (gJ ct fun ρ H K=>dG Θ.c cb ρ H K L) G H1 xs Γ.ρ H1 KK) r _ ev ok fun K I xs G τ l o it ev=>?_) (hit.fold Γ.env)
 have nO:∀b,Qc Γ.env b→b∉K.ads I:=fun b ob q=>ok.f.alive b ob (it.new b q)
 have hTo:K.own=true→rF target=true:=fun q=>xQ ht (No hw (it.own q))
 have up:∀{υ:St},vX (fun b=>b∈K.ads I∨qL Θ.sc Γ.env b) τ υ→vX (qL Θ.sc Γ.env) σ υ:=fun y=>⟨l.t.toP.fresh y.t fun b m=>m.elim (fun m=>.inr (it.new b m)) .inl,l.q.trans y.q⟩
 refine Gk (fun n s'=>∃rest ρc υ,n=rest.length∧s'=υ.s∧vX (fun b=>b∈K.ads I∨qL Θ.sc Γ.env b) τ υ∧Ok (Γ.at ρc) υ∧K.St υ.W τ.H υ.s.heap I rest∧(∀b∈K.ads I,iK Θ.X υ.W b)∧(∀b∈K.ads I,υ.s.heap.get? b≠none)∧
   rA (gJ ct fun ρ H K=>dG Θ.c cb ρ H K L) G τ.H rest ρc υ.H KK=some r) (fun n s' hI=>?_) xs.length ⟨xs,Γ.ρ,τ,rfl,rfl,.refl _,o,it.st,it.free,it.alive,ev⟩
 obtain ⟨rest,ρc,υ,rfl,rfl,l3,o3,st,fI,aI,hl⟩:=hI
 have mv:∀{rest},same υ.H τ.H G=true→K.St υ.W τ.H υ.s.heap I rest→K.St υ.W υ.H υ.s.heap I rest:=fun hs st=>IK.move st (.refl _) (fun i hi=>vZ hs i (it.g i hi)) fun _ _ o e=>e
 cases rest with
 |nil=>
  refine cZ hl fun hs hl=>IK.done o.A.handled o3.S fI (mv hs st) fun h' hx=>?_
  have t4:oL (fun b=>b∈K.ads I) υ.W υ.W υ.s.heap h':=oL.extP fun b o nb e=>hx b o nb e
  have S4:SR Θ.X.B υ.W υ.H h':=o3.S.free (P:=fun b=>b∈K.ads I) fI fun b o nb e=>hx b o nb e
  exact hN ρc (υ.hp h' υ.s.toks) (up (l3.trans ⟨t4.mono fun b m=>.inl m,⟨rfl,rfl,rfl⟩⟩)) ⟨o3.E,o3.f.moveP t4 nO,o3.A,S4⟩ hl
 |cons x rest=>
  refine cZ hl fun hs hl=>cV hl fun ρ' hb' hl=>IK.item o3.S fI (mv hs st) hTo fun w h' tk hx ha st rw'=>?_
  have t4:oL (fun b=>b∈K.ads I) υ.W υ.W υ.s.heap h':=oL.extP fun b o nb e=>hx b o nb e
  have S4:SR Θ.X.B υ.W υ.H h':=o3.S.free (P:=fun b=>b∈K.ads I) fI fun b o nb e=>hx b o nb e
  have l4:vX (fun b=>b∈K.ads I∨qL Θ.sc Γ.env b) τ (υ.hp h' tk):=l3.trans ⟨t4.mono fun b m=>.inl m,⟨rfl,rfl,rfl⟩⟩
  have nW:∀b∈K.ads I,¬qL Θ.sc Γ.env b:=fun b hb q=>nO b q.own hb
  refine rG (Γ:=Γ.at ρc) (σ:=υ.hp h' tk) ⟨o3.E,o3.f.moveP t4 nO,o3.A,S4⟩ ht hb' rw' fun s5 l5 o5=>?_
  refine hb (Γ.at ρ') ⟨υ.W,s5,υ.H⟩ R _ L r _ hl o5 (fun ρ2 φ l6 o6 hl=>?_) fun v w φ l6 S rv hl=>hR v w φ (up (l4.trans ((l5.trans l6).mono fun b m=>.inr m))) S rv hl
  have t6:=(l5.trans l6).t
  exact ⟨rest.length,Nat.lt_succ_self _,rest,ρ2,φ,rfl,rfl,l4.trans ((l5.trans l6).mono fun b m=>.inr m),o6,IK.move st t6.le (fun i hi=>(vZ hs i (it.g i hi)).symm) fun b hb o e=>t6.keep b o e (fI b hb).2.2 (nW b hb),fun b hb=>(fI b hb).move t6 (ha b hb) (nW b hb),fun b hb=>t6.alive b (ha b hb) (nW b hb),hl⟩
end
end
section
mutual
theorem RV.okV {W:Wd}:∀{v:V}{w:Value},RV W v w→v.ok W.φ.length=true
 |.none,_,_=>rfl
 |.bool _,_,_=>rfl
 |.int _,_,_=>rfl
 |.str _,_,_=>rfl
 |.tup xs,_,x=>by obtain ⟨a,vs,n,e,g,r⟩:=x;exact dK.okVs r
 |.lst xs,_,x=>by obtain ⟨a,vs,n,e,g,r⟩:=x;exact dK.okVs r
 |.dct _ ks vs,_,x=>by obtain ⟨a,rfl,es,n,m,o,r1,r2,r3,r4⟩:=x;exact aF.mpr ⟨dK.okVs r1,dK.okVs r2⟩
 |.ref i,_,x=>by refine dF x fun a e_e=>?_;clear x;subst e_e;intro g;exact aO (aS.mp g).1
theorem dK.okVs {W:Wd}:∀{v:List V}{w:List Value},dK W v w→V.oks W.φ.length v=true
 |[],_,_=>rfl
 |_::_,_,x=>dK.elim (P:=fun _=>_) x fun _ _ a b=>aF.mpr ⟨RV.okV a,dK.okVs b⟩
end
structure LU (n:Nat) (W W2:Wd):Prop where
 σ:∀b o,W.σ b=some o→W2.σ b=some o
 φ:∀i a,i<n→W.φ[i]? = some a→W2.φ[i]? = some a
 hk:W2.hk=W.hk
mutual
theorem RV.cut {n:Nat}{W W2:Wd}(h:LU n W W2):∀{v:V}{w:Value},v.ok n=true→RV W v w→RV W2 v w
 |.none,_,_,x=>x
 |.bool _,_,_,x=>x
 |.int _,_,_,x=>x
 |.str _,_,_,x=>x
 |.tup xs,_,ok,x=>by obtain ⟨a,vs,n,e,g,r⟩:=x;exact RV.tup ⟨a,vs,n,e,h.σ _ _ g,dK.cut h ok r⟩
 |.lst xs,_,ok,x=>by obtain ⟨a,vs,n,e,g,r⟩:=x;exact RV.lst ⟨a,vs,n,e,h.σ _ _ g,dK.cut h ok r⟩
 |.dct _ ks vs,_,ok,x=>by
  refine dF x fun a e_e d=>?_;subst e_e
  exact RV.dct (d.imp h.hk (fun _ r=>dK.cut h (aF.mp ok).1 r) (fun _ r=>dK.cut h (aF.mp ok).2 r) fun o g=>h.σ _ _ g)
 |.ref i,_,ok,x=>by refine dF x fun a e_e=>?_;clear x;subst e_e;intro g;exact RV.box (h.φ i a (bD ok) g)
theorem dK.cut {n:Nat}{W W2:Wd}(h:LU n W W2):∀{v:List V}{w:List Value},V.oks n v=true→dK W v w→dK W2 v w
 |[],_,_,x=>x
 |_::_,_,ok,x=>dK.elim x fun _ _ a b=>.cons (RV.cut h (aF.mp ok).1 a) (dK.cut h (aF.mp ok).2 b)
end
theorem dK.map {W W2:Wd}{f:V→Option V}(h:∀v v' w,f v=some v'→RV W v w→RV W2 v' w):∀{xs ys:List V}{ws:List Value},fF f xs=some ys→dK W xs ws→dK W2 ys ws
 |[],ys,_,e,r=>by obtain rfl:=aB e;exact r
 |x::xs,ys,_,e,r=>cV e fun y hy e=>dQ e fun ys' hys e=>by
  subst e
  exact dK.elim r fun _ _ a b=>.cons (h _ _ _ hy a) (dK.map h hys b)
theorem IR {H:Hp}{n:Nat}{v:V}(h:v.ok n=true):∀k,mD H n k v=some v
 |0=>by show gd (v.ok n) (some v)=_;refine rl h ?_;rfl
 |k+1=>by unfold mD;exact rl h rfl
theorem Nr {H:Hp}{n k:Nat}:∀{xs ys:List V},V.oks n xs=true→fF (mD H n k) xs=some ys→ys=xs
 |[],_,_,e=>by obtain rfl:=aB e;rfl
 |x::xs,ys,ok,e=>cV e fun y hy e=>dQ e fun ys' hys e=>by
  rw [IR (aF.mp ok).1] at hy
  obtain rfl:=aB hy
  exact rl e (rl (Nr (aF.mp ok).2 hys) rfl)
section
variable {X:Cx}{W W':Wd}{s s':Shared}{H H' H1:Hp}{v v':V}{w:Value}
theorem Qz {n:Nat}{W2:Wd}(hc:LU n W' W2) (S:SR X.B W' H1 s'.heap) (hd:∀i a o,n≤i→W'.φ[i]? = some a→s'.heap.get? a=some o→W2.σ a=some o) :
  ∀(k:Nat) (v v':V) (w:Value),mD H1 n k v=some v'→RV W' v w→RV W2 v' w:=by
 intro k
 induction k with
 |zero=>exact fun v v' w e r=>cZ e fun ok e=>by obtain rfl:=aB e;exact r.cut hc ok
 |succ k ih=>
  intro v v' w e r
  unfold mD at e
  cases ok:v.ok n with
  |true=>rw [ok] at e;obtain rfl:=aB e;exact r.cut hc ok
  |false=>
   rw [ok] at e
   cases v <;> first | exact tF ok;done | skip
   ·refine dQ e fun ys e1 e2=>?_
    subst e2
    obtain ⟨a,vs,m,e',g,q⟩:=r
    exact RV.tup ⟨a,vs,m,e',hc.σ _ _ g,q.map ih e1⟩
   ·refine cV e fun xs hx e=>dQ e fun ys e1 e2=>?_
    subst e2
    obtain rfl:=aB hx
    obtain ⟨a,vs,m,e',g,q⟩:=r
    exact RV.lst ⟨a,vs,m,e',hc.σ _ _ g,q.map ih e1⟩
   ·exact nS e
   ·rename_i i
    have hi:n≤i:=Nat.not_lt.mp (of_decide_eq_false ok)
    refine dF r fun a e_e=>?_;clear r;subst e_e;intro g
    refine cV e fun o ho e=>?_
    have x:=S.objs i o a ho g
    cases o <;> first | exact x.elim | skip
    ·refine cV (show (iZ _).bind _=_ from e) fun xs hx e=>dQ e fun ys e1 e2=>?_
     subst e2
     obtain rfl:=aB hx
     obtain ⟨us,m,ho,q⟩:=x
     exact RV.lst ⟨a,us,m,rfl,hd i a _ hi g ho,q.map ih e1⟩
    ·refine cZ (show gd _ _=_ from e) fun okk e=>dQ e fun ys e1 e2=>?_
     subst e2
     obtain ⟨es,m,nm,ho,q1,q2,q3,q4⟩:=x
     exact RV.dct ⟨es,m,nm,hd i a _ hi g ho.1,q1.cut hc okk,q2.map ih e1,by refine rl hc.hk ?_;exact q3,q4⟩
noncomputable def Kv (W':Wd) (n:Nat) (h:Heap) (keep:Addr→Prop):Wd where
 σ:=fun b=>open Classical in if keep b then none else if b∈W'.φ.drop n then h.get? b else W'.σ b
 φ:=W'.φ.take n
 hk:=W'.hk
theorem Wb {n:Nat}{h:Heap}{keep:Addr→Prop}{b:Addr}(hk:keep b):(Kv W' n h keep).σ b=none:=if_pos hk
theorem Wc {n:Nat}{h:Heap}{keep:Addr→Prop}{b:Addr}(hk:¬keep b) (hb:b∈W'.φ.drop n):(Kv W' n h keep).σ b=h.get? b:=(if_neg hk).trans (if_pos hb)
theorem Kw {n:Nat}{h:Heap}{keep:Addr→Prop}{b:Addr}(hk:¬keep b) (hb:b∉W'.φ.drop n):(Kv W' n h keep).σ b=W'.σ b:=(if_neg hk).trans (if_neg hb)
theorem Bj {n:Nat}:∀{H H1:Hp},rX n H H1=true→∀(i:Nat) (o o':V),H[i]? = some o→H1[i]? = some o'→o'=o∨o'.ok n=true
 |[],_,_,i,o,_,e,_=>by exact nS e
 |a::H,b,h,i,o,o',e,e'=>by
  cases b with
  |nil=>exact fT h
  |cons b H1=>
   obtain ⟨h1,h2⟩:=aF.mp h
   cases i with
   |zero=>
    obtain rfl:=aB e;cases e'
    exact (Bool.or_eq_true_iff.mp h1).imp_left bD
   |succ i=>exact Bj h2 i o o' e e'
theorem OR.okV {h:Heap}{a:Addr}(x:OR W h v a):v.ok W.φ.length=true:=by
 cases v <;> first | exact x.elim | skip
 ·obtain ⟨vs,n,g,r⟩:=x;exact r.okVs
 ·obtain ⟨es,n,m,g,r1,r2,r3,r4⟩:=x;exact aF.mpr ⟨r1.okVs,r2.okVs⟩
theorem OR.cut {n:Nat}{h:Heap}{a:Addr}(hc:LU n W W') (ok:v.ok n=true) (x:OR W h v a):OR W' h v a:=by
 cases v <;> first | exact x.elim | skip
 ·obtain ⟨vs,n,g,r⟩:=x;exact (⟨vs,n,g,r.cut hc ok⟩:kE ..)
 ·exact fJ.imp x hc.hk (fun _ r=>dK.cut hc (aF.mp ok).1 r) (fun _ r=>dK.cut hc (aF.mp ok).2 r) fun o g=>g
structure QN (X:Cx) (W W' W2:Wd) (H H1:Hp) (h h':Heap) (keep:Addr→Prop):Prop where
 t:Tr W W2 h h'
 S:SR X.B W2 (H1.take H.length) h'
 c:LU H.length W' W2
 d:∀i a o,H.length≤i→W'.φ[i]? = some a→¬keep a→h'.get? a=some o→W2.σ a=some o
 dis:∀b,b∈W'.φ.drop H.length→b∉W2.φ∧h.get? b=none
theorem Gl {n i:Nat}{l:List Addr}{a:Addr}(hi:n≤i) (e:l[i]? = some a):a∈l.drop n:=by
 refine ri (List.mem_iff_getElem?) ?_
 exact ⟨i-n,by refine rl (List.getElem?_drop) (rl (Nat.add_sub_cancel' hi) ?_);exact e⟩
theorem Bk {h h':Heap}(S₀:SR X.B W H h) (t:Tr W W' h h') (S:SR X.B W' H1 h') (hok:rX H.length H H1=true) (keep:Addr→Prop) (hkeep:∀b,keep b→b∈W'.φ.drop H.length) :
  QN X W W' (Kv W' H.length h' keep) H H1 h h' keep:=by
 have hn:W.φ.length=H.length:=S₀.len.symm
 have htake:W'.φ.take H.length=W.φ:=by
  obtain ⟨r,hr⟩:=t.le.bx
  rw [←hr,←hn,List.take_left']
  rfl
 have hsplit:W'.φ=W.φ++W'.φ.drop H.length:=by exact rr htake (rl (List.take_append_drop ..) rfl)
 have hdis:∀b,b∈W.φ→b∉W'.φ.drop H.length:=by
  have:=S.nodup
  rw [hsplit,cT] at this
  exact fun b hb hb'=>this.2.2 b hb b hb' rfl
 have hdmem:∀b,b∈W'.φ.drop H.length→b∈W'.φ:=fun b m=>List.mem_of_mem_drop m
 have cut:LU H.length W' (Kv W' H.length h' keep):=by
  refine ⟨fun b o e=>?_,fun i a hi e=>?_,rfl⟩
  ·have hb:b∉W'.φ.drop H.length:=fun m=>by rw [S.apart b (hdmem b m)] at e;exact nS e
   refine rl (Kw (fun q=>hb (hkeep b q)) hb) ?_;exact e
  ·show (W'.φ.take H.length)[i]? = some a
   refine rl (List.getElem?_take) (rl (if_pos hi) ?_);exact e
 have hcase:∀b o,(Kv W' H.length h' keep).σ b=some o→(b∈W'.φ.drop H.length∧h'.get? b=some o)∨W'.σ b=some o:=fun b o e=>by
  by_cases hk:keep b
  ·rw [Wb hk] at e;exact nS e
  ·by_cases hb:b∈W'.φ.drop H.length
   ·rw [Wc hk hb] at e;exact .inl ⟨hb,e⟩
   ·rw [Kw hk hb] at e;exact .inr e
 have hnew:∀b,b∈W'.φ.drop H.length→h.get? b=none:=fun b hb=>(t.nf b (hdmem b hb)).elim (fun q=>absurd hb (hdis b q)) id
 have hφ:∀b,b∈(Kv W' H.length h' keep).φ→b∈W.φ:=fun b m=>htake ▸ m
 refine ⟨⟨⟨fun b o e=>cut.σ b o (t.le.fz b o e),?_,t.le.hk⟩,t.keep,t.alive,fun b m=>.inl (hφ b m),fun b o e=>?_⟩,⟨S.base,fun b o e=>?_,fun b m=>?_,fun b m=>S.above b (List.mem_of_mem_take m),S.nodup.sublist (List.take_sublist _ _),?_,fun i o a e e'=>?_,S.hk⟩,cut,fun i a o hi e hk ho=>?_,fun b hb=>⟨fun m=>hdis b (hφ b m) hb,hnew b hb⟩⟩
 ·show W.φ <+: W'.φ.take H.length;refine rl htake ?_;exact List.prefix_refl _
 ·exact (hcase b o e).elim (fun q=>.inr (hnew b q.1)) (t.nz b o)
 ·exact (hcase b o e).elim (·.2) (S.froz b o)
 ·have m':=hφ b m
  refine rl (Kw (fun q=>hdis b m' (hkeep b q)) (hdis b m')) ?_
  exact S.apart b (by refine rl hsplit ?_;exact aY.mpr (.inl m'))
 ·show (H1.take H.length).length=(W'.φ.take H.length).length
  exact rl List.length_take (rl List.length_take (rl S.len rfl))
 ·have hi:i<H.length:=by
   have:=(aS.mp e).1
   rw [List.length_take] at this;exact aR this (Nat.min_le_left _ _)
  rw [List.getElem?_take,if_pos hi] at e
  have e2:W'.φ[i]? = some a:=by
   have:(W'.φ.take H.length)[i]? = some a:=e'
   rw [List.getElem?_take,if_pos hi] at this;exact this
  refine (S.objs i o a e e2).cut cut ?_
  rcases Bj hok i H[i] o (aP hi) e with q | q
  ·have e3:W.φ[i]? = some a:=by refine rr htake (rl (List.getElem?_take) (rl (if_pos hi) ?_));exact e2
   have y:=(S₀.objs i _ a (aP hi) e3).okV
   rw [←q,hn] at y
   exact y
  ·exact q
 ·refine rl (Wc hk (Gl hi e)) ?_;exact ho
theorem sM {σ τ:St}{r:V×Bool×Hp}(S₀:SR X.B σ.W σ.H σ.s.heap) (l:Le σ τ) (S:SR X.B τ.W τ.H τ.s.heap) (rv:RV τ.W v w) (e:finish σ.H τ.H v=some r) :
  (r.2.1=true→PL X σ r.2.2 r.1 w τ.s)∧PV X σ r.2.2 r.1 w τ.s:=cV e fun v' hv e1=>cZ e1 fun hok e2=>by
 obtain rfl:=aB e2
 clear e e1
 refine ⟨fun hfr=>?_,?_⟩
 ·cases v <;> first | exact fT hfr;done | skip
  rename_i i
  obtain ⟨hi,hfr⟩:=aF.mp (show (decide (σ.H.length≤i)&&_)=true from hfr)
  have hi:=bD hi
  refine dF rv fun a e_e=>?_;clear rv;subst e_e;intro g
  have hm:=Gl hi g
  have c:=Bk S₀ l.t S hok (fun b=>b=a) fun b e=>e ▸ hm
  unfold mD at hv
  rw [show (V.ref i).ok σ.H.length=false from aU (Nat.not_lt.mpr hi)] at hv
  refine cV hv fun o ho hv=>?_
  rw [ho] at hfr
  obtain ⟨hl,hoo⟩:=aF.mp hfr
  have x:=S.objs i o a ho g
  cases o <;> first | exact fT hl;done | skip
  refine cV (show (iZ _).bind _=_ from hv) fun xs hx e=>dQ e fun ys e1 e2=>?_
  obtain rfl:=aB hx
  rw [Nr hoo e1] at e2
  subst e2
  refine ⟨_,a,rfl,⟨c.t,l.q⟩,c.S,x.cut c.c hoo,Wb rfl,(c.dis a hm).1,(c.dis a hm).2⟩
 ·have c:=Bk S₀ l.t S hok (fun _=>False) fun b e=>e.elim
  exact ⟨_,⟨c.t,l.q⟩,c.S,Qz (s':=τ.s) c.c S (fun i a o hi g ho=>c.d i a o hi g id ho) 6 v _ w hv rv⟩
end
structure FnAt (X:Cx) (ps:List Str) (sc:Scope) (body:List Stmt) (fa:Addr) (fo:Obj) (fd:FuncData):Prop where
 at_:X.B.get? fa=some fo
 data:fo.data=.func fd
 code:X.B.hp.CodeRec fd.code fd.qualname
 body:fd.body=.stmts body
 closure:fd.closure=[]
 scope:fd.scope=sc
 globals:fd.globals=mainGlobals
 builtins:fd.builtins=builtinsNs
 binds:∀vals:List Value,vals.length=ps.length→bindArgs fd ⟨vals,[]⟩=pure (ps.zip vals)
structure BM (sc:Scope) (ps:List Str):Prop where
 kind:sc.kind=.function
 gen:sc.isGenerator=false
 co:sc.isCoroutine=false
 nodup:ps.Nodup
 tgt:∀x∈ps,sB sc x=true
 nofree:∀y∈sc.names,y.2≠.free
theorem BN {sc:Scope}{ps ns:List Str}(h:IJ sc ps ns=true):BM sc ps∧ps=ns.take ps.length:=by
 unfold IJ at h
 simp only [bU,Bool.not_eq_true',beq_iff_eq,bZ,bR] at h
 obtain ⟨⟨⟨⟨⟨⟨h1,h2⟩,h3⟩,h4⟩,h5⟩,h6⟩,h7⟩:=h
 exact ⟨⟨h1,h2,h3,by refine rl h5 ?_;exact h4.sublist (List.take_sublist _ _),h6,fun y hy e=>by have:=h7 y hy;rw [e] at this;exact tF this⟩,h5⟩
theorem lV:∀(names:List (Str×NameKind)) (n:Nat) (acc:List (Str×Addr)) (x:Str),(x,NameKind.cell)∈names∨(∃c,(x,c)∈acc)→∃c,(x,c)∈cellsFrom n names acc
 |[],_,_,_,h=>h.elim (fun m=>absurd m cE) id
 |(name,kind)::r,n,acc,x,h=>by
  unfold cellsFrom
  split
  ·refine lV r _ _ x ?_
   rcases h with h | ⟨c,h⟩
   ·rcases aZ.mp h with e | e
    ·cases e;exact .inr ⟨_,aH⟩
    ·exact .inl e
   ·exact .inr ⟨c,aT _ h⟩
  ·rename_i hk
   refine lV r _ _ x ?_
   rcases h with h | h
   ·rcases aZ.mp h with e | e
    ·cases e;exact absurd rfl hk
    ·exact .inl e
   ·exact .inr h
theorem Ai {β:Type}{l:List (Str×β)}{x:Str}(h:∃c,(x,c)∈l):∃c,l.lookup x=some c:=by
 induction l with
 |nil=>obtain ⟨c,h⟩:=h;cases h
 |cons p l ih=>
  obtain ⟨n,k⟩:=p
  refine rl List.lookup_cons ?_
  split
  ·exact ⟨k,rfl⟩
  ·rename_i hne
   refine ih ?_
   refine wT h fun c h=>?_
   rcases aZ.mp h with e | e
   ·cases e;rw [beq_self_eq_true] at hne;exact tF hne
   ·exact ⟨c,e⟩
theorem uZ {kf:Str→Option NameKind}{x:Str}:∀{binds:List (Str×Value)}{m:Str→Option Value},x∉binds.map (·.1)→bindL kf binds m x=m x
 |[],_,_=>rfl
 |(n,v)::r,m,h=>by
  rw [cQ,aZ,not_or] at h
  unfold bindL
  refine rl (uZ h.2) ?_
  split
  ·exact if_neg h.1
  ·rfl
theorem uA {kf:Str→Option NameKind}{x:Str}{w:Value}(hk:kf x=some .local):∀{binds:List (Str×Value)}{m:Str→Option Value},(binds.map (·.1)).Nodup→(x,w)∈binds→bindL kf binds m x=some w
 |(n,v)::r,m,hn,h=>by
  rw [cQ,cA] at hn
  unfold bindL
  rcases aZ.mp h with e | e
  ·obtain ⟨rfl,rfl⟩:=Prod.mk.inj e
   rw [uZ hn.1,if_pos hk];exact if_pos rfl
  ·exact uA hk hn.2 e
theorem vA {kf:Str→Option NameKind}{x:Str}:∀{binds:List (Str×Value)}{m:Str→Option Value},x∉binds.map (·.1)→bindC kf binds m x=m x
 |[],_,_=>rfl
 |(n,v)::r,m,h=>by
  rw [cQ,aZ,not_or] at h
  unfold bindC
  refine rl (vA h.2) ?_
  split
  ·rfl
  ·exact if_neg h.1
theorem Bl {kf:Str→Option NameKind}{x:Str}{w:Value}(hk:kf x=some .cell):∀{binds:List (Str×Value)}{m:Str→Option Value},(binds.map (·.1)).Nodup→(x,w)∈binds→bindC kf binds m x=some w
 |(n,v)::r,m,hn,h=>by
  rw [cQ,cA] at hn
  unfold bindC
  rcases aZ.mp h with e | e
  ·obtain ⟨rfl,rfl⟩:=Prod.mk.inj e
   rw [vA hn.1,if_neg (by refine rl hk ?_;exact nofun)];exact if_pos rfl
  ·exact Bl hk hn.2 e
theorem NR {Θ:Th}(hB:wZ Θ.X) {ps:List Str}{body:List Stmt}{fa:Addr}{fo:Obj}{fd:FuncData}(hF:FnAt Θ.X ps Θ.sc body fa fo fd) (hO:BM Θ.sc ps) {σ:St}{ρ:Loc}{A:Around}{ws:List Value}(hA:Up Θ.k A) (hd:A.depth+1+2*Θ.k<900) (hu:A.units+3+10*Θ.k<9000)
  (S:SR Θ.X.B σ.W σ.H σ.s.heap) (hwl:ws.length=ps.length) (hρ:∀y i u,iB Θ.ns y=some i→ρ[i]? = some (some u)→∃w,RV σ.W u w∧(y,w)∈ps.zip ws) {R:Result→Shared→Prop}
  (k:∀env s₁,Ok (Θ:=Θ) ⟨env,ρ,A.deeper env⟩ ⟨σ.W,s₁,σ.H⟩→(∀{τ:St},vX (qL Θ.sc env) ⟨σ.W,s₁,σ.H⟩ τ→Le σ τ)→(∃m,s₁.heap.Ns env.locals m∧∀y w,(y,w)∈ps.zip ws→env.kindOf y=some .local→m y=some w)→(∀b,Qc env b→σ.s.heap.get? b=none)→(∀y,env.kindOf y=Θ.sc.names.lookup y)→
   wpAny Θ.X.M (A.deeper env) (execs body env) (fun fl s'=>match fl with | .ret v=>R (.ok (.ret v)) s' | .next=>R (.ok (.ret .none)) s' | _=>False) fX s₁) :
  codeAny Θ.X.M A (.call (.ref fa) ⟨ws,[]⟩) R σ.s:=by
 have hlook:∀x,fd.scope.names.lookup x=Θ.sc.names.lookup x:=fun x=>by exact rl hF.scope rfl
 have hcell:∀L x,Θ.sc.names.lookup x=some .cell→∃c,(cellsFrom L fd.scope.names []).lookup x=some c:=fun L x e=>Ai (lV _ _ _ x (.inl (by refine rl hF.scope ?_;exact eK e)))
 have hk:∀x∈ps.zip ws,fd.scope.names.lookup x.1=some .local∨(fd.scope.names.lookup x.1=some .cell∧((cellsFrom (σ.s.heap.objs.size+1) fd.scope.names []).lookup x.1).isSome=true):=by
  rintro ⟨x,w⟩ hx
  have hxp:x∈ps:=(List.of_mem_zip hx).1
  rcases (lC (hO.tgt x hxp)).1 with e | e
  ·exact .inl ((hlook x).trans e)
  ·obtain ⟨c',hc'⟩:=hcell (σ.s.heap.objs.size+1) x e
   exact .inr ⟨(hlook x).trans e,by refine rl hc' ?_;rfl⟩
 refine codeAny_call_cells hA.room (S.base _ _ hF.at_) hF.data (hB.nolimit.keeps S.base) (hF.code.keeps S.base) hF.body (hF.binds ws hwl) hF.closure hk (fun s₁ x=>?_) (by refine rl hF.scope ?_;exact hO.co) (by refine rl hF.scope ?_;exact hO.gen) (by refine rl hF.scope ?_;exact hO.kind)
 generalize hL:σ.s.heap.objs.size=L at x
 generalize henv:callEnvC fd L fa=env at x ⊢
 have eloc:env.locals=L:=by refine rr henv ?_;rfl
 have ecel:env.cells=cellsFrom (L+1) fd.scope.names []:=by refine rr henv ?_;rfl
 have ekin:∀x,env.kindOf x=Θ.sc.names.lookup x:=fun x=>by refine rr henv (rr (hlook ..) ?_);rfl
 have esck:env.scope.kind=.function:=by refine rr henv ?_;show fd.scope.kind=_;refine rl hF.scope ?_;exact hO.kind
 have hnone:∀b,L≤b→σ.s.heap.get? b=none:=fun b hb=>by
  cases q:σ.s.heap.get? b with
  |none=>rfl
  |some o=>exact absurd (Heap.lt_size q) (Nat.not_lt.mpr (hL ▸ hb))
 have own:∀b,Qc env b→σ.s.heap.get? b=none:=by
  rintro b (rfl | ⟨y,hy⟩)
  ·exact hnone _ (by refine rl eloc ?_;exact aN _)
  ·exact hnone _ (cI (eloc ▸ x.above y b (eK hy)))
 have hE:Nh Θ.X Θ.sc env:=by
  refine ⟨hB,esck,by refine rr henv ?_;exact hF.globals,by refine rr henv ?_;exact hF.builtins,fun y hy=>(ekin y).trans (eq_of_beq (aF.mp hy).1),?_,fun y e=>(ekin y).trans e,fun y e=>?_,fun y e=>(ekin y).trans e,fun y e=>?_,fun a b c' ha hb=>?_,fun b ob=>?_⟩
  ·show (env.scope.kind == .module&&_)=false;refine rl esck ?_;rfl
  ·refine rl (ekin ..) ?_;exact e
  ·rcases e with e | e
   ·refine rl ecel ?_;exact hcell _ y e
   ·exact absurd rfl (hO.nofree _ (eK e))
  ·exact name_of_addr x.apart (eK ha) (eK hb)
  ·exact (iK.of_none S (own b ob)).1
 have keep:=x.toInCall.keep
 have S₁:SR Θ.X.B σ.W σ.H s₁.heap:=S.grow keep
 have hzip:(ps.zip ws).map (·.1)=ps:=by rw [List.map_fst_zip];exact A0 hwl
 have f₁:FR σ.W env Θ.ns Θ.sc ρ s₁.heap:=by
  refine ⟨fun y i u hy hi hu=>?_,fun b ob=>(iK.of_none S (own b ob)).2.2,fun b ob=>?_,⟨_,x.toInCall.ns⟩,fun y c' hc'=>⟨_,x.cell y c' hc'⟩,fun b ob=>(iK.of_none S (own b ob)).2.1⟩
  ·refine dF (hρ y i u hi hu) fun w rw' hmem=>?_
   refine ⟨w,rw',?_⟩
   rcases (lC (hO.tgt y (List.of_mem_zip hmem).1)).1 with e | e
   ·exact .inl ⟨(ekin y).trans e,_,x.toInCall.ns,uA ((ekin y).trans e) (by refine rl hzip ?_;exact hO.nodup) hmem⟩
   ·obtain ⟨c',hc'⟩:=hcell (L+1) y e
    have hc'':env.cells.lookup y=some c':=by refine rl ecel ?_;exact hc'
    have:=x.cell y c' hc''
    rw [Bl ((ekin y).trans e) (by refine rl hzip ?_;exact hO.nodup) hmem] at this
    exact .inr ⟨.inl ((ekin y).trans e),c',hc'',this⟩
  ·rcases ob with rfl | ⟨y,hy⟩
   ·refine AP x.toInCall.ns fun o _ _ e _=>?_;refine rl e ?_;exact cJ _
   ·refine dF (x.cell y b hy) fun o e _=>?_;refine rl e ?_;exact cJ _
 have hA':Up Θ.k (A.deeper env):=⟨hA.handled,hd,hu⟩
 have q₁:vI σ.s s₁:=by
  refine wU x.toInCall.same fun h₀ tk e=>?_
  refine rl e ?_;exact ⟨rfl,rfl,rfl⟩
 refine wpAny_mono (k env s₁ ⟨hE,f₁,hA',S₁⟩ (fun l=>⟨(Tr.grow keep).fresh l.t fun b ob=>own b ob.own,q₁.trans l.q⟩) ⟨_,x.toInCall.ns,fun y w hm hl=>uA hl (by refine rl hzip ?_;exact hO.nodup) hm⟩ own ekin) (fun fl s' p=>?_) fun _ _ x=>x.elim
 cases fl <;> first | exact p.elim | exact p
theorem Kx {Θ:Th}(hB:wZ Θ.X) {ps:List Str}{body:List Stmt}{cb:S}{fa:Addr}{fo:Obj}{fd:FuncData}(hF:FnAt Θ.X ps Θ.sc body fa fo fd) (hO:BM Θ.sc ps) (hpre:ps=Θ.ns.take ps.length) (hb:oS Θ body cb)
  {m:Nat}{σ:St}{args:List V}{r:V×Bool×Hp}(hlen:args.length=ps.length)
  (ev:dG Θ.c cb (args.map some++List.replicate m none) σ.H (fun _ H1=>finish σ.H H1 .none) (fun v H1=>finish σ.H H1 v)=some r)
  (A:Around) (ws:List Value) (hA:Up (Θ.k+1) A) (S:SR Θ.X.B σ.W σ.H σ.s.heap) (ra:dK σ.W args ws) :
  codeAny Θ.X.M A (.call (.ref fa) ⟨ws,[]⟩) (fun q s'=>∃w,q=.ok (.ret w)∧(r.2.1=true→PL Θ.X σ r.2.2 r.1 w s')∧PV Θ.X σ r.2.2 r.1 w s') σ.s:=by
 have hwl:ws.length=ps.length:=ra.length.symm.trans hlen
 have hd:=hA.depth
 have hu:=hA.units
 refine NR hB hF hO (ρ:=args.map some++List.replicate m none) ⟨hA.handled,by exact Nat.lt_of_succ_le (aD (Nat.le_succ _) (cI hd)),by exact aR (Nat.add_lt_add_left (Nat.lt_add_of_pos_right (by decide)) _) (cI hu)⟩ (by exact SM hd) (by exact PW hu) S hwl (fun y i u hi hu=>?_) fun env s₁ ok up _ _ _=>?_
 ·have hia:i<args.length:=by
   rcases Nat.lt_or_ge i args.length with h | h
   ·exact h
   ·rw [bO (by refine rl (aA ..) ?_;exact h),List.getElem?_replicate] at hu
    split at hu <;> (first | exact nS hu | cases hu)
  rw [bH (by refine rl (aA ..) ?_;exact hia),bG,aP hia] at hu
  have hu:args[i]=u:=aB (aB hu)
  refine dF (ra.get (i:=i) (x:=u) (by rw [aP hia,hu])) fun w hw rw'=>?_
  refine ⟨w,rw',List.mem_iff_getElem?.mpr ⟨i,List.getElem?_zip_eq_some.mpr ⟨?_,hw⟩⟩⟩
  have:=oR hi
  refine rl hpre (rl (List.getElem?_take) (rl (if_pos (by exact aR hia (bM hlen))) ?_));exact this
 ·refine wpAny_mono (hb ⟨env,args.map some++List.replicate m none,A.deeper env⟩ ⟨σ.W,s₁,σ.H⟩ _ _ _ r (fun fl s'=>∃w,(match fl with | .ret v=>w=v | .next=>w=Value.none | _=>False)∧(r.2.1=true→PL Θ.X σ r.2.2 r.1 w s')∧PV Θ.X σ r.2.2 r.1 w s') ev ok
   (fun ρ' τ l o ev=>⟨.none,rfl,sM S (up l) o.S RV.none ev⟩) fun v w τ l S2 rv ev=>⟨w,rfl,sM S (up l) S2 rv ev⟩) (fun fl s' p=>?_) fun _ _ x=>x.elim
  obtain ⟨w,e,p⟩:=p
  cases fl <;> first | exact e.elim | skip
  ·cases e;exact ⟨_,rfl,p⟩
  ·cases e;exact ⟨_,rfl,p⟩
end
section
noncomputable abbrev Gn (es:Array (Int×Value)) (ep:Nat) (t:SetTable):Obj:={ cls:=.type "set",dict:=none,data:=.set es ep t }
inductive rJ (prog:Program) (w:World) (b:Bool) (h:Heap) (a:Addr) (S:Str→Bool) (n:Nat):Prop
 |mk (es:Array (Int×Value)) (ep:Nat) (t:SetTable) (g:h.get? a=some (Gn es ep t)) (el:ElemsOf (strKind prog w) es.toList) (mem:∀k,S k=true↔∃e∈es.toList,(strKind prog w).is k e.2=true)
   (bd:es.size<scanBound) (fit:t.fits es.size=true) (sz:es.size=n) (led:t.led=b) (pl:n≠0→t.plain=false):rJ prog w b h a S n
theorem BO (t:SetTable) (es:Array (Int×Value)) (h:Int) (x:Value):(layNew t es h x).2.1.led=t.led:=by
 unfold layNew
 split
 ·show (SetTable.orStandIn _ _).led=_
  unfold SetTable.orStandIn
  split <;> rfl
 ·rfl
theorem Go (t:SetTable) (es:Array (Int×Value)) (k:Nat) (hp:t.plain=false):(relayAll t es k).2.1.led=t.led∧(relayAll t es k).2.1.plain=false:=by
 unfold relayAll
 split
 ·rename_i t' order h
  dsimp only
  split
  ·unfold SetTable.relaid SetTable.laid at h
   refine cV (show Option.bind _ _=_ from h) fun ow _ h=>?_
   obtain ⟨rfl,rfl⟩:=Prod.mk.inj (aB h)
   exact ⟨rfl,hp⟩
  ·exact ⟨rfl,rfl⟩
 ·exact ⟨rfl,rfl⟩
section
variable {prog:Program}{w:World}{A:Around}{E:Value→Shared→Prop}{s:Shared}{b:Bool}{a:Addr}{S:Str→Bool}{n:Nat}{k:Str}{t:Tok}{Q:Bool→Shared→Prop}
theorem Ky {es:Array (Int×Value)}{ep:Nat}{t:SetTable}:(Gn es ep t).ExactSet:=⟨rfl,rfl,rfl⟩
theorem We {h:Heap}{es es':Array (Int×Value)}{ep:Nat}{t t':SetTable}(g:h.get? a=some (Gn es ep t)):(h.update a (Obj.putSet es' t')).get? a=some (Gn es' (ep+1) t'):=by
 have:=Heap.get?_update_self (Obj.putSet es' t') g (by refine rl (putSet_of es' t' (o:=Gn es ep t) rfl) ?_;rfl)
 rw [putSet_of es' t' (o:=Gn es ep t) rfl] at this
 exact this
theorem BP (hS:rJ prog w b s.heap a S n) (hroom:n+1<scanBound)
  (h:∀h',Heap.SameBut a s.heap h'→rJ prog w b h' a (fun k'=>S k'||decide (k'=k)) (if S k then n else n+1)→Q (!S k) { s with heap:=h' }) :
  wpAny (model prog w) A (setAddHashed a (.str k t) ((strKind prog w).hash k)) Q E s:=by
 have hkey:(strKind prog w).is k (.str k t)=true:=by simp [strKind,Value.isStrOf]
 obtain ⟨es,ep,tb,ho,hel,hmem,hb,hf,hn,hl,hpl⟩:=hS
 unfold setAddHashed setAddHashedIn
 refine bS (aC (wpAny_setState_of ho rfl hf ?_))
 dsimp only
 refine rl (byScan_of rfl hb hel) (rl (if_pos rfl) ?_)
 unfold setAddByScan
 refine aC (aC (wpAny_rule (aC (wpAny_setScan_of hkey ho rfl hf hel ?_))))
 cases hr:List.findIdx? (fun e=>(strKind prog w).is k e.2) es.toList with
 |some j=>
  refine dF (List.findIdx?_eq_some_iff_getElem.mp hr) fun hj hpj _=>?_
  have hSk:S k=true:=(hmem k).mpr ⟨es.toList[j],cM hj,hpj⟩
  have e:s={ s with heap:=s.heap }:=by cases s;rfl
  have hS':rJ prog w b s.heap a (fun k'=>S k'||decide (k'=k)) n:=⟨es,ep,tb,ho,hel,fun k'=>by
   refine rl (Bool.or_eq_true ..) (rl bZ (rj (hmem k') ?_))
   exact ⟨fun hk=>hk.elim id fun e=>e ▸ hSk,.inl⟩,hb,hf,hn,hl,hpl⟩
  have:=h s.heap (Heap.SameBut.refl a s.heap) (by refine rl hSk ?_;exact hS')
  rw [hSk] at this
  exact aK (aK (e ▸ this))
 |none=>
  have hSk:S k=false:=by
   cases hk:S k with
   |false=>rfl
   |true=>
    refine dF ((hmem k).mp hk) fun e he hp=>?_
    have:=List.findIdx?_eq_none_iff.mp hr e he
    rw [hp] at this;exact tF this
  have hperm:=layNew_perm tb es ((strKind prog w).hash k) (.str k t)
  have hfits:=layNew_fits tb es ((strKind prog w).hash k) (.str k t)
  have hled:=BO tb es ((strKind prog w).hash k) (.str k t)
  dsimp only
  generalize layNew tb es ((strKind prog w).hash k) (.str k t)=L at hperm hfits hled ⊢
  obtain ⟨es1,t1,wasDummy,gave⟩:=L
  dsimp only at hperm hfits hled ⊢
  rw [Array.toList_push] at hperm
  have hel1:ElemsOf (strKind prog w) es1.toList:=(hel.push hkey rfl).perm hperm
  have hmem1:∀k',(S k'||decide (k'=k))=true↔∃e∈es1.toList,(strKind prog w).is k' e.2=true:=mem_push_iff hkey hmem hperm
  have hsz1:es1.size=n+1:=by refine rr cB (rl hperm.length_eq (rl aE (rl cB (rl hn ?_))));rfl
  have hb1:es1.size<scanBound:=hsz1 ▸ hroom
  have gw:∀(b:Bool) {s₁:Shared}{Q':Unit→Shared→Prop},Q' () s₁→wpAny (model prog w) A (match b with | true=>rule "set.scan.the-table-gave-way" | false=>pure ()) Q' E s₁:=
   fun b s₁ Q' hq=>by cases b <;> first | exact aK hq | exact wpAny_rule hq
  refine aC (gw _ ?_)
  have fin:∀{t2:SetTable},t2.fits es1.size=true→t2.led=b→t2.plain=false→wpAny (model prog w) A (do
     storeSet a es1 t2
     if (!wasDummy&&t2.tooFull)=true then do
      (match (relayAll t2 es1 (SetTable.grown es1.size)).2.2 with | true=>rule "set.scan.the-table-gave-way" | false=>pure ())
      storeSet a (relayAll t2 es1 (SetTable.grown es1.size)).1 (relayAll t2 es1 (SetTable.grown es1.size)).2.1
      pure (some true)
     else pure (some true)) (fun r s'=>wpAny (model prog w) A (match r with | some r=>pure r | none=>setAddHashedIn a (.str k t) ((strKind prog w).hash k) 99999) Q E s') E s:=by
   intro t2 f2 l2 p2
   have hend:∀h',Heap.SameBut a s.heap h'→rJ prog w b h' a (fun k'=>S k'||decide (k'=k)) (n+1)→Q true { s with heap:=h' }:=by
    intro h' hsb hS';have:=h h' hsb;rw [hSk] at this;exact this hS'
   refine aC (wpAny_storeSet_of ho rfl ?_ (fits_of_scanBound hb1))
   have ho1:=We (es':=es1) (t':=t2) ho
   have hsb1:=cL s.heap a (Obj.putSet es1 t2)
   split
   ·have hp:=relayAll_perm t2 es1 (SetTable.grown es1.size)
    have hfr:=relayAll_fits t2 es1 (SetTable.grown es1.size)
    refine Tq (Go t2 es1 (SetTable.grown es1.size) p2) fun m1 m2=>?_
    generalize relayAll t2 es1 (SetTable.grown es1.size)=Rl at hp hfr m1 m2 ⊢
    obtain ⟨es2,t3,gave2⟩:=Rl
    dsimp only at hp hfr m1 m2 ⊢
    have hsz:es2.size=es1.size:=by exact rr cB (rl hp.length_eq (rl cB rfl))
    refine aC (gw _ (aC (wpAny_storeSet_of ho1 rfl ?_ (fits_of_scanBound (hsz ▸ hb1)))))
    exact aK (aK (hend _ (hsb1.trans (cL _ a _)) ⟨es2,_,t3,We ho1,hel1.perm hp,fun k'=>(hmem1 k').trans ⟨fun ⟨e,he,q⟩=>⟨e,hp.mem_iff.mpr he,q⟩,fun ⟨e,he,q⟩=>⟨e,hp.mem_iff.mp he,q⟩⟩,hsz ▸ hb1,hfr,hsz.trans hsz1,m1.trans l2,fun _=>m2⟩))
   ·exact aK (aK (hend _ hsb1 ⟨es1,_,t2,ho1,hel1,hmem1,hb1,f2,hsz1,l2,fun _=>p2⟩))
  split
  ·rename_i hp1
   refine aC ?_
   refine rl (hashByValue_scannable 8 rfl) ?_
   refine aK ?_
   exact fin (t2:={ t1 with plain:=false }) (SetTable.fits_plain_off hfits) (hled.trans hl) rfl
  ·rename_i hp1
   refine aC (aK ?_)
   refine rl (if_pos rfl) ?_
   exact fin hfits (hled.trans hl) (by cases hq:t1.plain with | false=>rfl | true=>exact absurd hq hp1)
end
end
section
open PySem PySem.Spec
set_option maxRecDepth 100000
theorem BQ {prog:Program}{w:World}(x:Str) (t:Tok):(strKind prog w).is x (.str x t)=true:=by simp [strKind,Value.isStrOf]
noncomputable def fM (val:Nat→Str) (i:Nat):List Str:=((List.range i).map val).foldl Ad []
theorem lE (val:Nat→Str) (i:Nat):fM val (i+1)=Ad (fM val i) (val i):=by
 unfold fM;refine rl List.range_succ (rl aM (rl List.foldl_append ?_));rfl
theorem sN (val:Nat→Str):∀i,(fM val i).length≤i
 |0=>aN _
 |i+1=>by
  refine rl (lE ..) ?_;unfold Ad
  have ih:=sN val i
  split
  ·exact Nat.le_add_right_of_le ih
  ·refine rl aE (rl List.length_singleton ?_);exact cU ih
theorem BR (σ:List Str) (v k:Str):(Ad σ v).any (· == k)=(σ.any (· == k)||decide (k=v)):=by
 unfold Ad
 by_cases h:σ.any (· == v)=true
 ·refine rl (if_pos h) ?_
  by_cases e:k=v
  ·subst e;refine rl h ?_;simp
  ·simp [e]
 ·refine rl (if_neg h) (rl List.any_append ?_)
  by_cases e:k=v
  ·subst e;simp
  ·have hb:(v == k)=false:=by simpa [beq_iff_eq] using (fun h':v=k=>e h'.symm)
   simp [hb,e]
theorem Kz (σ:List Str) (v:Str):(Ad σ v).length=if σ.any (· == v) then σ.length else σ.length+1:=by
 unfold Ad;split <;> simp
theorem Nt:∀{vs:List Value}{ns:List Str},PyProof.Rows.StrsAre vs ns→∀(i:Nat) (v:Value),vs[i]? = some v→∃t,v=.str (ns.getD i Str.empty) t
 |_,_,.nil,i,v,h=>by simp at h
 |_,_,.cons n t hr,0,v,h=>by simp at h;exact ⟨t,by refine rr h ?_;rfl⟩
 |_,_,.cons n t hr,i+1,v,h=>by
  simp only [List.getElem?_cons_succ] at h
  obtain ⟨t',e⟩:=Nt hr i v h
  exact ⟨t',by refine rl e ?_;rfl⟩
section
variable {prog:Program}{w:World}{A:Around}{R:Result→Shared→Prop}{I:Addr}{fp wr:List Addr}{G:Array GenState→Array GenState→Prop}{n:Nat}{P:Nat→Value→Prop}{St:Nat→Shared→Prop}
theorem rJ.keep {b:Bool}{h h':Heap}{a:Addr}{S:Str→Bool}{n:Nat}(x:rJ prog w b h a S n) (k:∀o,h.get? a=some o→h'.get? a=some o):rJ prog w b h' a S n:=by
 obtain ⟨es,ep,t,g,r1,r2,r3,r4,r5,r6,r7⟩:=x
 exact ⟨es,ep,t,k _ g,r1,r2,r3,r4,r5,r6,r7⟩
theorem rJ.congr {b:Bool}{h:Heap}{a:Addr}{S S':Str→Bool}{n n':Nat}(x:rJ prog w b h a S n) (e:∀k,S' k=S k) (en:n'=n):rJ prog w b h a S' n':=by
 refine rl en (rl (show S'=S from funext e) ?_);exact x
theorem Ra {b:Bool}(W:WalksS prog w A.in1 I fp wr G n P St) (S:Addr) (hSf:S∉fp)
  (val:Nat→Str) (hval:∀i v,P i v→∃t,v=.str (val i) t) (hb:n+1<scanBound) :
  ∀(k i:Nat) (s:Shared),n-i=k→i≤n→St i s→
   rJ prog w b s.heap S (fun k'=>(fM val i).any (· == k')) (fM val i).length→
   (∀s',Moved (S::wr) G s s'→rJ prog w b s'.heap S (fun k'=>(fM val n).any (· == k')) (fM val n).length→R (.ok (.ret .none)) s')→
   codeAny (model prog w) A (.builtin "set.update.loop" ⟨[.ref S,.ref I],[]⟩) R s:=by
 have hSw:S∉wr:=fun h=>hSf (W.sub _ h)
 have hsub:∀b∈wr,b∈S::wr:=fun b hb=>aT _ hb
 intro k
 induction k with
 |zero=>
  intro i s hk hi hst hS hR
  have hin:i=n:=Nat.le_antisymm hi (Nat.le_of_sub_eq_zero hk)
  subst hin
  refine codeAny_builtin PyProof.Rows.F.entry_set_update_loop ?_
  refine rl (Around.under_plainId PyProof.Rows.F.plain_set_update_loop _) ?_
  show wpAny _ A.in1 (pyNext (.ref I) >>= _) _ _ s
  refine aC (W.done s _ _ hst fun s' hm=>?_)
  show wpAny _ A.in1 (ret Value.none) _ _ s'
  exact aK (hR s' (hm.mono hsub) (hS.keep fun o=>hm.heap S o hSw))
 |succ k ih=>
  intro i s hk hi hst hS hR
  have hlt:i<n:=Nat.lt_of_sub_pos (hk ▸ Nat.succ_pos k)
  refine codeAny_builtin PyProof.Rows.F.entry_set_update_loop ?_
  refine rl (Around.under_plainId PyProof.Rows.F.plain_set_update_loop _) ?_
  show wpAny _ A.in1 (pyNext (.ref I) >>= _) _ _ s
  refine aC (W.item i s _ _ hlt hst fun v s' hP hst' hm=>?_)
  obtain ⟨t,rfl⟩:=hval i v hP
  show wpAny _ A.in1 (holding [Value.str (val i) t] (setAdd S (.str (val i) t)) >>= _) _ _ s'
  refine aC (bS ?_)
  unfold setAdd
  refine bS ?_
  refine aC ((strKind prog w).pyHash (k:=val i) (BQ _ _) ?_)
  have hroom:(fM val i).length+1<scanBound:=by have:=sN val i;exact aR (Nat.add_lt_add_right (cR this hlt) _) (cI hb)
  refine BP (s:={ s' with toks:=s'.toks+1 }) (hS.keep fun o=>hm.heap S o hSw) hroom fun h' hsb hS2=>?_
  refine aK ⟨plainId_quiet PyProof.Rows.F.plain_set_update_loop _,ih (i+1) _ ((Nat.sub_succ n i).trans (aQ Nat.pred hk)) hlt (W.frame _ s' _ _ hst' (Nat.le_succ _) fun b hb o e=>?_) (hS2.congr (fun k'=>by exact rl (lE ..) (rl (BR ..) rfl)) (by exact rl (lE ..) (rl (Kz ..) rfl))) fun s'' hm'' hS''=>?_⟩
  ·rw [hsb.2 b (fun h:b=S=>hSf (by refine rr h ?_;exact hb))];exact e
  ·refine hR s'' (Moved.trans W.gtrans ((hm.mono hsub).then_heap (Nat.le_succ _) fun b o hb e=>?_) hm'') hS''
   rw [hsb.2 b (fun h:b=S=>hb (by refine rl h ?_;exact aH))];exact e
end
section
variable {prog:Program}{w:World}{A:Around}{E:Value→Shared→Prop}{s:Shared}
noncomputable abbrev Gp (w:World):Bool:=!w.params.followText "set-order"
theorem code_set_new (a:Value) {Q₁:Value→Shared→Prop}(h:Q₁ (.ref s.heap.objs.size) { s with heap:=s.heap.push (Gn #[] 0 (.fresh 0 0 (Gp w))) }) :
  codeAny (model prog w) A (.call (.builtin "set.__new__") ⟨[.type "set",a],[]⟩) (wants Q₁ E) s:=by
 refine codeAny_of_tree ?_
 show wpAny _ A.in1 (do checkBuiltinCall "set.__new__" ⟨[.type "set",a],[]⟩;again (.builtin "set.__new__" ⟨[.type "set",a],[]⟩)) _ _ s
 refine aC (wpAny_of_eq (F.newCall_set_1 a) (aK ⟨plainId_quiet F.plain_set_new _,codeAny_builtin F.entry_set_new ?_⟩))
 refine rl (Around.under_plainId F.plain_set_new _) ?_
 unfold Builtin.«set.__new__» Builtin.Frozenset.newClass
 have hsub:=sub_set_self
 obtain ⟨hp,g,d,tk,os⟩:=s
 dsimp only
 wp_walk
 refine wpAny_askSetting (aK ?_)
 dsimp only
 simp only [newObj]
 exact aC (wpAny_alloc (aK (aK h)))
set_option maxHeartbeats 3200000 in
theorem Aj {l:Addr}{items:Array Value}{ns:List Str}{Q:Value→Shared→Prop}
  (hh:A.handled=none) (hl:s.heap.IsList l items) (hi:PyProof.Rows.StrsAre items.toList ns) (hb:items.size+1<scanBound)
  (h:∀(h':Heap) (tk:Nat),rJ prog w (Gp w) h' s.heap.objs.size (fun k'=>(fM (fun i=>ns.getD i Str.empty) items.size).any (· == k')) (fM (fun i=>ns.getD i Str.empty) items.size).length→
   (∀b o,b<s.heap.objs.size→s.heap.get? b=some o→h'.get? b=some o)→Q (.ref s.heap.objs.size) { s with heap:=h',toks:=tk }) :
  wpAny (model prog w) A (call (.type "set") [.ref l]) Q E s:=by
 refine wU F.called_set.mro fun c tl hmro=>?_
 have hmade:=F.called_set.made
 have hsub:=F.called_set.sub
 refine wpAny_call (codeAny_of_tree ?_)
 show wpAny _ _ (callAny (.type "set") _) _ _ _
 refine aK ⟨Code.quiet_builtin _ (by decide +kernel),codeAny_builtin F.entry_type_call ?_⟩
 refine rl (Around.under_plain (weight_type_call_type "set" [.ref l] []) rfl) ?_
 have h1:=F.called_set.notType
 have h2:=F.called_set.canCreate
 have hct:=F.typeCall_set_1 (.ref l)
 repeat (any_goals (first | assumption | wp_step))
 refine codeAny_mono (code_set_new (.ref l) (E:=E) (Q₁:=fun obj s₁=>obj=.ref s.heap.objs.size∧s₁={ s with heap:=s.heap.push (Gn #[] 0 (.fresh 0 0 (Gp w))) }) ⟨rfl,rfl⟩) fun r s₁ hr=>?_
 cases r with
 |error e=>exact hr
 |ok fl=>
  cases fl with
  |ret obj=>
   refine Tq hr fun e_e=>?_;clear hr;subst e_e;intro e_e;subst e_e
   generalize hled:Gp w=led
   have hS:(s.heap.push { cls:=.type "set",dict:=none,data:=.set #[] 0 (.fresh 0 0 led) }).get? s.heap.objs.size=some { cls:=.type "set",dict:=none,data:=.set #[] 0 (.fresh 0 0 led) }:=bQ _ rfl
   have hT:Shared.TypeIs { s with heap:=s.heap.push { cls:=.type "set",dict:=none,data:=.set #[] 0 (.fresh 0 0 led) } } (.ref s.heap.objs.size) "set":=⟨_,hS,rfl⟩
   have hli:=F.called_set.init.lookup
   have hbi:=F.called_set.init.bind (.ref s.heap.objs.size)
   repeat (any_goals (first | assumption | wp_step))
   refine codeAny_mono (codeAny_call_builtin (R:=wants (fun r s₂=>r=.none∧∃h' tk,s₂={ s with heap:=h',toks:=tk }∧
     rJ prog w (Gp w) h' s.heap.objs.size (fun k'=>(fM (fun i=>ns.getD i Str.empty) items.size).any (· == k')) (fM (fun i=>ns.getD i Str.empty) items.size).length∧
     (∀b o,b<s.heap.objs.size→s.heap.get? b=some o→h'.get? b=some o)) E) F.called_set.init.plain F.entry_set_init (check_set_init_1 hT ?_)) fun r₂ s₂ hr₂=>?_
   ·obtain ⟨ol,hol,hcl,nl,hdl⟩:=hl
    obtain ⟨ocls,odict,odata,oslots⟩:=ol
    simp only at hcl hdl
    subst hcl;subst hdl
    have hol':(s.heap.push { cls:=.type "set",dict:=none,data:=.set #[] 0 (.fresh 0 0 led) }).get? l=some { cls:=.type "list",dict:=odict,data:=.seq items nl,slots:=oslots }:=bB _ hol
    have hsls:=F.sub_list_set
    have hslf:=F.sub_list_frozenset
    have hne:(Value.type "list" == Value.type "dict")=false:=by decide
    have hl1:(s.heap.push { cls:=.type "set",dict:=none,data:=.set #[] 0 (.fresh 0 0 led) }).IsList l items:=⟨_,hol',rfl,nl,rfl⟩
    unfold Builtin.«set.__init__» noKeywords Builtin.Frozenset.updateFrom
    generalize hPI:pyIter=PI
    wp_walk
    subst hPI
    refine wpAny_pyIter_list hl1 ?_
    refine aC (wpAny_runValue ?_)
    have hlS:l<s.heap.objs.size:=Heap.lt_size hol
    have hh3:A.in1.in1.in1.handled=none:=by simp [hh]
    have hneI:l≠(s.heap.push { cls:=.type "set",dict:=none,data:=.set #[] 0 (.fresh 0 0 led) }).objs.size:=by
     refine rl (Heap.size_push ..) ?_;exact Nat.ne_of_lt (Nat.lt_succ_of_lt hlS)
    have hSf:s.heap.objs.size∉[(s.heap.push { cls:=.type "set",dict:=none,data:=.set #[] 0 (.fresh 0 0 led) }).objs.size,l]:=by
     refine rl (Heap.size_push ..) ?_;simp only [aZ,aG,cE,or_false,not_or]
     exact ⟨Nat.ne_of_lt (Nat.lt_succ_self _),Nat.ne_of_gt hlS⟩
    have hval:∀(i:Nat) (v:Value),items[i]? = some v→∃t,v=.str ((fun i=>ns.getD i Str.empty) i) t:=fun i v hv=>
     Nt hi i v (by refine rl (cF) ?_;exact hv)
    refine Ra (b:=led) ((Walks.list hh3 _ l hneI items).toS) s.heap.objs.size
     hSf (fun i=>ns.getD i Str.empty) hval hb (items.size-0) 0 _ (by exact Nat.le_antisymm (aN _) (aN _)) (aX _)
     ⟨⟨_,bQ _ rfl,rfl,rfl⟩,(hl1.push _)⟩ ?hS0 ?hR
    case hS0=>
     have hget:((s.heap.push { cls:=.type "set",dict:=none,data:=.set #[] 0 (.fresh 0 0 led) }).push { cls:=.type "list_iterator",data:=.fields #[.ref l,.int 0 0] }).get? s.heap.objs.size
       = some { cls:=.type "set",dict:=none,data:=.set #[] 0 (.fresh 0 0 led) }:=bB _ hS
     exact ⟨#[],0,_,hget,fun e he=>absurd he cE,fun k=>⟨fun h=>(by exact fT h),fun ⟨e,he,_⟩=>absurd he cE⟩,by unfold scanBound;decide,rfl,rfl,rfl,fun h=>absurd rfl h⟩
    case hR=>
     intro s' hm hS'
     obtain ⟨h',g',d',tk',os'⟩:=s'
     have eg:g'=s.gens:=hm.gens
     have ed:d'=s.drawn:=hm.drawn
     have eo:os'=s.os:=hm.os
     subst eg;subst ed;subst eo
     show wpAny _ _ _ _ _ _
     refine aK ?_
     show wpAny _ _ (ret Value.none) _ _ _
     refine aK ⟨rfl,h',tk',rfl,(by refine rl hled ?_;exact hS'),fun b o hb e=>?_⟩
     have hb1:b≠s.heap.objs.size:=Nat.ne_of_lt hb
     have hb2:b≠(s.heap.push { cls:=.type "set",dict:=none,data:=.set #[] 0 (.fresh 0 0 led) }).objs.size:=by
      refine rl (Heap.size_push ..) ?_;exact Nat.ne_of_lt (Nat.lt_succ_of_lt hb)
     exact hm.heap b o (by simp only [aZ,aG,cE,or_false,not_or];exact ⟨hb1,hb2⟩) (bB _ (bB _ e))
   ·cases r₂ with
    |error e=>exact hr₂
    |ok fl₂=>
     cases fl₂ with
     |ret r=>
      obtain ⟨rfl,h',tk,rfl,hS',hk'⟩:=hr₂
      repeat (any_goals (first | assumption | wp_step))
      exact h _ _ hS' hk'
     |_=>exact hr₂.elim
  |_=>exact hr.elim
end
end
section
open PySem PySem.W PyProof.Rows
section
variable {prog:Program}{w:World}{A:Around}{E:Value→Shared→Prop}{s:Shared}
theorem Ak {a:Addr}{vs:List Value}{n:Nat}{P:PySem.Fin→Shared→Prop}{κ:SortKind}{ans:Nat→Nat→Bool}(ho:s.heap.get? a=some (seqObj "list" vs.toArray n)) (h2:2≤vs.length) (h64:vs.length<64)
  (hkind:∀h' (Q:SortKind→Shared→Prop),(∀b o,b≠a→s.heap.get? b=some o→h'.get? b=some o)→Q κ { s with heap:=h' }→wpAny (model prog w) A (keyKind' vs.toArray) Q (fun _ _=>False) { s with heap:=h' })
  (hask:∀h' i j tk (C:Bool→Shared→Prop),i<vs.length→j<vs.length→(∀b o,b≠a→s.heap.get? b=some o→h'.get? b=some o)→(∀tk',C (ans i j) { s with heap:=h',toks:=tk' })→kas_ask prog w A κ vs i j C { s with heap:=h',toks:=tk })
  (hP:∀h' c tk,(∀b o,b≠a→s.heap.get? b=some o→h'.get? b=some o)→h'.get? a=some (seqObj "list" (List.toArray ((mC ans (kas_sort vs.length)).toList.map fun i=>vs.getD i Value.none)) c)→P (.done (.ret .none)) { s with heap:=h',toks:=tk }) :
  wpAny (model prog w) A (Builtin.«list.sort» ⟨[.ref a],[]⟩) P E s:=by
 have s1:=cL s.heap a (Obj.mapSeq fun _=>(#[]:Array Value))
 obtain ⟨e1,ho1⟩:∃e1,(s.heap.update a (Obj.mapSeq fun _=>(#[]:Array Value))).get? a=some (seqObj "list" #[] e1):=⟨_,get?_update_seq ho fun _=>#[]⟩
 generalize hH:((s.heap.update a (Obj.mapSeq fun _=>(#[]:Array Value))).push (seqObj "tuple" vs.toArray 0)).push (seqObj "list" #[] 0)=h1
 have k1:∀b o,b≠a→s.heap.get? b=some o→h1.get? b=some o:=fun b o nb e=>by
  refine rr hH ?_;exact bB _ (bB _ (s1.extBut b o nb e))
 have a1:h1.get? a=some (seqObj "list" #[] e1):=by refine rr hH ?_;exact bB _ (bB _ ho1)
 refine rl (list_sort_plain ..) ?_
 refine aC (listItems_at ho rfl ?_)
 refine aC (listUpdate_at ho rfl ?_ (by refine rl List.size_toArray (rl sizeLine_eq ?_);exact L1 (N4 h64)) (aX _))
 refine aC (seqEpoch_at ho1 rfl ?_)
 refine aC (wpAny_newTuple ?_ (by show vs.length≤_;refine rl sizeLine_eq ?_;exact L1 (N4 h64)))
 refine aC (wpAny_newList ?_ (aX _))
 refine bS ?_
 show wpAny (model prog w) A _ P E { s with heap:=((s.heap.update a (Obj.mapSeq fun _=>(#[]:Array Value))).push (seqObj "tuple" vs.toArray 0)).push (seqObj "list" #[] 0) }
 refine rl hH ?_
 dsimp only
 have hn2:¬vs.toArray.size<2:=by refine rl List.size_toArray ?_;exact SN h2
 refine rl (if_neg hn2) (rl (if_neg hn2) ?_)
 refine aC (wpAny_mono (hkind h1 (fun κ' s'=>κ'=κ∧s'={ s with heap:=h1 }) k1 ⟨rfl,rfl⟩) (fun κ' s0 hk=>?_) fun _ _ x=>x.elim)
 obtain ⟨rfl,rfl⟩:=hk
 refine aC (wpAny_mono (kat_run (Q:=fun st' s'=>∃p:Array Nat,∃tk,p.size=vs.length∧arrOf st'=p.map (kas_item (vs.toArray.zip vs.toArray))∧failedOf st'=none∧p=mC ans (kas_sort vs.length)∧s'={ s with heap:=h1,toks:=tk })
  (G:=fun p s'=>p=mC ans (kas_sort vs.length)∧∃tk,s'={ s with heap:=h1,toks:=tk })
  rfl h2 h64 (fun p' st' s' a1 a2 a3 a4=>⟨p',a4.2.choose,a1,a2,a3,a4.1,a4.2.choose_spec⟩)
  (Fp (s:={ s with heap:=h1 }) (ans:=ans) (fun i j tk C hi hj hC=>hask h1 i j tk C hi hj k1 hC) _ s.toks _ (Fo (by exact N3 h2)) fun tk'=>⟨rfl,tk',rfl⟩)) ?_ fun _ _ e=>e)
 rintro ⟨⟨⟩,st'⟩ s' ⟨p,tk,hp,har,hf,rfl,rfl⟩
 dsimp only
 have hout:=kat_snds rfl har
 have hsz:(List.toArray ((mC ans (kas_sort vs.length)).toList.map fun i=>vs.getD i Value.none)).size=vs.length:=by exact rl List.size_toArray (rl (aA ..) (rl cB (rl hp rfl)))
 refine rl hout ?_
 have s2:=cL h1 a (Obj.mapSeq fun _=>List.toArray ((mC ans (kas_sort vs.length)).toList.map fun i=>vs.getD i Value.none))
 obtain ⟨c2,hc2⟩:∃c2,(h1.update a (Obj.mapSeq fun _=>List.toArray ((mC ans (kas_sort vs.length)).toList.map fun i=>vs.getD i Value.none))).get? a=some (seqObj "list" (List.toArray ((mC ans (kas_sort vs.length)).toList.map fun i=>vs.getD i Value.none)) c2):=⟨_,get?_update_seq a1 fun _=>List.toArray ((mC ans (kas_sort vs.length)).toList.map fun i=>vs.getD i Value.none)⟩
 refine aC (seqEpoch_at a1 rfl ?_)
 refine aC (listUpdate_at a1 rfl ?_ (aX _) (aD (bM hsz) (by refine rl sizeLine_eq ?_;exact L1 (N4 h64))))
 refine rl hf ?_
 simp only [bne_self_eq_false,Bool.false_eq_true,if_false]
 exact aK (hP _ c2 tk (fun b o nb e=>(s2.2 b nb).trans (k1 b o nb e)) hc2)
theorem vK {a:Addr}{vs:List Value}{n:Nat}{P:PySem.Fin→Shared→Prop}(ho:s.heap.get? a=some (seqObj "list" vs.toArray n)) (h2:vs.length<2)
  (hP:∀h' c tk,(∀b o,b≠a→s.heap.get? b=some o→h'.get? b=some o)→h'.get? a=some (seqObj "list" vs.toArray c)→P (.done (.ret .none)) { s with heap:=h',toks:=tk }) :
  wpAny (model prog w) A (Builtin.«list.sort» ⟨[.ref a],[]⟩) P E s:=by
 have s1:=cL s.heap a (Obj.mapSeq fun _=>(#[]:Array Value))
 obtain ⟨e1,ho1⟩:∃e1,(s.heap.update a (Obj.mapSeq fun _=>(#[]:Array Value))).get? a=some (seqObj "list" #[] e1):=⟨_,get?_update_seq ho fun _=>#[]⟩
 generalize hH:((s.heap.update a (Obj.mapSeq fun _=>(#[]:Array Value))).push (seqObj "tuple" vs.toArray 0)).push (seqObj "list" #[] 0)=h1
 have k1:∀b o,b≠a→s.heap.get? b=some o→h1.get? b=some o:=fun b o nb e=>by
  refine rr hH ?_;exact bB _ (bB _ (s1.extBut b o nb e))
 have a1:h1.get? a=some (seqObj "list" #[] e1):=by refine rr hH ?_;exact bB _ (bB _ ho1)
 refine rl (list_sort_plain ..) ?_
 refine aC (listItems_at ho rfl ?_)
 refine aC (listUpdate_at ho rfl ?_ (by refine rl List.size_toArray (rl sizeLine_eq ?_);exact L1 (N4 h2)) (aX _))
 refine aC (seqEpoch_at ho1 rfl ?_)
 refine aC (wpAny_newTuple ?_ (by show vs.length≤_;refine rl sizeLine_eq ?_;exact L1 (N4 h2)))
 refine aC (wpAny_newList ?_ (aX _))
 refine bS ?_
 show wpAny (model prog w) A _ P E { s with heap:=((s.heap.update a (Obj.mapSeq fun _=>(#[]:Array Value))).push (seqObj "tuple" vs.toArray 0)).push (seqObj "list" #[] 0) }
 refine rl hH ?_
 dsimp only
 have hn2:vs.toArray.size<2:=by refine rl List.size_toArray ?_;exact h2
 refine rl (if_pos hn2) (rl (if_pos hn2) ?_)
 refine aC (aK (aC (aK ?_)))
 have hout:((arrOf (SortSt.mk' general' (vs.toArray.zip vs.toArray) #[] 7 none)).map (·.2))=vs.toArray:=by
  show (vs.toArray.zip vs.toArray).map (·.2)=vs.toArray
  apply Array.toList_inj.mp
  refine rl Array.toList_map (rl Array.toList_zip ?_)
  exact List.map_snd_zip (aN _)
 dsimp only
 refine rl hout ?_
 have s2:=cL h1 a (Obj.mapSeq fun _=>vs.toArray)
 obtain ⟨c2,hc2⟩:∃c2,(h1.update a (Obj.mapSeq fun _=>vs.toArray)).get? a=some (seqObj "list" vs.toArray c2):=⟨_,get?_update_seq a1 fun _=>vs.toArray⟩
 refine aC (seqEpoch_at a1 rfl ?_)
 refine aC (listUpdate_at a1 rfl ?_ (aX _) (by refine rl List.size_toArray (rl sizeLine_eq ?_);exact L1 (N4 h2)))
 have hf:failedOf (SortSt.mk' general' (vs.toArray.zip vs.toArray) #[] 7 none)=none:=rfl
 (try rw [hf])
 simp only [bne_self_eq_false,Bool.false_eq_true,if_false]
 exact aK (hP _ c2 s.toks (fun b o nb e=>(s2.2 b nb).trans (k1 b o nb e)) hc2)
theorem Du {l:Addr}{vs:List Value}{Q:Value→Shared→Prop}(hl:s.heap.IsList l vs.toArray) (h64:vs.length<64)
  (h:∀(h₁:Heap) (P:PySem.Fin→Shared→Prop),h₁.get? (s.heap.objs.size+1)=some (seqObj "list" vs.toArray 0)→(∀b o,s.heap.get? b=some o→h₁.get? b=some o)→
   (∀h' tk c out,(∀b o,s.heap.get? b=some o→h'.get? b=some o)→h'.get? (s.heap.objs.size+1)=some (seqObj "list" out c)→Q (.ref (s.heap.objs.size+1)) { s with heap:=h',toks:=tk }→P (.done (.ret .none)) { s with heap:=h',toks:=tk })→
   wpAny (model prog w) A.in1.in1 (Builtin.«list.sort» ⟨[.ref (s.heap.objs.size+1)],[]⟩) P E { s with heap:=h₁ }) :
  wpAny (model prog w) A (call (.builtin "sorted") [.ref l]) Q E s:=by
 refine Calls.call_function_entry kind_sorted plain_sorted entry_sorted (args_sorted1 _) ?_
 unfold Builtin.«sorted»
 refine aC (m:=checkCount "sorted" 1 1 _) (aK ?_)
 refine aC (collect_list hl ?_ (by refine rl sizeLine_eq ?_;exact L1 (N4 h64)))
 refine aC (wpAny_newList ?_ (by refine rl sizeLine_eq ?_;exact L1 (N4 h64)))
 have hsz:((s.heap.push (seqObj "list" #[] 0)).update s.heap.objs.size (Obj.mapSeq (·++vs.toArray))).objs.size=s.heap.objs.size+1:=by
  exact rl (Heap.size_update ..) (rl (size_push' ..) rfl)
 have hoL:(((s.heap.push (seqObj "list" #[] 0)).update s.heap.objs.size (Obj.mapSeq (·++vs.toArray))).push (seqObj "list" vs.toArray 0)).get? (s.heap.objs.size+1)=some (seqObj "list" vs.toArray 0):=by
  refine rr hsz ?_;exact bQ _ rfl
 have keep:∀b o,s.heap.get? b=some o→(((s.heap.push (seqObj "list" #[] 0)).update s.heap.objs.size (Obj.mapSeq (·++vs.toArray))).push (seqObj "list" vs.toArray 0)).get? b=some o:=fun b o q=>by
  have hlt:b<s.heap.objs.size:=Heap.lt_size q
  refine rl (Heap.get?_push_ne _ _ _ (by rw [hsz];exact Nat.ne_of_lt (Nat.lt_succ_of_lt hlt))) (rl (Heap.get?_update_ne _ _ _ _ (Nat.ne_of_lt hlt)) (rl (Heap.get?_push_ne _ _ _ (Nat.ne_of_lt hlt)) ?_))
  exact q
 show wpAny _ _ _ _ _ { s with heap:=((s.heap.push (seqObj "list" #[] 0)).update s.heap.objs.size (Obj.mapSeq (·++vs.toArray))).push (seqObj "list" vs.toArray 0) }
 refine rl hsz ?_
 refine aC (bS (wpAny_call_entry slot_list_sort ⟨_,hoL,rfl⟩ entry_list_sort ?body (args_list_sort _)))
 case body=>
  refine h _ _ hoL keep fun h' tk c out hk hc hq=>?_
  exact ⟨_,rfl,aK ⟨_,rfl,hq⟩⟩
end
end
section
set_option maxRecDepth 100000
section
variable {prog:Program}{w:World}{A:Around}{E:Value→Shared→Prop}{s:Shared}
noncomputable def AG:Bool→Heap→Addr→Addr→Nat→Prop
 |true,h,it,a,k=>h.IsTupleIter it a k
 |false,h,it,a,k=>h.IsListIter it a k
noncomputable def Wf:Bool→Heap→Addr→Array Value→Prop
 |true,h,a,us=>h.IsTuple a us
 |false,h,a,us=>h.IsList a us
theorem AG.at {b:Bool}{h h':Heap}{it a:Addr}{k:Nat}(x:AG b h it a k) (e:∀o,h.get? it=some o→h'.get? it=some o):AG b h' it a k:=by
 cases b <;> (refine dF x fun o ho r=>?_;exact ⟨o,e o ho,r⟩)
theorem Wf.at {b:Bool}{h h':Heap}{a:Addr}{us:Array Value}(x:Wf b h a us) (e:∀o,h.get? a=some o→h'.get? a=some o):Wf b h' a us:=by
 cases b <;> (refine dF x fun o ho r=>?_;exact ⟨o,e o ho,r⟩)
theorem Wg {b:Bool}{a:Addr}{us:Array Value}{Q:Value→Shared→Prop}(h:Wf b s.heap a us)
  (hQ:Q (.ref s.heap.objs.size) { s with heap:=s.heap.push { cls:=.type (if b then "tuple_iterator" else "list_iterator"),data:=.fields #[.ref a,.int 0 0] } }):wpAny (model prog w) A (pyIter (.ref a)) Q E s:=by
 cases b
 ·exact wpAny_pyIter_list h hQ
 ·exact wpAny_pyIter_tuple h hQ
end
theorem xR:typeLookup (.type "list") "keys"=pure none:=by refine rl (typeLookup_type ..) (rl builtinLookup_eq_fast ?_);kernel_rfl
theorem vL:typeLookup (.type "tuple") "keys"=pure none:=by refine rl (typeLookup_type ..) (rl builtinLookup_eq_fast ?_);kernel_rfl
section
variable {prog:Program}{w:World}{A:Around}{E:Value→Shared→Prop}{s:Shared}{a:Addr}
theorem Rb {xs:Array Value}{k:Nat}{Q:Option Value→Shared→Prop}(hx:s.heap.get? a=some (iW "list" xs k)) (hA:A.handled=none)
  (h:∀h' tk,(∀b ob,s.heap.get? b=some ob→h'.get? b=some ob)→Q none { s with heap:=h',toks:=tk }):wpAny (model prog w) A (getAttr? (.ref a) "keys") Q E s:=by
 obtain ⟨hp,g,d,tk,os⟩:=s
 have hT:∀tk',(⟨hp,g,d,tk',os⟩:Shared).TypeIs (.ref a) "list":=fun _=>⟨_,hx,rfl⟩
 have f1:=sub_AttributeError
 have f3:=F.slot_list_getattribute.lookup
 have f4:=F.slot_list_getattribute.bind (.ref a)
 have f5:=am_list_getattr_none
 unfold getAttr? getAttrBy? getAttrBy
 repeat (any_goals (first | assumption | exact hT _ | ((with_reducible show wpAny _ _ (call (Value.builtin "list.__getattribute__") _ _) _ _ _);refine call_meets F.slot_list_getattribute (hT _) am_entry_list_getattribute (F.args_list_getattribute_2 _ _) (meets_getattribute_miss_list a xs k #[] "keys" _ xR (by decide +kernel) (by decide +kernel)) ⟨hx,hA,fun h' tk' e hx'=>?_⟩) | wp_step))
 refine wU hx'.there fun t' u' he=>?_
 show wpAny _ _ (getattributeRaised _ _ _ _ _ _ _) _ _ _
 unfold getattributeRaised
 repeat (any_goals (first | assumption | wp_step))
 all_goals exact h _ _ hx'.keeps
theorem La {xs:Array Value}{k:Nat}{Q:Option Value→Shared→Prop}(hx:s.heap.get? a=some (iW "tuple" xs k)) (hA:A.handled=none)
  (h:∀h' tk,(∀b ob,s.heap.get? b=some ob→h'.get? b=some ob)→Q none { s with heap:=h',toks:=tk }):wpAny (model prog w) A (getAttr? (.ref a) "keys") Q E s:=by
 obtain ⟨hp,g,d,tk,os⟩:=s
 have hT:∀tk',(⟨hp,g,d,tk',os⟩:Shared).TypeIs (.ref a) "tuple":=fun _=>⟨_,hx,rfl⟩
 have f1:=sub_AttributeError
 have f3:=F.slot_tuple_getattribute.lookup
 have f4:=F.slot_tuple_getattribute.bind (.ref a)
 have f5:=am_tuple_getattr_none
 unfold getAttr? getAttrBy? getAttrBy
 repeat (any_goals (first | assumption | exact hT _ | ((with_reducible show wpAny _ _ (call (Value.builtin "tuple.__getattribute__") _ _) _ _ _);refine call_meets F.slot_tuple_getattribute (hT _) am_entry_tuple_getattribute (F.args_tuple_getattribute_2 _ _) (meets_getattribute_miss_tuple a xs k #[] "keys" _ vL (by decide +kernel) (by decide +kernel)) ⟨hx,hA,fun h' tk' e hx'=>?_⟩) | wp_step))
 refine wU hx'.there fun t' u' he=>?_
 show wpAny _ _ (getattributeRaised _ _ _ _ _ _ _) _ _ _
 unfold getattributeRaised
 repeat (any_goals (first | assumption | wp_step))
 all_goals exact h _ _ hx'.keeps
end
theorem xS:entryFor table "dict.update.loop"=some Builtin.«dict.update.loop»:=entryFor_of_tree (by kernel_rfl)
theorem nT:plainId "dict.update.loop"=true:=by decide +kernel
noncomputable def lP (h:Heap):List Value→List (Str×Value)→Prop
 |[],[]=>True
 |u::us,kv::ps=>(∃p t n,u=.ref p∧h.get? p=some (iW "tuple" #[.str kv.1 t,kv.2] n))∧lP h us ps
 |_,_=>False
theorem lP.move {h h':Heap}:∀{us:List Value}{ps:List (Str×Value)},(∀p c vs n,h.get? p=some (iW c vs n)→h'.get? p=some (iW c vs n))→lP h us ps→lP h' us ps
 |[],[],_,_=>trivial
 |_::_,_::_,k,x=>by
  obtain ⟨⟨p,t,n,e,g⟩,r⟩:=x
  exact ⟨⟨p,t,n,e,k _ _ _ _ g⟩,r.move k⟩
 |[],_::_,_,x=>x.elim
 |_::_,[],_,x=>x.elim
section
variable {prog:Program}{w:World}{A:Around}{E:Value→Shared→Prop}{s:Shared}
theorem Gq {b:Bool}{it t:Addr}{i:Nat}{items:Array Value}{x:Value}{Q:Option Value→Shared→Prop}(hit:AG b s.heap it t i) (ht:Wf b s.heap t items) (hx:items[i]? = some x)
  (hQ:∀h',AG b h' it t (i+1)→Heap.SameBut it s.heap h'→Q (some x) { s with heap:=h' }):wpAny (model prog w) A (pyNext (.ref it)) Q E s:=by
 cases b
 ·exact wpAny_pyNext_list_item hit ht hx hQ
 ·exact wpAny_pyNext_tuple_item hit ht hx hQ
theorem Lb {b:Bool}{it t:Addr}{i:Nat}{items:Array Value}{Q:Option Value→Shared→Prop}(hh:A.handled=none) (hit:AG b s.heap it t i) (ht:Wf b s.heap t items) (hx:items[i]? = none)
  (hQ:∀h',Heap.ExtBut it s.heap h'→Q none { s with heap:=h' }):wpAny (model prog w) A (pyNext (.ref it)) Q E s:=by
 cases b
 ·exact wpAny_pyNext_list_end hh hit ht hx hQ
 ·exact wpAny_pyNext_tuple_end hh hit ht hx hQ
theorem AG.fields {b:Bool}{h:Heap}{it a:Addr}{k:Nat}(x:AG b h it a k):∃o fs,h.get? it=some o∧o.data=.fields fs:=by
 cases b <;> (refine fU x fun o ho _ hd=>?_;exact ⟨o,_,ho,hd⟩)
theorem Wf.seq {b:Bool}{h:Heap}{a:Addr}{us:Array Value}(x:Wf b h a us):∃o n,h.get? a=some o∧o.data=.seq us n:=by
 cases b <;> (obtain ⟨o,ho,_,n,hd⟩:=x;exact ⟨o,n,ho,hd⟩)
noncomputable def DK (prog:Program) (w:World) (W:Wd) (h:Heap) (D:Addr) (kvs:List (Str×Value)):Prop:=
 fJ (eO prog w) (kvs.map fun kv=>V.str kv.1) (dK W (kvs.map fun kv=>V.str kv.1)) (fun l=>l=kvs.map (·.2)) D fun o=>h.get? D=some o
theorem DK.move {W:Wd}{h h':Heap}{D:Addr}{kvs:List (Str×Value)}(x:DK prog w W h D kvs) (e:∀o,h.get? D=some o→h'.get? D=some o):DK prog w W h' D kvs:=
 fJ.imp x rfl (fun _ q=>q) (fun _ q=>q) e
theorem DK.set {W:Wd}{D:Addr}{kvs:List (Str×Value)}{kv:Str×Value}{t:Tok}{Q:Unit→Shared→Prop}(x:DK prog w W s.heap D kvs) (hn:V.str kv.1∉kvs.map fun kv=>V.str kv.1) (hl:kvs.length≤1000)
  (h:∀h' tk,DK prog w W h' D (kvs++[kv])→Heap.SameBut D s.heap h'→Q () { s with heap:=h',toks:=tk }):wpAny (model prog w) A (dictSet D (.str kv.1 t) kv.2) Q E s:=by
 obtain ⟨es,n,m,g,r1,r2,r3,r4⟩:=x
 have ra:RV W (.str kv.1) (.str kv.1 t):=RV.str
 have hz:=gD r1
 rw [aA] at hz
 refine Uu (Dj (strKind prog w) V.str (fun r=>by obtain ⟨t,rfl⟩:=r;simp [strKind,Value.isStrOf]) (fun _=>rfl) g r1 r3 (fun x m=>by refine dF (aJ.mp m) fun y _ e_e=>?_;subst e_e;exact ⟨_,rfl⟩) ra) g (by refine rl sizeLine_eq ?_;exact L1 (aD (A0 hz) hl)) (fun _ t=>h _ t ?_ (cL ..)) fun j hj=>absurd (bT hj) hn
 have:=fJ.new (e:=false) (fun q=>nomatch q) (Q:=fun l=>l=(kvs++[kv]).map (·.2)) (u:=kv.2) m r1 (by refine rl r2 (rl aM ?_);rfl) r3 r4 hn ra g
 unfold DK
 refine rl aM ?_
 exact this.imp rfl (fun _ q=>q) (fun _ q=>q) fun _ q=>q.1
theorem Rc {b:Bool}{W:Wd}{I D a:Addr}{vs:Array Value}{R:Result→Shared→Prop}(hh:A.handled=none) :
  ∀(ps:List (Str×Value)) (i:Nat) (s:Shared) (kvs:List (Str×Value)),vs.size=i+ps.length→lP s.heap (vs.toList.drop i) ps→AG b s.heap I a i→Wf b s.heap a vs→DK prog w W s.heap D kvs→((kvs++ps).map (·.1)).Nodup→(kvs++ps).length≤1000→
   (∀h' tk,DK prog w W h' D (kvs++ps)→(∀c o,c≠D→c≠I→s.heap.get? c=some o→h'.get? c=some o)→R (.ok (.ret .none)) { s with heap:=h',toks:=tk })→
   codeAny (model prog w) A (.builtin "dict.update.loop" ⟨[.ref D,.ref I,rawInt i,.none],[]⟩) R s:=by
 intro ps
 induction ps with
 |nil=>
  intro i s kvs hsz _ hit hsq hd _ _ hR
  refine codeAny_builtin xS ?_
  refine rl (Around.under_plainId nT _) ?_
  show wpAny _ A.in1 (pyNext (.ref I) >>= _) _ _ s
  have hx:vs[i]? = none:=Array.getElem?_eq_none (by simp at hsz;exact bM hsz)
  have hID:D≠I:=by
   refine qZ hit.fields fun o fs h1 h2=>?_
   obtain ⟨es,n,m,h3,_⟩:=hd
   intro e;subst e;rw [h1] at h3;obtain rfl:=aB h3;exact PySem.Data.noConfusion h2
  refine aC (Lb hh hit hsq hx fun h' hs=>?_)
  show wpAny _ A.in1 (Builtin.Dict.addKeywords D [] >>= _) _ _ _
  refine aC (aK (aK ?_))
  refine hR h' s.toks ?_ fun c o _ c2 e=>hs c o c2 e
  refine rl (bV ..) ?_
  exact hd.move fun o e=>hs D o hID e
 |cons kv ps ih=>
  intro i s kvs hsz hp hit hsq hd hnd hlen hR
  simp only [bF] at hsz
  refine codeAny_builtin xS ?_
  refine rl (Around.under_plainId nT _) ?_
  show wpAny _ A.in1 (pyNext (.ref I) >>= _) _ _ s
  have hlt:i<vs.size:=by exact aR (Nat.lt_add_of_pos_right (N3 (aW (aX _) (aN _)))) (A0 hsz)
  have hdrop:vs.toList.drop i=vs[i]::vs.toList.drop (i+1):=by
   refine rl (List.drop_eq_getElem_cons (by simpa using hlt)) ?_;simp
  rw [hdrop] at hp
  refine Tq hp fun z_1 hp'=>?_;obtain ⟨p,t,n,ep,gp⟩:=z_1
  refine qZ hit.fields fun oi fs hi1 hi2=>?_
  obtain ⟨es,nd,md,hd1,hd4⟩:=id hd
  refine qZ hsq.seq fun oa na ha1 ha2=>?_
  have hID:D≠I:=fun e=>by subst e;rw [hi1] at hd1;obtain rfl:=aB hd1;exact PySem.Data.noConfusion hi2
  have hpI:p≠I:=fun e=>by subst e;rw [hi1] at gp;obtain rfl:=aB gp;exact PySem.Data.noConfusion hi2
  have hpD:p≠D:=fun e=>by subst e;rw [hd1] at gp;cases aQ Obj.data (aB gp)
  have haI:a≠I:=fun e=>by subst e;rw [hi1] at ha1;obtain rfl:=aB ha1;rw [hi2] at ha2;exact PySem.Data.noConfusion ha2
  have haD:a≠D:=fun e=>by subst e;rw [hd1] at ha1;obtain rfl:=aB ha1;exact PySem.Data.noConfusion ha2
  refine aC (Gq hit hsq (x:=.ref p) (by exact rl (Array.getElem?_eq_getElem hlt) (rl ep rfl)) fun h₁ hit₁ hs₁=>?_)
  have gp₁:h₁.get? p=some (iW "tuple" #[.str kv.1 t,kv.2] n):=hs₁.extBut _ _ hpI gp
  have hd₁:DK prog w W h₁ D kvs:=hd.move fun o e=>hs₁.extBut _ _ hID e
  refine aC (bS ?_)
  refine aC (wpAny_tryCatch ?_)
  unfold Builtin.Dict.pairItems
  refine aC (wpAny_typeOf (T:="tuple") ⟨_,gp₁,rfl⟩ ?_)
  refine rl (if_pos (by decide)) ?_
  refine aC (wpAny_seqItems gp₁ rfl (aK ?_))
  show wpAny _ A.in1 (holding [Value.str kv.1 t,kv.2] (dictSet D (.str kv.1 t) kv.2)) _ _ _
  refine bS ?_
  have hlen':kvs.length+ps.length+1≤1000:=by simp only [aE,bF] at hlen;exact aD (aN _) hlen
  have hnk:V.str kv.1∉kvs.map fun kv=>V.str kv.1:=by
   rw [aM,cT] at hnd
   intro m
   rw [aJ] at m
   refine dF m fun kv' m1 m2=>?_
   exact hnd.2.2 kv'.1 (aJ.mpr ⟨kv',m1,rfl⟩) kv.1 (by simp) (V.str.inj m2)
  refine DK.set (s:={ s with heap:=h₁ }) hd₁ hnk (by exact aD (Nat.le_add_right_of_le (bW _ _)) hlen') fun h₂ tk₂ hd₂ hs₂=>?_
  refine aK ⟨plainId_quiet nT _,?_⟩
  have up:∀c o,c≠D→c≠I→s.heap.get? c=some o→h₂.get? c=some o:=fun c o c1 c2 e=>(hs₂.2 c c1).trans (hs₁.extBut _ _ c2 e)
  have hit₂:AG b h₂ I a (i+1):=hit₁.at fun o e=>(hs₂.2 I hID.symm).trans e
  have hsq₂:Wf b h₂ a vs:=hsq.at fun o e=>up a o haD haI e
  have hp₂:lP h₂ (vs.toList.drop (i+1)) ps:=hp'.move fun q c us m g=>by
   have q1:q≠D:=fun e=>by subst e;rw [hd1] at g;cases aQ Obj.data (aB g)
   have q2:q≠I:=fun e=>by subst e;rw [hi1] at g;obtain rfl:=aB g;exact PySem.Data.noConfusion hi2
   exact up q _ q1 q2 g
  have:=ih (i+1) { s with heap:=h₂,toks:=tk₂ } (kvs++[kv]) (by exact RM hsz) hp₂ hit₂ hsq₂ hd₂ (by simpa using hnd) (by simpa using hlen) fun h' tk hd' hk'=>hR h' tk (by simpa using hd') fun c o c1 c2 e=>hk' c o c1 c2 (up c o c1 c2 e)
  simpa [rawInt] using this
theorem oI {b:Bool}{W:Wd}{a:Addr}{vs:Array Value}{n:Nat}{ps:List (Str×Value)}{Q:Value→Shared→Prop}(hh:A.handled=none) (hmod:(s.heap.objs.size == sysModules)=false) (g:s.heap.get? a=some (iW (if b then "tuple" else "list") vs n)) (hp:lP s.heap vs.toList ps) (hsz:vs.size=ps.length) (hnd:(ps.map (·.1)).Nodup) (hlen:ps.length≤1000)
  (h:∀h' tk,DK prog w W h' s.heap.objs.size ps→(∀c o,s.heap.get? c=some o→h'.get? c=some o)→Q (.ref s.heap.objs.size) { s with heap:=h',toks:=tk }) :
  wpAny (model prog w) A (call (.type "dict") [.ref a]) Q E s:=by
 refine callType_codes (Q₁:=fun obj s₁=>obj=.ref s.heap.objs.size∧s₁={ s with heap:=s.heap.push { cls:=.type "dict",data:=.dict #[] } }) F.kt_called_dict (F.kt_typeCall_dict_1 _) F.entry_dict_init (kt_code_dict_new _ ⟨rfl,rfl⟩) ?_
 rintro obj s₁ ⟨rfl,rfl⟩
 have hnew:DK prog w W (s.heap.push { cls:=.type "dict",data:=.dict #[] }) s.heap.objs.size []:=⟨#[],0,hmod,bQ _ rfl,dK.nil,rfl,rfl,cG⟩
 have hT:(⟨s.heap.push { cls:=.type "dict",data:=.dict #[] },s.gens,s.drawn,s.toks,s.os⟩:Shared).TypeIs (.ref s.heap.objs.size) "dict":=⟨_,bQ _ rfl,rfl⟩
 refine ⟨hT,F.args_dict_init_2 _ _,?_⟩
 have g₁:(s.heap.push { cls:=.type "dict",data:=.dict #[] }).get? a=some (iW (if b then "tuple" else "list") vs n):=bB _ g
 unfold Builtin.«dict.__init__»
 refine aC ?_
 unfold Builtin.Dict.selfAndRest
 refine aC (wpAny_notOrdered_dict hT ?_)
 show wpAny _ _ (pure (s.heap.objs.size,[Value.ref a])) _ _ _
 refine aK ?_
 show wpAny _ _ (Builtin.Dict.updateFrom "dict.__init__" s.heap.objs.size (.ref a) [] .none) _ _ _
 unfold Builtin.Dict.updateFrom
 refine aC (wpAny_typeOf (T:=if b then "tuple" else "list") ⟨_,g₁,rfl⟩ ?_)
 refine rl (if_pos (by cases b <;> decide)) ?_
 have hn:=eE s.heap
 have step:∀h₂ tk,(∀c ob,(s.heap.push { cls:=.type "dict",data:=.dict #[] }).get? c=some ob→h₂.get? c=some ob)→
   wpAny (model prog w) A.in1.in1 (pyIter (.ref a)) (fun it s₃=>codeAny (model prog w) A.in1 (.builtin "dict.update.loop" ⟨[.ref s.heap.objs.size,it,rawInt 0,.none],[]⟩) (wants (fun r s₂=>r=.none∧Q (.ref s.heap.objs.size) s₂) E) s₃) E { s with heap:=h₂,toks:=tk }:=by
  intro h₂ tk hk
  have hsq:Wf b h₂ a vs:=by
   cases b
   ·exact ⟨_,hk _ _ g₁,rfl,n,rfl⟩
   ·exact ⟨_,hk _ _ g₁,rfl,n,rfl⟩
  refine Wg (s:={ s with heap:=h₂,toks:=tk }) hsq ?_
  have hk3:∀(o:Obj) c ob,(s.heap.push { cls:=.type "dict",data:=.dict #[] }).get? c=some ob→(h₂.push o).get? c=some ob:=fun o c ob e=>bB _ (hk c ob e)
  have hnI:s.heap.get? h₂.objs.size=none:=by
   cases q:s.heap.get? h₂.objs.size with
   |none=>rfl
   |some o=>exact absurd (Heap.lt_size (hk _ _ (bB _ q))) (Nat.lt_irrefl _)
  refine Rc (A:=A.in1) (b:=b) (W:=W) (I:=h₂.objs.size) (D:=s.heap.objs.size) (a:=a) (vs:=vs) hh ps 0 _ [] (by simpa using hsz) ?_ ?_ ?_ ?_ (by simpa using hnd) (by simpa using hlen) fun h' tk' hd' hk'=>?_
  ·exact hp.move fun q c us m e=>hk3 _ _ _ (bB _ e)
  ·cases b
   ·exact ⟨_,bQ _ rfl,rfl,rfl⟩
   ·exact ⟨_,bQ _ rfl,rfl,rfl⟩
  ·exact hsq.at fun o e=>bB _ e
  ·exact hnew.move fun o e=>hk3 _ _ _ e
  ·refine ⟨rfl,h h' tk' (by simpa using hd') fun c o e=>?_⟩
   refine hk' c o (fun q=>by rw [q,hn] at e;exact nS e) (fun q=>by rw [q,hnI] at e;exact nS e) (hk3 _ _ _ (bB _ e))
 have fin:∀h₂ tk,(∀c ob,(s.heap.push { cls:=.type "dict",data:=.dict #[] }).get? c=some ob→h₂.get? c=some ob)→
   wpAny (model prog w) A.in1.in1 (do rule s!"{"dict.__init__"}.from-pairs";return ←again (.builtin "dict.update.loop" ⟨[.ref s.heap.objs.size,←pyIter (.ref a),rawInt 0,.none],[]⟩))
    (fun fin s'=>match fin with | .done f=>wants (fun r s₂=>r=.none∧Q (.ref s.heap.objs.size) s₂) E (.ok f) s' | .again c'=>c'.quiet=true∧codeAny (model prog w) A.in1 c' (wants (fun r s₂=>r=.none∧Q (.ref s.heap.objs.size) s₂) E) s') (fun e s'=>wants (fun r s₂=>r=.none∧Q (.ref s.heap.objs.size) s₂) E (.error e) s') { s with heap:=h₂,toks:=tk }:=by
  intro h₂ tk hk
  exact aC (wpAny_rule (aC (wpAny_mono (step h₂ tk hk) (fun it s₃ hc=>aK ⟨plainId_quiet nT _,hc⟩) fun _ _ x=>x)))
 cases b
 ·refine aC (Rb g₁ hh fun h₂ tk hk=>?_)
  refine rl (if_pos (by rfl)) ?_
  exact fin h₂ tk hk
 ·refine aC (La g₁ hh fun h₂ tk hk=>?_)
  refine rl (if_pos (by rfl)) ?_
  exact fin h₂ tk hk
end
end
section
theorem Gs {xs:List V}{q:V×V}(h:Da xs=some q):xs=[q.1,q.2]:=by
 cases xs with
 |nil=>exact nS h
 |cons x xs=>
  refine cV h fun y hy h=>?_
  obtain rfl:=aB h
  cases xs with
  |nil=>exact nS hy
  |cons z zs=>
   cases zs with
   |nil=>cases hy;rfl
   |cons _ _=>exact nS hy
theorem Bm {v:V}{s:Str}(h:strOf v=some s):v=.str s:=by cases v <;> (first | exact nS h | cases h);rfl
theorem Rd {v:V}{s:Int}(h:intOf v=some s):v=.int s:=by cases v <;> (first | exact nS h | cases h);rfl
theorem uB {v:V}{s:List V}(h:hZ v=some s):v=.tup s:=by cases v <;> (first | exact nS h | cases h);rfl
section
variable {Θ:Th}{Γ:Gm Θ}{σ:St}{e a b:Expr}{ce ca cb:E}{Q:Value→Shared→Prop}{f:Str}{p pos:Pos}{v x y:V}{w u:Value}
theorem Dv (ok:Ok Γ σ):(σ.s.heap.objs.size == sysModules)=false:=by
 refine dF ok.E.ok.nolimit fun mc hn _=>?_
 have h1:cStatics<σ.s.heap.objs.size:=(hn.keeps ok.S.base).lt
 have h2:sysModules<cStatics:=by decide
 exact bY.mpr (Nat.ne_of_gt (Nat.lt_trans h2 h1))
theorem pairs_at {W:Wd}{h:Heap}(hz:∀b o,W.σ b=some o→h.get? b=some o):∀{xs:List V}{us:List Value}{ps:List (V×V)},fF Jv xs=some ps→dK W xs us→
  ∃qs:List (Str×Value),lP h us qs∧qs.map (fun kv=>V.str kv.1)=ps.map (·.1)∧dK W (ps.map (·.2)) (qs.map (·.2))∧us.length=qs.length
 |[],_,_,e,r=>by obtain rfl:=aB e;cases (show _=_ from r);exact ⟨[],trivial,rfl,dK.nil,rfl⟩
 |x::xs,us,ps,e,r=>cV e fun y hy e=>dQ e fun ps' hps e=>cV hy fun zs hz' hy=>cV hy fun q hq hy=>cV hy fun st hst hy=>by
  cases hy
  subst e
  refine iY r fun u us e_e=>?_;clear r;subst e_e;intro r1 r2
  refine Jp (pairs_at hz hps r2) fun qs p1 p2 p3 p4=>?_
  cases uB hz'
  cases Gs hq
  obtain ⟨a,us',n,rfl,g,q'⟩:=r1
  obtain ⟨us'⟩:=us'
  refine iY (xH (q:=y) hq q') fun u1 u2 e1 q1 q2=>?_
  have e1:us'=[u1,u2]:=e1
  subst e1
  obtain ⟨t,rfl⟩:=Kb hst q1
  exact ⟨(st,u2)::qs,⟨⟨a,t,n,rfl,hz _ _ g⟩,p1⟩,by exact rl cQ (rl cQ (rl p2 (rl (Bm hst) rfl))),.cons q2 p3,aQ (· + 1) p4⟩
theorem Gu (hv:Θ.X.gv f=some (.type "dict")) (hg:eW Θ.sc f=true) (h:fK Θ e ce):tW Θ (.Call (.Name f p) [e] [] pos) (.dictOf ce):=
 BF hv (.inr ⟨_,rfl⟩) hg h dictFrom (fun _ _ _=>rfl) fun Γ σ x u v Q ok rx e hQ=>cV e fun xs hx e=>cV e fun ps hps e=>dU e fun hc e=>by
  cases e
  refine dF (mG ok.S hx rx) fun a e_e q=>?_;subst e_e
  have fin:∀qs:List (Str×Value),qs.map (fun kv=>V.str kv.1)=ps.map (·.1)→dK σ.W (ps.map (·.2)) (qs.map (·.2))→∀h' tk,DK Θ.X.prog Θ.X.w σ.W h' σ.s.heap.objs.size qs→(∀c o,σ.s.heap.get? c=some o→h'.get? c=some o)→Q (.ref σ.s.heap.objs.size) { σ.s with heap:=h',toks:=tk }:=by
   intro qs p2 p3 h' tk hd hk
   unfold DK at hd
   rw [p2] at hd
   exact hQ _ σ.W _ (.grow hk) (ok.grow hk) (Vo ok hk (eE _) (fJ.imp hd (by exact rl ok.S.hk (rl ok.E.ok.hash rfl)) (fun _ x=>x) (fun _ x=>x ▸ p3) fun _ x=>⟨x,fun q=>nomatch q⟩))
  have nd:∀qs:List (Str×Value),qs.map (fun kv=>V.str kv.1)=ps.map (·.1)→(qs.map (·.1)).Nodup∧qs.length≤1000:=fun qs p2=>⟨by
   have nd:(qs.map fun kv=>V.str kv.1).Nodup:=p2 ▸ hc.1
   rw [show (qs.map fun kv=>V.str kv.1)=(qs.map (·.1)).map V.str from (bJ ..).symm] at nd
   exact (List.pairwise_map.mp nd).imp fun hne e=>hne (aQ _ e),by
   have:=aQ List.length p2
   rw [aA,aA] at this
   exact L1 (aD (bM this) hc.2)⟩
  cases q with
  |tup us n g r=>
   refine Jp (pairs_at ok.S.froz hps r) fun qs p1 p2 p3 p4=>?_
   exact oI (b:=true) ok.A.handled (Dv ok) g p1 (by exact rr p4 (rl cB rfl)) (nd qs p2).1 (nd qs p2).2 (fin qs p2 p3)
  |lst us n g r=>
   refine Jp (pairs_at ok.S.froz hps r) fun qs p1 p2 p3 p4=>?_
   exact oI (b:=false) ok.A.handled (Dv ok) g p1 (by exact rr p4 (rl cB rfl)) (nd qs p2).1 (nd qs p2).2 (fin qs p2 p3)
theorem Wh {op:Operator}{m n z:Int}{t t':Tok}(h:ME op m n=some z) (hQ:∀tk tk',Q (.int z tk) (σ.tk tk').s):wpAny Θ.X.M Γ.A (binaryOp op (.int m t) (.int n t')) Q fX σ.s:=by
 cases op <;> first | exact nS h;done | skip
 ·obtain rfl:=aB h;exact PyProof.Rows.add_int (hQ _ _)
 ·obtain rfl:=aB h;exact PyProof.Rows.sub_int (hQ _ _)
 ·refine dU h fun hb h=>?_
  obtain rfl:=aB h
  refine PyProof.Rows.mul_int (hQ _ _) ?_
  unfold IntMulOk
  refine rl (bU ..) (ri not_and ?_)
  intro _ q
  have q':((Builtin.Int.intBits m:Int)+(Builtin.Int.intBits n:Int))>((bitsLine:Nat):Int):=bD q
  have e1:Builtin.Int.intBits m=intBits m:=rfl
  have e2:Builtin.Int.intBits n=intBits n:=rfl
  have e3:bitsLine=134217728:=by decide
  rw [e1,e2,e3] at q'
  omega
 ·refine dU h fun hb h=>?_
  obtain rfl:=aB h
  exact PyProof.Rows.mod_int (by exact RN hb) (hQ _ _)
 ·refine dU h fun hb h=>?_
  obtain rfl:=aB h
  obtain ⟨rfl,hb⟩:=hb
  refine PyProof.Rows.pow_int (by exact (by decide)) ?_ (hQ _ _)
  have e1:Builtin.Int.intBits m=intBits m:=rfl
  refine rl e1 ?_
  have:(2:Int) ^ 27=134217728:=by decide
  exact ST hb
 ·refine dU h fun hb h=>?_
  obtain rfl:=aB h
  exact PyProof.Rows.floordiv_int (by exact RN hb.1) (hQ _ _) (.inl (PyProof.noPylong_small (by exact SS hb.1 hb.2)))
theorem Lc {eb:Bool}:tW Θ (.Dict [] [] pos) (.dict0 eb):=fun Γ σ R K r Q ev ok hQ=>by
 refine iE (ok.made (v:=.dct eb [] []) (m:=σ.s.toks) (jH #[] 0) rfl (⟨#[],0,Dv ok,⟨bQ _ rfl,fun _=>rfl⟩,dK.nil,dK.nil,rfl,cG⟩:fJ ..)) fun l o f=>?_
 exact wpAny_Dict_empty (hQ _ _ _ l o f ev)
theorem Ld (ha:eX Θ a ca) (hb:eX Θ b cb):tW Θ (.Dict [some a] [b] pos) (.dict1 ca cb):=fun Γ σ R K r Q ev ok hQ=>by
 refine wpAny_Dict_any (by rfl) rfl (by exact nofun) (cD rfl) ?_
 have hn:=eE σ.s.heap
 have hk:∀b o,σ.s.heap.get? b=some o→(σ.s.heap.push (jH #[] 0)).get? b=some o:=fun b o e=>bB _ e
 have l0:Le σ (σ.hp (σ.s.heap.push (jH #[] 0)) σ.s.toks):=.grow hk
 have f0:iK Θ.X σ.W σ.s.heap.objs.size:=iK.of_none ok.S hn
 have hD0:(σ.s.heap.push (jH #[] 0)).get? σ.s.heap.objs.size=some (jH #[] 0):=bQ _ rfl
 refine pairTrees_cons_walk (ha Γ (σ.hp (σ.s.heap.push (jH #[] 0)) σ.s.toks) R _ r _ ev (ok.grow hk) fun x u τ l1 o1 rx ev=>hb Γ τ R _ r _ ev o1 fun y w υ l2 o2 ry ev=>cZ ev fun hx ev=>pairTrees_nil_walk ?_)
 have rk:RV υ.W x u:=rx.up l2
 have l12:=l1.trans l2
 have hD2:υ.s.heap.get? σ.s.heap.objs.size=some (jH #[] 0):=l12.t.keep _ _ hD0 f0.2.2
 have f2:iK Θ.X υ.W σ.s.heap.objs.size:=iK.eval (σ:=σ.hp (σ.s.heap.push (jH #[] 0)) σ.s.toks) f0 l12 (by show (σ.s.heap.push (jH #[] 0)).get? _≠none;refine rl hD0 ?_;exact cJ _)
 show wpAny Θ.X.M Γ.A (forIn [(u,w)] PUnit.unit fun (x:Value×Value) (_:PUnit)=>(do dictSet σ.s.heap.objs.size x.1 x.2;pure (ForInStep.yield PUnit.unit):Sem (ForInStep PUnit))) _ _ _
 refine rl (List.forIn_cons ..) ?_
 refine aC (aC (Uu (Ba (ks:=[]) o2.S.froz (by have:=ok.A.units;show Γ.A.units+4<cLine;unfold cLine;exact SQ this) hD2 dK.nil rfl cG hx rk) hD2 (aX _) (fun hn' t=>aK ?_) fun j hj=>by exact nS hj))
 show wpAny Θ.X.M Γ.A (forIn [] PUnit.unit _) _ _ _
 refine rl List.forIn_nil ?_
 refine aK ?_
 have hs:=cL (h:=υ.s.heap) (a:=σ.s.heap.objs.size) (f:=Obj.mapDictKeys (Jz (eO Θ.X.prog Θ.X.w) x u w))
 have D:=fJ.new (e:=false) (fun q=>nomatch q) (Q:=dK υ.W [y]) (u:=w) (h:=υ.s.heap) (n:=0) (es:=#[]) (ks:=[]) (Dv ok) dK.nil (.cons ry .nil) (hk:=eO Θ.X.prog Θ.X.w) rfl cG hn' rk hD2
 generalize υ.s.heap.update σ.s.heap.objs.size (Obj.mapDictKeys (Jz (eO Θ.X.prog Θ.X.w) x u w))=h' at hs D
 have L:Le σ (υ.hp h' t):=⟨(l0.trans l12).t.fresh (oL.ext (P:=fun b=>b=σ.s.heap.objs.size) rfl hs.extBut) fun b e=>e ▸ hn,((l0.trans l12).q).heap⟩
 have S:SR Θ.X.B υ.W υ.H h':=o2.S.free (P:=fun b=>b=σ.s.heap.objs.size) (fun b e=>e ▸ f2) fun b o nb e=>(hs.2 b nb).trans e
 exact hQ (.dct false [x] [y]) _ (υ.hp h' _) L (ok.move L S) ⟨fJ.imp D (by show υ.W.hk=_;exact rl o2.S.hk (rl ok.E.ok.hash rfl)) (fun _ x=>x) (fun _ x=>x) fun _ x=>x,f2.2.1,f2.2.2,hn⟩ ev
theorem Gv (ok:Ok Γ σ) {xs ys:List V}(hx:eC σ.H x=some xs) (hy:eC σ.H y=some ys) (hlen:xs.length+ys.length≤Ab) (rx:RV σ.W x w) (ry:RV σ.W y u) (hQ:IN Γ σ (.lst (xs++ys)) Q):wpAny Θ.X.M Γ.A (binaryOp .Add w u) Q fX σ.s:=by
 obtain ⟨d1,rfl,us,m1,g1,r1⟩:=fY ok.S hx rx
 obtain ⟨d2,rfl,ws,m2,g2,r2⟩:=fY ok.S hy ry
 have k1:=r1.size
 have k2:=r2.size
 refine P.add_list (n:=m1) (n2:=m2) g1 g2 ?_ (jB (by unfold Ab at hlen;exact aD (aW (A0 k1) (A0 k2)) hlen))
 refine iE (ok.list (n:=0) (m:=σ.s.toks) (r1.append r2)) fun l3 o3 f=>?_
 have e:(us.toList++ws.toList).toArray=us++ws:=by simp
 rw [e] at l3 o3 f
 exact hQ _ _ _ l3 o3 f
theorem BS (ok:Ok Γ σ) (e:HW σ.H x y=some v) (rx:RV σ.W x w) (ry:RV σ.W y u) (hQ:Kt Γ σ v Q):wpAny Θ.X.M Γ.A (binaryOp .Add w u) Q fX σ.s:=by
 have lst:((eC σ.H x).bind fun xs=>(eC σ.H y).bind fun ys=>gd (decide (xs.length+ys.length≤Ab)) (some (V.lst (xs++ys))))=some v→wpAny Θ.X.M Γ.A (binaryOp .Add w u) Q fX σ.s:=fun e=>cV e fun xs hx e=>cV e fun ys hy e=>dU e fun hlen e=>by
  obtain rfl:=aB e
  exact Gv ok hx hy hlen rx ry fun a W' s' l o f=>f.freeze l o.S fun ob l4 S4 rv=>hQ _ _ _ l4 (ok.move l4 S4) rv
 cases x <;> first | exact lst e | skip
 rename_i xs
 refine cV e fun ys hy e=>dU e fun hlen e=>?_
 obtain rfl:=aB e
 cases uB hy
 have rx':=rx
 have ry':=ry
 obtain ⟨d1,us,m1,rfl,g1,r1⟩:=rx
 obtain ⟨d2,ws,m2,rfl,g2,r2⟩:=ry
 have k1:=r1.size
 have k2:=r2.size
 have ht:=ok.S.froz _ _ g1
 have hb:=ok.S.froz _ _ g2
 by_cases h1:us.isEmpty=true
 ·have e1:xs=[]:=List.length_eq_zero_iff.mp (by refine rl k1 ?_;exact Array.size_eq_zero_iff.mpr (Array.isEmpty_iff.mp h1))
  subst e1
  exact concat_meets ⟨_,ht,rfl⟩ ⟨_,hb,rfl⟩ noFill_tuple_add seq_tuple_add F.slot_tuple_add F.entry_tuple_add (F.args_tuple_add_2 _ _) (AutoSeq1.tuple___add___tuple_tuple_0 d1 us m1 d2 ws m2 h1) ⟨ht,hb,hQ.tk ok ry' σ.s.toks⟩
 ·by_cases h2:ws.isEmpty=true
  ·have e2:ys=[]:=List.length_eq_zero_iff.mp (by refine rl k2 ?_;exact Array.size_eq_zero_iff.mpr (Array.isEmpty_iff.mp h2))
   subst e2
   rw [bV] at hQ
   exact concat_meets ⟨_,ht,rfl⟩ ⟨_,hb,rfl⟩ noFill_tuple_add seq_tuple_add F.slot_tuple_add F.entry_tuple_add (F.args_tuple_add_2 _ _) (AutoSeq1.tuple___add___tuple_tuple_1 d1 us m1 d2 ws m2 h1 h2) ⟨ht,hb,hQ.tk ok rx' σ.s.toks⟩
  ·refine P.add_tuple (n:=m1) (n2:=m2) ht hb h1 h2 ?_ (jB (by unfold Ab at hlen;exact aD (aW (A0 k1) (A0 k2)) hlen))
   have e:(us.toList++ws.toList).toArray=us++ws:=by simp
   exact ok.tuple (n:=0) (m:=σ.s.toks) (r1.append r2) fun W' l2 o2 rt=>by rw [e] at l2 o2;exact hQ _ W' _ l2 o2 rt
theorem dK.rep {W:Wd}{xs:List V}{us:List Value}(r:dK W xs us):∀n,dK W (List.replicate n xs).flatten (List.replicate n us).flatten
 |0=>dK.nil
 |n+1=>r.append (dK.rep r n)
open PyProof.Rows in
theorem Wi (ok:Ok Γ σ) (e:HX σ.H x y=some v) (rx:RV σ.W x w) (ry:RV σ.W y u) (hQ:IN Γ σ v Q):wpAny Θ.X.M Γ.A (binaryOp .Mult w u) Q fX σ.s:=
 cV e fun xs hx e=>cV e fun n hn e=>dU e fun hb e=>by
  obtain rfl:=aB e
  obtain ⟨l,rfl,us,m,g,r⟩:=fY ok.S hx rx
  obtain ⟨t,rfl⟩:=int_at hn ry
  have k1:=r.size
  have hsz:us.size*n.toNat≤1000:=by refine rr k1 ?_;exact hb.2.2
  refine wpAny_binaryOp_repeat_ref (T:="list") (U:="int") (by decide) ⟨_,g,rfl⟩ (fun s'=>typeIs_int s' n t) noFill_list_mul F.fills_int_mul F.slot_int_rmul repeat_list F.slot_int_index.lookup
   (call_meets F.slot_int_rmul (typeIs_int σ.s n t) F.entry_int_rmul (F.args_int_rmul_2 _ _) (int___rmul___int_list n t l us m)
    ⟨g,rfl,⟨_,g,rfl⟩,call_meets F.slot_list_mul ⟨_,g,rfl⟩ F.entry_list_mul (F.args_list_mul_2 _ _)
     (AutoListH.list___mul___list_int_3 l us m n t (by simp [Builtin.List.listFitsIndex];exact ⟨(Z2 hb.1),(Z1 hb.2.1)⟩) (by exact SO hsz) (by simp [Builtin.List.listTooLong,sizeLine];exact L1 hsz))
     ⟨g,?_⟩⟩)
  refine iE (ok.list (n:=0) (m:=σ.s.toks) (dK.rep r n.toNat)) fun l3 o3 f=>?_
  refine rl (listMul_foldl_if ..) ?_
  exact hQ _ _ _ l3 o3 f
theorem BT (ha:eX Θ a ca) (hb:eX Θ b cb) {op:Operator}:eX Θ (.BinOp a op b pos) (.bin op ca cb):=fun Γ σ R K r Q ev ok hQ=>
 wpAny_BinOp (ha Γ σ R _ r _ ev ok fun x u τ l o rx ev=>hb Γ τ R _ r _ ev o fun y w υ l2 o2 ry ev=>cV ev fun v hv ek=>by
  unfold Cz at hv
  cases hi:intOf x with
  |some i=>
   rw [hi] at hv
   refine cV hv fun j hj hv=>cV hv fun z hz hv=>?_
   obtain rfl:=aB hv
   obtain ⟨t1,rfl⟩:=int_at hi rx
   obtain ⟨t2,rfl⟩:=int_at hj ry
   exact Wh hz fun tk tk'=>hQ _ _ (υ.tk tk') ((l.trans l2).trans .tk) o2.tk RV.int ek
  |none=>
   rw [hi] at hv
   cases op <;> first | exact nS hv;done | skip
   ·exact BS o2 (show HW _ _ _=_ from hv) (rx.up l2) ry fun w W' s' l3 o3 rv=>hQ _ w ⟨W',s',υ.H⟩ ((l.trans l2).trans l3) o3 rv ek
   ·exact Wi o2 (show HX _ _ _=_ from hv) (rx.up l2) ry fun a W' s' l3 o3 f=>f.freeze l3 o3.S fun ob l4 S4 rv=>hQ _ _ ⟨W'.freeze a ob,s',υ.H⟩ ((l.trans l2).trans l4) (o2.move l4 S4) rv ek)
theorem Wj (ha:eX Θ a ca) (hb:eX Θ b cb):tW Θ (.BinOp a .Add b pos) (.cat ca cb):=fun Γ σ R K r Q ev ok hQ=>
 wpAny_BinOp (ha Γ σ R _ r _ ev ok fun x u τ l o rx ev=>hb Γ τ R _ r _ ev o fun y w υ l2 o2 ry ev=>cV ev fun xs hx ev=>cV ev fun ys hy ev=>dU ev fun hlen ev=>Gv o2 hx hy hlen (rx.up l2) ry fun a W' s' l3 o3 fr=>hQ _ a ⟨W',s',υ.H⟩ ((l.trans l2).trans l3) o3 (fr.up (l.trans l2)) ev)
end
end
section
open PySem PySem.W PyProof.Rows
section
variable {W:Wd}
theorem dK.getD {xs:List V}{us:List Value}(r:dK W xs us) (i:Nat):RV W (xs.getD i .none) (us.getD i .none):=by
 refine rl (bA) (rl (bA) ?_)
 cases q:xs[i]? with
 |none=>
  have:us[i]? = none:=by rw [List.getElem?_eq_none_iff] at q ⊢;refine rr r.length ?_;exact q
  refine rl this ?_;exact RV.none
 |some x=>
  refine dF (r.get q) fun u e ru=>?_
  refine rl e ?_;exact ru
theorem dK.picked {xs:List V}{us:List Value}(r:dK W xs us):∀(ps:List Nat),dK W (ps.map fun i=>xs.getD i .none) (ps.map fun i=>us.getD i .none)
 |[]=>dK.nil
 |p::ps=>.cons (r.getD p) (dK.picked r ps)
theorem Lf {x:V}(h:kK x=true):∃a i,x=.tup [.str a,.int i]:=by
 obtain ⟨⟨a,i⟩,h⟩:=Option.isSome_iff_exists.mp h
 refine cV h fun xs hx h=>cV h fun q hq h=>cV h fun a hs h=>cV h fun i hi h=>?_
 refine ⟨a,i,?_⟩
 exact rl (uB hx) (rl (Gs hq) (rl (Bm hs) (rl (Rd hi) rfl)))
theorem Wk (a b:Str) (i j:Int):Tw (.tup [.str a,.int i]) (.tup [.str b,.int j])=if a=b then decide (i<j) else gN a b:=rfl
theorem rK {x:V}{u:Value}(h:kK x=true) (r:RV W x u):∃a i ad n t t',x=.tup [.str a,.int i]∧u=.ref ad∧W.σ ad=some (iW "tuple" #[.str a t,.int i t'] n):=by
 refine wU (Lf h) fun a i e_e=>?_;subst e_e
 obtain ⟨ad,vs,n,rfl,g,q⟩:=r
 obtain ⟨vs⟩:=vs
 refine iY (xH (q:=(.str a,.int i)) rfl q) fun u1 u2 e q1 q2=>?_
 refine wT q1 fun t e_e=>?_;clear q1;subst e_e
 refine wT q2 fun t' e_e=>?_;clear q2;subst e_e
 have e':vs=_:=e
 subst e'
 exact ⟨a,i,ad,n,t,t',rfl,rfl,g⟩
theorem Gw {h:Heap}(hz:∀b o,W.σ b=some o→h.get? b=some o):∀{xs:List V}{us:List Value},xs.all kK=true→dK W xs us→∃fs,KatTups h us fs∧fs.length=us.length∧∀f∈fs,∃x t,f=.str x t
 |[],_,_,r=>by cases (show _=_ from r);exact ⟨[],trivial,rfl,fun f hf=>absurd hf cE⟩
 |x::xs,us,ha,r=>by
  obtain ⟨ha1,ha2⟩:=aF.mp ha
  refine iY r fun u us e_e=>?_;clear r;subst e_e;intro r1 r2
  refine fU (Gw hz ha2 r2) fun fs h1 h2 h3=>?_
  refine HU (rK ha1 r1) fun a i ad n t t' e_e=>?_;subst e_e;intro e_e;subst e_e;intro g
  refine ⟨.str a t::fs,KatTups.cons (hz _ _ g) rfl rfl rfl h1,aQ (· + 1) h2,?_⟩
  intro f hf
  rcases aZ.mp hf with e | e
  ·exact ⟨a,t,e⟩
  ·exact h3 f e
theorem BU {X:Cx}{x y:V}{u v:Value}{s:Shared}{A:Around}(hx:kK x=true) (hy:kK y=true) (rx:RV W x u) (ry:RV W y v) (hz:∀b o,W.σ b=some o→s.heap.get? b=some o) {C:Bool→Shared→Prop}(hC:∀tk,C (Tw x y) { s with toks:=tk }) :
  wpAny X.M A (keyLt' (tuples' true) u v) C (fun _ _=>False) s:=by
 refine HU (rK hx rx) fun a i ad n t t' e_e=>?_;subst e_e;intro e_e;subst e_e;intro g
 refine HU (rK hy ry) fun b j bd m u u' e_e=>?_;subst e_e;intro e_e;subst e_e;intro g'
 refine kat_lt (hz _ _ g) rfl (hz _ _ g') rfl ?_
 show KatLex X.prog X.w A true _ C [(.str a t,.str b u),(.int i t',.int j u')] 0 s
 have hC:=hC s.toks
 rw [Wk] at hC
 refine kat_cons (wpAny_eqBool_str (kat_go (fun e=>kat_yes (kat_cons ?_)) fun e=>kat_no ?_))
 ·have e:a=b:=bD e
  subst e
  rw [if_pos rfl] at hC
  refine wpAny_eqBool_int (kat_go (fun e=>kat_yes (kat_nil ?_)) fun e=>kat_no (kat_one _ _ ?_))
  ·have e:i=j:=bD e
   subst e
   rw [aU (Int.lt_irrefl i)] at hC
   exact hC
  ·exact PyProof.Rows.lt_int hC
 ·have e:a≠b:=of_decide_eq_false e
  rw [if_neg e] at hC
  exact oneLt_str hC
theorem Bn:∀{vs:List Value}{ts:List Str},StrsAre vs ts→dK W (ts.map V.str) vs
 |_,_,.nil=>dK.nil
 |_,_,.cons _ _ h=>.cons RV.str (Bn h)
theorem Wl:∀(l:List Str) (p:Str),risingS p l=true→(p::l).Pairwise Fk
 |[],p,_=>List.pairwise_singleton _ _
 |x::r,p,hr=>by
  obtain ⟨h1,h2⟩:=aF.mp (show (!_&&risingS x r)=true from hr)
  have hpx:Fk p x:=by
   rw [Bool.not_eq_true',ltCps_eq] at h1
   exact mF.mp h1
  have ht:=Wl r x h2
  refine ri List.pairwise_cons ?_
  refine ⟨fun z hz=>?_,ht⟩
  rcases aZ.mp hz with rfl | hz'
  ·exact hpx
  ·exact At hpx ((List.pairwise_cons.mp ht).1 z hz')
end
section
variable {Θ:Th}{Γ:Gm Θ}{σ:St}{e:Expr}{ce:E}{Q:Value→Shared→Prop}{f g:Str}{p pos p2 pos2:Pos}{x:V}{u:Value}{xs ys:List V}
theorem Re (ok:Ok Γ σ) (r:RV σ.W x u) (hx:eC σ.H x=some xs) (e:uR xs=some ys) (hQ:IN Γ σ (.lst ys) Q):wpAny Θ.X.M Γ.A (call (.builtin "sorted") [u]) Q fX σ.s:=dU e fun h64 e=>by
 obtain ⟨a,rfl,us,n,g,q⟩:=fY ok.S hx r
 have hlen:xs.length=us.toList.length:=q.length
 have hl:σ.s.heap.IsList a us.toList.toArray:=by refine rl Array.toArray_toList ?_;exact ⟨_,g,rfl,n,rfl⟩
 have hn1:σ.s.heap.get? (σ.s.heap.objs.size+1)=none:=by
  cases qq:σ.s.heap.get? (σ.s.heap.objs.size+1) with
  |none=>rfl
  |some o=>exact absurd (Heap.lt_size qq) (Nat.not_lt.mpr (Nat.le_succ _))
 cases hss:fF strOf xs with
 |some ss=>
  rw [hss] at e
  obtain rfl:=aB e
  have hS:=sI hss q
  refine sorted_strs hl hS (by exact N1 (aD (A0 hlen) (N4 h64))) fun out ss' h1 h2 h3=>?_
  obtain ⟨ep,he⟩:=sortedAll_at σ.s.heap us.toList out
  have hu:ss'=oN ss:=by
   refine Dc h2 ?_
   cases ss' with
   |nil=>exact .nil
   |cons x r=>exact Wl r x h3
  subst hu
  exact hQ.at ok (fun b o e=>sortedAll_old e) hn1 he (Bn h1)
 |none=>
  rw [hss] at e
  refine cZ e fun hp e=>?_
  refine Du hl (by exact N1 (aD (A0 hlen) (N4 h64))) fun h₁ P hD hk hP=>?_
  have fin:∀h' tk c (out:List Value),(∀b o,b≠σ.s.heap.objs.size+1→h₁.get? b=some o→h'.get? b=some o)→h'.get? (σ.s.heap.objs.size+1)=some (seqObj "list" out.toArray c)→dK σ.W ys out→P (.done (.ret .none)) { σ.s with heap:=h',toks:=tk }:=by
   intro h' tk c out hk' hc' ry
   have hkk:∀b o,σ.s.heap.get? b=some o→h'.get? b=some o:=fun b o e=>hk' b o (fun q=>by rw [q,hn1] at e;exact nS e) (hk b o e)
   exact hP h' tk c _ hkk hc' (hQ.at ok hkk hn1 hc' ry)
  by_cases h2:xs.length<2
  ·rw [if_pos h2] at e
   obtain rfl:=aB e
   exact vK (s:={ σ.s with heap:=h₁ }) hD (by exact N1 (aD (A0 hlen) (N4 h2))) fun h' c tk hk' hc'=>fin h' tk c _ hk' hc' q
  ·rw [if_neg h2] at e
   obtain rfl:=aB e
   have hz:∀h':Heap,(∀b o,b≠σ.s.heap.objs.size+1→h₁.get? b=some o→h'.get? b=some o)→∀b o,σ.W.σ b=some o→h'.get? b=some o:=fun h' hk' b o eb=>hk' b o (fun q=>by have:=ok.S.froz _ _ eb;rw [q,hn1] at this;exact nS this) (hk b o (ok.S.froz b o eb))
   refine Ak (s:={ σ.s with heap:=h₁ }) (κ:=tuples' true) (ans:=fun i j=>Tw (xs.getD i .none) (xs.getD j .none)) hD (by exact aD (Nat.le_of_not_lt h2) (bM hlen)) (by exact N1 (aD (A0 hlen) (N4 h64))) (fun h' Q hk' hQ=>?_) (fun h' i j tk C hi hj hk' hC=>?_) fun h' c tk hk' hc'=>fin h' tk c _ hk' hc' ?_
   ·refine fU (Gw (hz h' hk') hp q) fun fs t1 t2 t3=>?_
    refine kat_kind (T:=.type "str") t1 (by exact aR (aR (N3 (Nat.le_of_not_lt h2)) (bM hlen)) (A0 t2)) (fun f hf=>?_) rfl hQ
    refine wU (t3 f hf) fun x t e_e=>?_;subst e_e
    exact .now
   ·unfold kas_ask
    have hs':∀i,i<us.toList.length→kK (xs.getD i .none)=true:=by
     intro i hi
     have hi':i<xs.length:=by exact aR hi (A0 hlen)
     refine rl (bA) (rl (aP hi') (rl Option.getD_some ?_))
     exact bR.mp hp xs[i] (cM hi')
    exact BU (s:={ σ.s with heap:=h',toks:=tk }) (hs' i hi) (hs' j hj) (q.getD i) (q.getD j) (hz h' hk') hC
   ·unfold Ar
    refine rl hlen ?_
    exact q.picked _
theorem Gx (hv:Θ.X.gv f=some (.builtin "sorted")) (hg:eW Θ.sc f=true) (h:fK Θ e ce):tW Θ (.Call (.Name f p) [e] [] pos) (.sorted ce):=fun Γ σ R K r Q ev ok hQ=>
 nP hv (.inl ⟨_,rfl⟩) hg (.cons h .nil) (K:=fun vs H=>(nJ vs).bind fun v=>(eC H v).bind fun xs=>(uR xs).bind fun ys=>K (.lst ys) H) ev ok fun vs ws τ l o rs ev=>cV ev fun x hx ev=>cV ev fun xs he ev=>cV ev fun ys hs ev=>by
  refine dF (iH hx rs) fun u e_e ru=>?_;subst e_e
  exact Re o ru he hs fun a W' s' l2 o2 fr=>hQ _ a ⟨W',s',τ.H⟩ (l.trans l2) o2 (fr.up l) ev
theorem Gy (ss:List Str):fM (fun i=>ss.getD i Str.empty) ss.length=ss.foldl Ad []:=by
 unfold fM
 congr 1
 apply List.ext_getElem (by simp)
 intro i h1 h2
 simp [bA,aP h2]
theorem Lg (hv:Θ.X.gv f=some (.builtin "len")) (hv':Θ.X.gv g=some (.type "set")) (hg:eW Θ.sc f=true) (hg':eW Θ.sc g=true) (h:fK Θ e ce) :
  eX Θ (.Call (.Name f p) [.Call (.Name g p2) [e] [] pos2] [] pos) (.prim .setlen (.cons ce .nil)):=fun Γ σ R K r Q ev ok hQ=>by
 have hst:backTo pos (starEach [.Call (.Name g p2) [e] [] pos2] Γ.env)=[(false,eval (.Call (.Name g p2) [e] [] pos2) Γ.env)]:=rfl
 refine wpAny_Call_Name_kw (jL ok hg hv (Calls.callWith_builtin (by refine rl hst ?_;rfl) ?_))
 refine rl hst ?_
 refine Calls.evalArgs_plain (Calls.spliced_cons (nP hv' (.inr ⟨_,rfl⟩) hg' (.cons h .nil) (K:=fun vs H=>(dS H .setlen vs).bind fun v=>K v H) ev ok fun vs ws τ l o rs ev=>cV ev fun v hv ev=>cV hv fun x hx hv=>cV hv fun xs he hv=>cV hv fun ss hss hv=>dU hv fun h6 hv=>?_))
 obtain rfl:=aB hv
 refine dF (iH hx rs) fun u e_e ru=>?_;subst e_e
 obtain ⟨a,rfl,us,n,ga,q⟩:=fY o.S he ru
 have hS:=sI hss q
 have hsz:us.size=ss.length:=by have:=hS.length;rw [cB] at this;exact this
 refine Aj o.A.handled ⟨_,ga,rfl,n,rfl⟩ hS (by unfold scanBound;exact N1 (aW (aD (bM hsz) h6) (aN _))) fun h' tk hSet hk=>?_
 obtain ⟨es,ep,t,ho,_,_,hbd,hfit,hsize,_,_⟩:=hSet
 refine Calls.spliced_nil ?_
 have hkk:∀b o,τ.s.heap.get? b=some o→h'.get? b=some o:=fun b o e=>hk b o (Heap.lt_size e) e
 refine call_len_set ho Ky rfl hfit (by unfold scanBound at hbd;exact Z1 (Bc (N4 hbd))) ?_
 refine rl hsize (rl hsz (rl (Gy ..) ?_))
 exact hQ _ _ (τ.hp h' _) (l.trans (.grow hkk)) (o.grow hkk) RV.int ev
end
end
section
section
variable {Θ:Th}{Γ:Gm Θ}{σ:St}{o e:Expr}{co ce ces:E}{es:List Expr}{f g:Str}{p pos p2 pos2 apos:Pos}{x k z:V}{u u1 u2:Value}{Q:Value→Shared→Prop}
theorem Gz (ok:Ok Γ σ) {t:V×Hp}(e:kJ σ.H x k z=some t) (rx:RV σ.W x u) (rk:RV σ.W k u1) (rz:RV σ.W z u2) (hQ:∀w s',Le σ ⟨σ.W,s',t.2⟩→Ok Γ ⟨σ.W,s',t.2⟩→RV σ.W t.1 w→Q w s') :
  wpAny Θ.X.M Γ.A (call (.builtin "dict.setdefault") [u,u1,u2]) Q fX σ.s:=
 cV e fun y hb e=>cV hb fun i hi h1=>cV h1 fun ob ho h2=>cV h2 fun xs hx h3=>cZ h3 fun hl h4=>cZ e fun hk e=>by
  obtain rfl:=aB h4
  apply Kj hi rx
  intro a g
  refine Fv ok (ho.trans (aQ some (Dp hx))) g hk (bD hl) rz rk (fun v w tk hf rv=>?_) fun hf h' tk x hs=>?_
  ·replace e:(match dfind xs.1 xs.2 k with
    |some v=>some (v,σ.H)
    |none=>some (z,σ.H.set i (.dct (Db ob) (xs.1++[k]) (xs.2++[z]))))=some t:=e
   rw [hf] at e
   obtain rfl:=aB e
   exact hQ w _ .tk ok.tk rv
  ·replace e:(match dfind xs.1 xs.2 k with
    |some v=>some (v,σ.H)
    |none=>some (z,σ.H.set i (.dct (Db ob) (xs.1++[k]) (xs.2++[z]))))=some t:=e
   rw [hf] at e
   obtain rfl:=aB e
   exact hQ u2 _ (oP (tk:=tk) ok g hs x).1 (oP (tk:=tk) ok g hs x).2 rz
theorem Lh (ho:eX Θ o co) (h:iG Θ es ces) (hp:rD o=true) (hl:(apos.endLine == pos.line)=true) (hn:es.length<30):eX Θ (.Call (.Attribute o ("setdefault":Str) apos) es [] pos) (.setDef co ces):=fun Γ σ R K r Q ev ok hQ=>
 pU ho h (iJ hp _) hl F.plainAttrs_dict F.slot_dict_setdefault F.type_dict_setdefault hn (L:=fun x vs H=>(Da vs).bind fun q=>(kJ H x q.1 q.2).bind fun r=>K r.1 r.2) ev ok (fun x u τ l o rx ev=>cZ ev fun hw ev=>⟨(vV o hw rx).1,(vV o hw rx).2,ev⟩)
  fun x u vs ws τ l o rx rs ev=>cV ev fun q hq ev=>cV ev fun t ht ev=>(xH hq rs).elim fun u1 h=>h.elim fun u2 h=>by
   refine rl h.1 ?_
   exact Gz o ht rx h.2.1 h.2.2 fun w s' l2 o2 rv=>hQ _ w ⟨τ.W,s',t.2⟩ (l.trans l2) o2 rv ev
theorem BV {i:Int}{n:Nat}:eX Θ (.UnaryOp .USub (.Constant (.int i) n p) pos) (.const (.int (-i))):=fun Γ σ R K r Q ev ok hQ=>
 wpAny_UnaryOp (wpAny_Constant_int (PyProof.Rows.neg_int (hQ _ _ (σ.tk _) .tk ok.tk RV.int ev)))
theorem Wm {kk:Nat}{p2 p3:Pos}(ha:eX Θ e ce):eX Θ (.Subscript e (.UnaryOp .USub (.Constant (.int 1) kk p2) p3) pos) (.last ce):=fun Γ σ R K r Q ev ok hQ=>
 PyProof.Rows.Subscript_ (ha Γ σ R _ r _ ev ok fun x u τ l o rx ev=>cV ev fun xs hx ev=>cZ ev fun hl ev=>cV ev fun v hv ev=>by
  obtain ⟨a,rfl,us,n,g,q⟩:=fY o.S hx rx
  have hl:=gZ hl
  have hn:=q.size
  refine dF (q.get hv) fun w hw rw'=>?_
  rw [cF] at hw
  have hL:τ.s.heap.IsList a us:=⟨_,g,rfl,n,rfl⟩
  have hpos:0<us.size:=by have:=(aS.mp hv).1;exact aR (cR (N2 (aX _)) this) (bM hn)
  refine wpAny_UnaryOp (wpAny_Constant_int ?_)
  refine PyProof.Rows.neg_int ?_
  refine PyProof.Rows.tail_any (s:=(τ.tk (τ.s.toks+1+1)).s) hL.typeIs slot_list_getitem.lookup (wpAny_getItem_list_neg (x:=w) hL (by decide) (by exact SV hpos) (by decide) ?_ (hQ v w (τ.tk _) (l.trans .tk) o.tk rw' ev)) rfl
  refine rl (show (-1+(us.size:Int)).toNat=xs.length-1 by exact SU hn) ?_
  exact hw)
end
end
section
theorem Rf (a d:Value):argsOk "max" ⟨[a],[("default",d)]⟩:=by unfold argsOk;kernel_rfl
section
variable {prog:Program}{w:World}{A:Around}{E:Value→Shared→Prop}{s:Shared}
theorem BW {id:String}{b:Builtin}{args:List Value}{kw:List (Str×Value)}{Q:Value→Shared→Prop}(hk:builtinKind id=none) (hp:plainId id=true) (hb:entryFor table id=some b) (ha:argsOk id ⟨args,kw⟩)
  (hc:wpAny (model prog w) A.in1 (b ⟨args,kw⟩) (fun fin s'=>match fin with
   |.done f=>(match (Except.ok f:Result) with | .ok (.ret v)=>Q v s' | .ok _=>False | .error e=>E e s')
   |.again c'=>c'.quiet=true∧codeAny (model prog w) A c' (fun r s'=>match r with | .ok (.ret v)=>Q v s' | .ok _=>False | .error e=>E e s') s') E s):wpAny (model prog w) A (call (.builtin id) args kw) Q E s:=by
 refine wpAny_call (codeAny_call_builtin hp hb ?_)
 unfold checkBuiltinCall
 refine rl hk ?_
 unfold argsOk at ha
 cases hsig:Manifest.signature? id with
 |none=>exact aK hc
 |some sig=>
  rw [hsig] at ha
  show wpAny _ A.in1 (Bind.checkArgs id sig ⟨args,kw⟩) _ _ s
  refine rl (show Bind.checkArgs id sig ⟨args,kw⟩=pure () from ha) ?_
  exact aK hc
noncomputable def NS:Option (Int×Tok)→Array Value
 |none=>#[]
 |some q=>#[.int q.1 q.2,.int q.1 q.2]
noncomputable def Wn (d:Int):Option (Int×Tok)→List Int→Int
 |none,js=>maxD d js
 |some q,js=>Ac q.1 js
inductive oT:List Value→List Int→Prop
 |nil:oT [] []
 |cons {vs:List Value}{js:List Int}(j:Int) (t:Tok):oT vs js→oT (.int j t::vs) (j::js)
theorem sO (hh:A.handled=none) {I S l:Addr}{us:Array Value}(hIS:S≠I) (hlI:l≠I) (hlS:l≠S) {d:Int}{td:Tok}{R:Result→Shared→Prop}:∀(js:List Int) (k:Nat) (b:Option (Int×Tok)) (c:Nat) (s:Shared),oT (us.toList.drop k) js→s.heap.IsListIter I l k→s.heap.IsList l us→
  s.heap.get? S=some { cls:=.type "list",dict:=none,data:=.seq (NS b) c,slots:=#[] }→
  (∀t h' tk,(∀a o,a≠I→a≠S→s.heap.get? a=some o→h'.get? a=some o)→R (.ok (.ret (.int (Wn d b js) t))) { s with heap:=h',toks:=tk })→
  codeAny (model prog w) A (.builtin "max.loop" ⟨[.ref I,.none,.ref S],[("default",.int d td)]⟩) R s
 |[],k,b,c,s,ij,hit,hl,hS,hR=>by
  have he:us[k]? = none:=by
   refine rr (cF) ?_
   refine List.getElem?_eq_none (List.drop_eq_nil_iff.mp ?_)
   generalize us.toList.drop k=vs at ij
   cases ij
   rfl
  refine codeAny_builtin F.entry_max_loop ?_
  refine rl (Around.under_plainId F.plain_max_loop _) ?_
  show wpAny _ A.in1 (seqItems? (.ref S) >>= _) _ _ s
  refine aC (wpAny_seqItems hS rfl ?_)
  show wpAny _ A.in1 (tryCatch (pyNext (.ref I)) _ >>= _) _ _ s
  refine aC (wpAny_tryCatch (wpAny_pyNext_list_end hh hit hl he fun h' hx=>?_))
  have hS':=hx S _ hIS hS
  cases b with
  |none=>exact aC (wpAny_rule (aK (hR td h' s.toks fun a o na _ e=>hx a o na e)))
  |some q=>
   show wpAny _ A.in1 (updateSeq S (fun _=>#[]) >>= _) _ _ _
   exact aC (wpAny_updateSeq (s:={ s with heap:=h' }) (xs:=#[.int q.1 q.2,.int q.1 q.2]) (f:=fun _=>#[]) hS' rfl (aC (wpAny_letGo (aK (hR q.2 _ s.toks fun a o na nS e=>(Heap.get?_update_other _ _ (Ne.symm nS)).trans (hx a o na e))))))
 |j::js,k,b,c,s,ij,hit,hl,hS,hR=>by
  obtain ⟨t,he,ij'⟩:∃t,us[k]? = some (.int j t)∧oT (us.toList.drop (k+1)) js:=by
   refine rr (cF) (rr (List.head?_drop) (rr List.tail_drop ?_))
   generalize us.toList.drop k=vs at ij
   cases ij with
   |cons j t r=>exact ⟨t,rfl,r⟩
  have hname:(toString "max"++toString ".loop":String)="max.loop":=by decide
  refine codeAny_builtin F.entry_max_loop ?_
  refine rl (Around.under_plainId F.plain_max_loop _) ?_
  show wpAny _ A.in1 (seqItems? (.ref S) >>= _) _ _ s
  refine aC (wpAny_seqItems hS rfl ?_)
  show wpAny _ A.in1 (tryCatch (pyNext (.ref I)) _ >>= _) _ _ s
  refine aC (wpAny_tryCatch (wpAny_pyNext_list_item hit hl he fun h' hit' hs=>?_))
  have hS':=(hs.2 S hIS).trans hS
  have hl':h'.IsList l us:=hl.elim fun o q=>⟨o,(hs.2 l hlI).trans q.1,q.2⟩
  cases b with
  |none=>
   show wpAny _ A.in1 (updateSeq S (fun _=>#[.int j t,.int j t]) >>= _) _ _ _
   refine aC (wpAny_updateSeq (s:={ s with heap:=h' }) hS' rfl ?_)
   refine rl hname ?_
   refine aK ⟨plainId_quiet F.plain_max_loop _,sO hh hIS hlI hlS js (k+1) (some (j,t)) _ { s with heap:=h'.update S _ } ij' ?_ ?_ (Heap.get?_update_self _ hS' rfl) fun t' h'' tk hx=>?_⟩
   ·exact hit'.elim fun o q=>⟨o,(Heap.get?_update_other _ _ hIS).trans q.1,q.2⟩
   ·exact hl'.elim fun o q=>⟨o,(Heap.get?_update_other _ _ (Ne.symm hlS)).trans q.1,q.2⟩
   ·exact hR t' h'' tk fun a o na nS e=>hx a o na nS ((Heap.get?_update_other _ _ (Ne.symm nS)).trans ((hs.2 a na).trans e))
  |some q=>
   show wpAny _ A.in1 (tryCatch (holding [.int j t,.int j t] (richCompare .Gt (.int j t) (.int q.1 q.2) >>= _)) _ >>= _) _ _ _
   refine aC (wpAny_tryCatch (bS (aC (CmpOf.ints_gt (fun i=>if i=0 then j else q.1) (P:=fun i v=>(i=0∧v=.int j t)∨(i=1∧v=.int q.1 q.2)) (fun i v h=>by
    rcases h with ⟨rfl,rfl⟩ | ⟨rfl,rfl⟩
    ·exact ⟨t,rfl⟩
    ·exact ⟨q.2,rfl⟩) 0 1 _ _ _ _ _ (.inl ⟨rfl,rfl⟩) (.inr ⟨rfl,rfl⟩) ?_))))
   refine aC (bS (wpAny_truthy_bool (aC (wpAny_letGo (aK ?_)))))
   show wpAny _ A.in1 (if decide (q.1<j)=true then _ else _) _ _ _
   cases hb:decide (q.1<j) with
   |true=>
    refine rl (if_pos rfl) ?_
    refine aC (wpAny_updateSeq (s:={ s with heap:=h' }) (xs:=#[.int q.1 q.2,.int q.1 q.2]) (f:=fun _=>#[.int j t,.int j t]) hS' rfl (aC (wpAny_letGo ?_)))
    refine rl hname ?_
    refine aK ⟨plainId_quiet F.plain_max_loop _,sO hh hIS hlI hlS js (k+1) (some (j,t)) _ { s with heap:=h'.update S _ } ij' ?_ ?_ (Heap.get?_update_self _ hS' rfl) fun t' h'' tk hx=>?_⟩
    ·exact hit'.elim fun o q=>⟨o,(Heap.get?_update_other _ _ hIS).trans q.1,q.2⟩
    ·exact hl'.elim fun o q=>⟨o,(Heap.get?_update_other _ _ (Ne.symm hlS)).trans q.1,q.2⟩
    ·have r:=hR t' h'' tk fun a o na nS e=>hx a o na nS ((Heap.get?_update_other _ _ (Ne.symm nS)).trans ((hs.2 a na).trans e))
     have e:Wn d (some q) (j::js)=Ac j js:=aQ (fun m=>Ac m js) (if_pos (bD hb))
     rw [e] at r
     exact r
   |false=>
    refine rl (if_neg Bool.false_ne_true) ?_
    refine aC (wpAny_letGo ?_)
    refine rl hname ?_
    refine aK ⟨plainId_quiet F.plain_max_loop _,sO hh hIS hlI hlS js (k+1) (some q) c { s with heap:=h' } ij' hit' hl' hS' fun t' h'' tk hx=>?_⟩
    have r:=hR t' h'' tk fun a o na nS e=>hx a o na nS ((hs.2 a na).trans e)
    have e:Wn d (some q) (j::js)=Ac q.1 js:=aQ (fun m=>Ac m js) (if_neg (of_decide_eq_false hb))
    rw [e] at r
    exact r
theorem Rg (hh:A.handled=none) {l:Addr}{us:Array Value}{js:List Int}{d:Int}{td:Tok}{Q:Value→Shared→Prop}(hl:s.heap.IsList l us) (ij:oT us.toList js)
  (h:∀t h' tk,(∀a o,s.heap.get? a=some o→h'.get? a=some o)→Q (.int (maxD d js) t) { s with heap:=h',toks:=tk }):wpAny (model prog w) A (call (.builtin "max") [.ref l] [("default",.int d td)]) Q E s:=by
 have hname:(toString "max"++toString ".loop":String)="max.loop":=by decide
 refine BW F.kind_max F.plain_max F.entry_max (Rf _ _) ?_
 show wpAny _ A.in1 (Builtin.Builtins.bindParams "max" ["key","default"] 0 ⟨[],[("default",.int d td)]⟩ >>= _) _ _ s
 refine aC (wpAny_of_eq (show Builtin.Builtins.bindParams "max" ["key","default"] 0 ⟨[],[("default",.int d td)]⟩=pure [none,some (.int d td)] from rfl) ?_)
 refine aC (aK ?_)
 refine aC (wpAny_pyIter_list hl ?_)
 refine aC (wpAny_newObj_type ?_)
 refine rl hname ?_
 have hlt:l<s.heap.objs.size:=hl.elim fun o q=>Heap.lt_size q.1
 have n1:s.heap.objs.size+1≠s.heap.objs.size:=Nat.succ_ne_self _
 refine aK ⟨plainId_quiet F.plain_max_loop _,sO hh (I:=s.heap.objs.size) (S:=(s.heap.push { cls:=.type "list_iterator",data:=.fields #[.ref l,rawInt 0] }).objs.size) (l:=l) (by refine rl (Heap.size_push ..) ?_;exact n1) (Nat.ne_of_lt hlt) (by refine rl (Heap.size_push ..) ?_;exact Nat.ne_of_lt (Nat.lt_succ_of_lt hlt)) js 0 none 0 _ ij
  ⟨_,bB _ (bQ _ rfl),rfl,rfl⟩ ((hl.push _).push _) (bQ _ rfl) fun t h' tk hx=>?_⟩
 exact h t h' tk fun a o e=>hx a o (Nat.ne_of_lt (Heap.lt_size e)) (by refine rl (Heap.size_push ..) ?_;exact Nat.ne_of_lt (Nat.lt_succ_of_lt (Heap.lt_size e))) (bB _ (bB _ e))
end
section
variable {Θ:Th}{Γ:Gm Θ}{σ:St}{e:Expr}{ce:E}{f:Str}{p pos kp pc:Pos}{x v:V}{u:Value}{Q:Value→Shared→Prop}
theorem Nu {W:Wd}:∀{xs:List V}{js:List Int}{us:List Value},fF intOf xs=some js→dK W xs us→oT us js
 |[],_,_,e,r=>by obtain rfl:=aB e;cases (show _=_ from r);exact .nil
 |x::xs,js,us,e,r=>cV e fun j hj e=>dQ e fun js' h e=>by
  subst e
  exact dK.elim (P:=fun us=>oT us (j::js')) r fun v vs r1 r2=>(int_at hj r1).elim fun t q=>q ▸ .cons j t (Nu h r2)
theorem Rh (ok:Ok Γ σ) {i:Int}{td:Tok}(rx:RV σ.W x u) (e:dS σ.H .maxD [x,.int i]=some v) (hQ:Kt Γ σ v Q):wpAny Θ.X.M Γ.A (call (.builtin "max") [u] [("default",.int i td)]) Q fX σ.s:=
 cV (show (eC σ.H x).bind _=some v from e) fun xs hx e=>cV e fun js hj e=>cZ (show gd (small xs) (some (V.int (maxD i js)))=some v from e) fun _ e=>by
  obtain ⟨a,rfl,us,n,g,q⟩:=fY ok.S hx rx
  obtain rfl:=aB e
  exact Rg ok.A.handled ⟨_,g,rfl,n,rfl⟩ (Nu hj q) fun t h' tk hk=>hQ _ σ.W _ (.grow hk) (ok.grow hk) RV.int
theorem Wo {i:Int}{n:Nat}(hv:Θ.X.gv f=some (.builtin "max")) (hg:eW Θ.sc f=true) (ha:fK Θ e ce) :
  eX Θ (.Call (.Name f p) [e] [⟨some "default",.Constant (.int i) n pc,kp⟩] pos) (.prim .maxD (.cons ce (.cons (.const (.int i)) .nil))):=fun Γ σ R K r Q ev ok hQ=>by
 have hst:backTo pos (starEach [e] Γ.env)=[(false,eval e Γ.env)]:=by refine rl (ha.plain.star ..) ?_;rfl
 refine wpAny_Call_Name_kw (jL ok hg hv (PyProof.Rows.callWith_kw ?_ hst (by refine rl hst ?_;rfl)))
 refine rl hst ?_
 exact Calls.spliced_cons (ha.val Γ σ R (fun x H=>(dS H .maxD [x,.int i]).bind fun v=>K v H) r _ ev ok fun x u τ l o rx ev=>Calls.spliced_nil (PyProof.Rows.kws_cons (wpAny_Constant_int (PyProof.Rows.kws_nil (cV ev fun v hv ev=>
  Rh o.tk rx hv fun w W' s' l2 o2 rv=>hQ v w ⟨W',s',τ.H⟩ ((l.trans .tk).trans l2) o2 rv ev)))))
end
end
section
theorem so {α:Type}{a b:α}{P:α→Prop}(k:P a) (h:some a=some b):P b:=aB h ▸ k
noncomputable def hW (Θ:Th) (r:gW):Prop:=∀e sc ce,r e sc=some ce→fK (Θ.at sc) e ce
noncomputable def qM (Θ:Th) (q:vT):Prop:=∀st cs,q st=some cs→jJ Θ st cs
section
variable {Θ:Th}{G:Glob}{r:gW}{sc csc:Scope}{e f:Expr}{ce ca:E}{es:List Expr}{p q pos:Pos}
theorem iX {α:Type}{c:α→Expr}(q:Vw c e) {ce':E}(h:fK Θ (c q.1) ce') (ev:some ce'=some ce):fK Θ e ce:=Eq.ndrec (motive:=fun x=>fK Θ x ce) (so (P:=fK Θ (c q.1)) h ev) q.2.symm
theorem iN (hv:eX Θ e ce) (ht:∀env whole,isTrue e env whole=(do let v ←whole;standAt e.pos;holding [v] (truthy v))) (hp:Ve e):fK Θ e ce:=⟨hv,Ke hv ht,hp⟩
theorem oU (hv:eX Θ (.Call f es [] p) ce):fK Θ (.Call f es [] p) ce:=iN hv (fun _ _=>rfl) ⟨fun _ _=>rfl,fun _=>rfl,fun _ _ _=>rfl,fun _ _=>rfl,fun _ _ _ _ _=>rfl,fun _ _ _ _=>rfl⟩
theorem oV (h:hW Θ r):∀{es:List Expr}{ce:E},Fr r sc es=some ce→iG (Θ.at sc) es ce
 |[],_,e=>so (P:=iG (Θ.at sc) []) .nil e
 |x::xs,_,e=>cV e fun a ha e=>cV e fun b hb e=>so (P:=iG (Θ.at sc) (x::xs)) (.cons (h _ _ _ ha) (oV h hb)) e
theorem GV (h:hW Θ r) {o:Option Expr}(e:PM r o sc=some ce):BI (Θ.at sc) o ce:=by
 cases o with
 |none=>exact (aB e).symm
 |some e'=>exact (h _ _ _ e).val
theorem Hd (h:hW Θ r) {op:BoolOp}:∀{es:List Expr}{ce:E},Df r op sc es=some ce→xG (Θ.at sc) op es ce
 |[],_,ev=>nomatch ev
 |[e],ce,ev=>cV ev fun a ha ev=>so (P:=xG (Θ.at sc) op [e]) (.one (h _ _ _ ha)) ev
 |e::e2::es,ce,ev=>cV ev fun a ha ev=>cV (show (Df r op sc (e2::es)).bind _=_ from ev) fun b hb ev=>so (P:=xG (Θ.at sc) op (e::e2::es)) (.cons (h _ _ _ ha) (Hd h hb)) ev
theorem BX:hW Θ Ug:=fun e sc ce ev=>cV ev fun q _ ev=>cV ev fun v hv ev=>iX q (iN (Be hv) (fun _ _=>rfl) ⟨fun _ _=>rfl,fun _=>rfl,fun _ _ _=>rfl,fun _ _=>rfl,fun _ _ _ _ _=>rfl,fun _ _ _ _=>rfl⟩) ev
theorem NT:hW Θ (MV Θ.ns):=fun e sc ce ev=>cV ev fun q _ ev=>cZ ev fun hl ev=>cV ev fun i hi ev=>iX q (iN (AZ (Θ:=Θ.at sc) hl hi) (fun _ _=>rfl) ⟨fun _ _=>rfl,fun _=>rfl,fun _ _ _=>rfl,fun _ _=>rfl,fun _ _ _ _ _=>rfl,fun _ _ _ _=>rfl⟩) ev
theorem IS (hK:Bb Θ.X G):hW Θ (FT G):=fun e sc ce ev=>cV ev fun q _ ev=>cZ ev fun hg ev=>cV ev fun v hv ev=>iX q (iN (Vf (Θ:=Θ.at sc) hK hg hv) (fun _ _=>rfl) ⟨fun _ _=>rfl,fun _=>rfl,fun _ _ _=>rfl,fun _ _=>rfl,fun _ _ _ _ _=>rfl,fun _ _ _ _=>rfl⟩) ev
theorem NU (h:hW Θ r):hW Θ (MX G r):=fun e sc ce ev=>cV ev fun q _ ev=>cZ ev fun _ ev=>cV ev fun ca ha ev=>cV ev fun cb hb ev=>iX q (iN (BT (h _ _ _ ha).val (h _ _ _ hb).val) (fun _ _=>rfl) ⟨fun _ _=>rfl,fun _=>rfl,fun _ _ _=>rfl,fun _ _=>rfl,fun _ _ _ _ _=>rfl,fun _ _ _ _=>rfl⟩) ev
theorem BY {op:UnaryOp}(h:FV op=true):op=.Not:=by cases op <;> first | rfl | exact fT h
theorem NV (h:hW Θ r):hW Θ (MY r):=fun e sc ce ev=>cV ev fun q _ ev=>cZ ev fun hn ev=>cV ev fun ca ha ev=>iX q (by have:=BC (pos:=q.1.2.2) (h _ _ _ ha);rw [←BY hn] at this;exact this) ev
theorem IT (h:hW Θ r):hW Θ (FW r):=fun e sc ce ev=>cV ev fun q _ ev=>iX q (Kg (Hd h ev)) rfl
theorem Wp {a:Expr}{os os':List CmpOp}{bs bs':List Expr}(h1:os=os') (h2:bs=bs') (k:fK Θ (.Compare a os' bs' p) ce):fK Θ (.Compare a os bs p) ce:=by refine rl h1 (rl h2 ?_);exact k
theorem NW (h:hW Θ r):hW Θ (MZ r):=fun e sc ce ev=>cV ev fun q _ ev=>cV ev fun o _ ev=>cV ev fun b _ ev=>cV ev fun ca ha ev=>cV ev fun cb hb ev=>iX q (Wp o.2 b.2 (BE (h _ _ _ ha).val (h _ _ _ hb))) ev
theorem IU (h:hW Θ r):hW Θ (FX r):=fun e sc ce ev=>cV ev fun q _ ev=>cV ev fun o _ ev=>cV ev fun b _ ev=>cV ev fun ca ha ev=>cV ev fun cb hb ev=>cV ev fun cd hd ev=>iX q (Wp o.2 b.2 (Vh (h _ _ _ ha).val (h _ _ _ hb) (h _ _ _ hd))) ev
theorem NX (h:hW Θ r):hW Θ (NA r):=fun e sc ce ev=>cV ev fun q _ ev=>cV ev fun cb h1 ev=>cV ev fun ct h2 ev=>cV ev fun ce h3 ev=>iX q (Qh (h _ _ _ h1) (h _ _ _ h2) (h _ _ _ h3)) ev
theorem NY (h:hW Θ r):hW Θ (NB r):=fun e sc ce ev=>cV ev fun q _ ev=>cZ ev fun h1 ev=>iX q (iN (Qg (oV h ev) h1) (fun _ _=>rfl) ⟨fun _ _=>rfl,fun _=>rfl,fun _ _ _=>rfl,fun _ _=>rfl,fun _ _ _ _ _=>rfl,fun _ _ _ _=>rfl⟩) rfl
theorem IW (h:hW Θ r):hW Θ (FY G r):=fun e sc ce ev=>cV ev fun q _ ev=>cZ ev fun h1 ev=>cV ev fun ces h2 ev=>iX q (iN (tX (Vg (oV h h2) h1)) (fun _ _=>rfl) ⟨fun _ _=>rfl,fun _=>rfl,fun _ _ _=>rfl,fun _ _=>rfl,fun _ _ _ _ _=>rfl,fun _ _ _ _=>rfl⟩) ev
theorem Ri {i:Expr}(h:(!(i.ctorIdx == 26))=true):∀x y,subscripted i false x y=operate [x,y] (getItem x y):=by
 cases i <;> first | exact fun _ _=>rfl | exact fT h
theorem NZ (h:hW Θ r):hW Θ (NC r):=fun e sc ce ev=>cV ev fun q _ ev=>cZ ev fun hs ev=>cV ev fun ca h1 ev=>cV ev fun ci h2 ev=>iX q (iN (BB (h _ _ _ h1).val (h _ _ _ h2).val (Ri hs)) (fun _ _=>rfl) ⟨fun _ _=>rfl,fun _=>rfl,fun _ _ _=>rfl,fun _ _=>rfl,fun _ _ _ _ _=>rfl,fun _ _ _ _=>rfl⟩) ev
theorem Wq {a i:Expr}{lo hi st:Option Expr}{p2:Pos}(h1:i=.Slice lo hi st p2) (h2:st.isNone=true) (k:eX Θ (.Subscript a (.Slice lo hi none p2) p) ce):fK Θ (.Subscript a i p) ce:=by refine rl h1 (rl (Option.isNone_iff_eq_none.mp h2) ?_);exact iN k (fun _ _=>rfl) ⟨fun _ _=>rfl,fun _=>rfl,fun _ _ _=>rfl,fun _ _=>rfl,fun _ _ _ _ _=>rfl,fun _ _ _ _=>rfl⟩
theorem CA (h:hW Θ r):hW Θ (Uj r):=fun e sc ce ev=>cV ev fun q _ ev=>cV ev fun t _ ev=>cZ ev fun h0 ev=>cV ev fun ca h1 ev=>cV ev fun lo h2 ev=>cV ev fun hi h3 ev=>iX q (Wq t.2 h0 (Qr (h _ _ _ h1).val (GV h h2) (GV h h3))) ev
theorem IX (hO:OS Θ.X G Θ.c Θ.k) (h:hW Θ r):hW Θ (FZ G r):=fun e sc ce ev=>cV ev fun q _ ev=>cZ ev fun hg ev=>cV ev fun k hk ev=>cV ev fun as ha ev=>by
 cases hb:G.bx q.1.2.2.2 with
 |true=>rw [hb] at ev;exact iX q (oU (Qj (Θ:=Θ.at sc) hO hk hg (oV h ha))) ev
 |false=>rw [hb] at ev;exact iX q (oU (Vi (Θ:=Θ.at sc) hO hk hg (oV h ha))) ev
theorem IY {op:Operator}{a b':Expr}(h:FU op=true) (k:eX Θ (.BinOp a .Add b' p) ce):fK Θ (.BinOp a op b' p) ce:=by
 cases op <;> first | (exact fT h;done) | exact iN k (fun _ _=>rfl) ⟨fun _ _=>rfl,fun _=>rfl,fun _ _ _=>rfl,fun _ _=>rfl,fun _ _ _ _ _=>rfl,fun _ _ _ _=>rfl⟩
theorem OA (h:hW Θ r):hW Θ (MW G r):=fun e sc ce ev=>cV ev fun q _ ev=>cZ ev fun _ ev=>cZ ev fun hp ev=>cV ev fun ca h1 ev=>cV ev fun cb h2 ev=>iX q (IY hp (BA (Wj (h _ _ _ h1).val (h _ _ _ h2).val))) ev
theorem Nv {ks ks':List (Option Expr)}{vs vs':List Expr}(h1:ks=ks') (h2:vs=vs') (k:eX Θ (.Dict ks' vs' p) ce):fK Θ (.Dict ks vs p) ce:=by refine rl h1 (rl h2 ?_);exact iN k (fun _ _=>rfl) ⟨fun _ _=>rfl,fun _=>rfl,fun _ _ _=>rfl,fun _ _=>rfl,fun _ _ _ _ _=>rfl,fun _ _ _ _=>rfl⟩
theorem CB:hW Θ (Uh G):=fun e sc ce ev=>cV ev fun q _ ev=>cV ev fun a _ ev=>cV ev fun b _ ev=>iX q (Nv a.1 b.1 (tX Lc)) ev
theorem CC (h:hW Θ r):hW Θ (Ui G r):=fun e sc ce ev=>cV ev fun q _ ev=>cV ev fun a _ ev=>cV ev fun a' _ ev=>cV ev fun b _ ev=>cV ev fun ca h1 ev=>cV ev fun cb h2 ev=>iX q (Nv (a.2.trans (aQ (fun x=>[x]) a'.2)) b.2 (tX (Ld (h _ _ _ h1).val (h _ _ _ h2).val))) ev
theorem Wr (h:hW Θ r):hW Θ (Ng r):=fun e sc ce ev=>
 cV ev fun q _ ev=>cZ ev fun h1 ev=>cZ ev fun h2 ev=>cZ ev fun h3 ev=>cV ev fun co ho ev=>cV ev fun as ha ev=>iX q (oU (Lh (h _ _ _ ho).val (oV h ha) h2 h1 (eq_of_beq h3 ▸ (by decide:2<30)))) ev
theorem IZ (h:hW Θ r):hW Θ (GE G r):=fun e sc ce ev=>
 cV ev fun q _ ev=>cZ ev fun _ ev=>cZ ev fun h1 ev=>cZ ev fun h2 ev=>cZ ev fun h3 ev=>cV ev fun co ho ev=>cV ev fun as ha ev=>iX q (oU (Vr (h _ _ _ ho).val (oV h ha) h2 h1 (by refine rl (eq_of_beq h3) ?_;decide))) ev
theorem He {op:UnaryOp}(h:Jy op=true):op=.USub:=by cases op <;> first | rfl | exact fT h
theorem Ws {c:Const}(h:Ul c=true):c=.int 1:=by cases c <;> first | exact aQ Const.int (eq_of_beq h) | exact fT h
theorem OB {op:UnaryOp}{x:Expr}{c:Const}{k:Nat}{p p3:Pos}(h1:op=.USub) (h2:x=.Constant c k p) (h3:c=.int 1):Expr.UnaryOp op x p3=.UnaryOp .USub (.Constant (.int 1) k p) p3:=by exact rl h1 (rl h2 (rl h3 rfl))
theorem JA {i:Expr}(h:IE i=true):∃k p2 p3,i=.UnaryOp .USub (.Constant (.int 1) k p2) p3:=
 (Option.isSome_iff_exists.mp h).elim fun _ hu=>cV hu fun q _ hu=>cZ hu fun h1 hu=>cV hu fun c _ hu=>cZ hu fun h2 _=>⟨_,_,_,q.2.trans (OB (He h1) c.2 (Ws h2))⟩
theorem CD {a i:Expr}(h:IE i=true) (k:∀n p2 p3,eX Θ (.Subscript a (.UnaryOp .USub (.Constant (.int 1) n p2) p3) p) ce):fK Θ (.Subscript a i p) ce:=by
 refine MA (JA h) fun n p2 p3 e_e=>?_;subst e_e
 exact iN (k n p2 p3) (fun _ _=>rfl) ⟨fun _ _=>rfl,fun _=>rfl,fun _ _ _=>rfl,fun _ _=>rfl,fun _ _ _ _ _=>rfl,fun _ _ _ _=>rfl⟩
theorem Hf {c:Const}{i:Int}(h:IF c=some i):c=.int i:=by cases c <;> first | (exact nS h;done) | (cases h;rfl)
theorem JB {op:UnaryOp}{x:Expr}{c:Const}{k:Nat}{i:Int}{p':Pos}(h1:op=.USub) (h2:x=.Constant c k p') (h3:c=.int i):fK Θ (.UnaryOp op x p) (.const (.int (-i))):=by
 refine rl h1 (rl h2 (rl h3 ?_))
 exact iN BV (fun _ _=>rfl) ⟨fun _ _=>rfl,fun _=>rfl,fun _ _ _=>rfl,fun _ _=>rfl,fun _ _ _ _ _=>rfl,fun _ _ _ _=>rfl⟩
theorem OC:hW Θ NG:=fun e sc ce ev=>cV ev fun q _ ev=>cZ ev fun h1 ev=>cV ev fun c _ ev=>cV ev fun i hi ev=>iX q (JB (He h1) c.2 (Hf hi)) ev
theorem OD {f x d:Expr}{x':Str}{es:List Expr}{ks:List Keyword}{k:Keyword}{c:Const}{n:Nat}{i:Int}{pn pc:Pos}(h1:f=.Name x' pn) (h2:(x' == ("max":Str))=true) (h3:es=[x]) (h4:ks=[k]) (h5:GH k.arg=true) (h6:k.value=.Constant c n pc) (h7:c=.int i)
  (h:∀kp,eX Θ (.Call (.Name ("max":Str) pn) [x] [⟨some "default",.Constant (.int i) n pc,kp⟩] p) ce):fK Θ (.Call f es ks p) ce:=by
 obtain ⟨a,v,kp⟩:=k
 have h5:a=some ("default":Str):=eq_of_beq h5
 have h6:v=.Constant c n pc:=h6
 refine rl h1 (rl (eq_of_beq h2) (rl h3 (rl h4 (rl h5 (rl h6 (rl h7 ?_))))))
 exact iN (h kp) (fun _ _=>rfl) ⟨fun _ _=>rfl,fun _=>rfl,fun _ _ _=>rfl,fun _ _=>rfl,fun _ _ _ _ _=>rfl,fun _ _ _ _=>rfl⟩
theorem JC (hK:Bb Θ.X G) (h:hW Θ r):hW Θ (GI G r):=fun e sc ce ev=>cZ ev fun hb ev=>cV ev fun q _ ev=>cV ev fun f _ ev=>cZ ev fun h2 ev=>cV ev fun a _ ev=>cV ev fun k _ ev=>cZ ev fun h5 ev=>cV ev fun c _ ev=>cV ev fun i hi ev=>cV ev fun ca ha ev=>
 iX q (OD (d:=e) f.2 h2 a.2 k.2 h5 c.2 (Hf hi) fun kp=>Wo (Θ:=Θ.at sc) ((hK.bi _ (aF.mp hb).1).trans (by decide +kernel)) (aF.mp hb).2 (h _ _ _ ha)) ev
theorem JD (h:hW Θ r):hW Θ (GG r):=fun e sc ce ev=>cV ev fun q _ ev=>cZ ev fun hm ev=>cV ev fun ca h1 ev=>iX q (CD hm fun n p2 p3=>Wm (h _ _ _ h1).val) ev
theorem Li {es':List Expr}(h:es=es') (k:eX Θ (.Call f es' [] p) ce):fK Θ (.Call f es [] p) ce:=oU (h ▸ k)
theorem hY {nm:Str}(hK:Bb Θ.X G) (h:Dg G sc nm=true):Θ.X.gv nm=bootBuiltins nm∧eW sc nm=true:=⟨hK.bi nm (aF.mp h).1,(aF.mp h).2⟩
theorem GW (hK:Bb Θ.X G) (h:hW Θ r) {nm:Str}{mk:Pos→E→E}(hs:∀sc e ce p pos,Θ.X.gv nm=bootBuiltins nm→eW sc nm=true→fK (Θ.at sc) e ce→eX (Θ.at sc) (.Call (.Name nm p) [e] [] pos) (mk pos ce)):hW Θ (Ae G r nm mk):=fun e sc ce ev=>
 cZ ev fun hb ev=>cV ev fun q _ ev=>cV ev fun a _ ev=>cV ev fun ca ha ev=>iX q (Li a.2 (hs _ _ _ _ _ (hY hK hb).1 (hY hK hb).2 (h _ _ _ ha))) ev
theorem GY (hK:Bb Θ.X G) (h:hW Θ r) {nm:Str}{mk:E→E→E}(hs:∀sc a b ca cb p pos,Θ.X.gv nm=bootBuiltins nm→eW sc nm=true→fK (Θ.at sc) a ca→fK (Θ.at sc) b cb→eX (Θ.at sc) (.Call (.Name nm p) [a,b] [] pos) (mk ca cb)):hW Θ (IC G r nm mk):=fun e sc ce ev=>
 cZ ev fun hb ev=>cV ev fun q _ ev=>cV ev fun a _ ev=>cV ev fun ca ha ev=>cV ev fun cb hb2 ev=>iX q (Li a.2 (hs _ _ _ _ _ _ _ (hY hK hb).1 (hY hK hb).2 (h _ _ _ ha) (h _ _ _ hb2))) ev
theorem JE (hK:Bb Θ.X G) (h:hW Θ r) {nm nm2:Str}{mk:Pos→E→E}(hs:∀sc e ce p p2 pos pos2,Θ.X.gv nm=bootBuiltins nm→Θ.X.gv nm2=bootBuiltins nm2→eW sc nm=true→eW sc nm2=true→fK (Θ.at sc) e ce→eX (Θ.at sc) (.Call (.Name nm p) [.Call (.Name nm2 p2) [e] [] pos2] [] pos) (mk pos ce)):hW Θ (GB G r nm nm2 mk):=fun e sc ce ev=>
 cZ ev fun hb ev=>cV ev fun q _ ev=>cV ev fun a _ ev=>cV ev fun q2 _ ev=>cV ev fun b _ ev=>cV ev fun ca ha ev=>iX q (Li (a.2.trans (aQ (fun x=>[x]) (q2.2.trans (aQ (fun x=>Expr.Call (.Name nm2 q2.1.1) x [] q2.1.2.2) b.2)))) (hs _ _ _ _ _ _ _ (hY hK (aF.mp hb).1).1 (hY hK (aF.mp hb).2).1 (hY hK (aF.mp hb).1).2 (hY hK (aF.mp hb).2).2 (h _ _ _ ha))) ev
theorem CE (hK:Bb Θ.X G) (h:hW Θ r) {nm:Str}{fv:Value}{pm:Js}(hv:bootBuiltins nm=some fv) (hk:(∃id,fv=.builtin id)∨∃id,fv=.type id)
  (hp:∀(Θ:Th) (Γ:Gm Θ) (σ:St) (vs:List V) (ws:List Value) (v:V) (Q:Value→Shared→Prop),Ok Γ σ→dK σ.W vs ws→dS σ.H pm vs=some v→Kt Γ σ v Q→wpAny Θ.X.M Γ.A (call fv ws) Q fX σ.s):hW Θ (Ae G r nm (p1 pm)):=
 GW hK h fun sc e ce p pos hg hgl he=>xI (Θ:=Θ.at sc) (hg.trans hv) hk hgl (.cons he .nil) (hp _)
theorem JF (hK:Bb Θ.X G) (h:hW Θ r) {nm:Str}{c:E→E}(hs:∀sc e ce p pos,Θ.X.gv nm=bootBuiltins nm→eW sc nm=true→fK (Θ.at sc) e ce→tW (Θ.at sc) (.Call (.Name nm p) [e] [] pos) (c ce)):hW Θ (Ae G r nm (PN G c)):=
 GW hK h fun sc e ce p pos hg hgl he=>tX (hs sc e ce p pos hg hgl he)
theorem JG {nm:Str}{t2 a b:Expr}{pn pb:Pos}{x:Str}(h:es=[a,b]) (hb:b=.Name x pb) (k:eX Θ (.Call (.Name nm pn) [a,.Name x pb] [] p) ce):fK Θ (.Call (.Name nm pn) es [] p) ce:=by refine rl h (rl hb ?_);exact oU k
theorem OE (hK:Bb Θ.X G) (h:hW Θ r):hW Θ (NH G r):=fun e sc ce ev=>cZ ev fun hb ev=>cV ev fun q _ ev=>cV ev fun a _ ev=>cV ev fun ca ha ev=>cV ev fun t ht ev=>cV ht fun y _ ht=>cZ ht fun hy ht=>
 iX q (JG (t2:=e) a.2 y.2 (BG (Θ:=Θ.at sc) ((hY hK hb).1.trans (by decide +kernel)) (hY hK hb).2 (h _ _ _ ha) (hY hK hy).2 ((hY hK hy).1.trans (Qn ht)))) ev
theorem Nw (h:hW Θ r) {m:Str}{n:Nat}{eff:FH}(sl:Slot "list" m (Fz eff)) (ty:typeOf (.builtin (Fz eff))=pure (.type "method_descriptor")) (hn:n<30):hW Θ (Uk r m n eff):=fun e sc ce ev=>
 cV ev fun q _ ev=>cZ ev fun h1 ev=>cZ ev fun h2 ev=>cZ ev fun h3 ev=>cV ev fun co ho ev=>cV ev fun as ha ev=>iX q (oU (BH (h _ _ _ ho).val (oV h ha) h2 h1 sl ty (eq_of_beq h3 ▸ hn))) ev
theorem CF {o a:Expr}{m:Str}{pa pc:Pos}{kk:Nat}(ho:o=.Constant (.str (Str.ofString "")) kk pc) (h:es=[a]) (k:eX Θ (.Call (.Attribute (.Constant (.str (Str.ofString "")) kk pc) m pa) [a] [] p) ce):fK Θ (.Call (.Attribute o m pa) es [] p) ce:=by refine rl ho (rl h ?_);exact oU k
theorem JH (h:hW Θ r):hW Θ (GD r):=fun e sc ce ev=>cV ev fun q _ ev=>cZ ev fun h1 ev=>cV ev fun o _ ev=>cV ev fun a _ ev=>cV ev fun ca ha ev=>iX q (CF o.2 a.2 (Vs (h _ _ _ ha) h1)) ev
theorem OF {e':Expr}{rng:Md}(h:e=e') (k:lD Θ e' rng ce):lD Θ e rng ce:=h ▸ k
theorem Hg {a b':Option (Md×E)}{ci:Md×E}{P:Prop}(h:QJ a b'=some ci) (k1:a=some ci→P) (k2:b'=some ci→P):P:=by
 cases a with
 |none=>exact k2 h
 |some x=>exact k1 h
theorem HA (hK:Bb Θ.X G) (h:hW Θ r) {nm:Str}{md:Md}{ci:Md×E}(hs:∀e ce p pos,Θ.X.gv nm=bootBuiltins nm→eW sc nm=true→fK (Θ.at sc) e ce→lD (Θ.at sc) (.Call (.Name nm p) [e] [] pos) md ce) (hx:IG G r nm md e sc=some ci):lD (Θ.at sc) e ci.1 ci.2:=
 cZ hx fun hb hx=>cV hx fun q _ hx=>cV hx fun a _ hx=>cV hx fun ca ha hx=>so (P:=fun ci:Md×E=>lD (Θ.at sc) e ci.1 ci.2) (OF (q.2.trans (aQ (fun x=>Expr.Call (.Name nm q.1.1) x [] q.1.2.2) a.2)) (hs _ _ _ _ (hY hK hb).1 (hY hK hb).2 (h _ _ _ ha))) hx
theorem Wt (hK:Bb Θ.X G) (h:hW Θ r) {ci:Md×E}(ev:IH G r e sc=some ci):lD (Θ.at sc) e ci.1 ci.2:=
 Hg ev (HA hK h fun e ce p pos hg hgl he=>Gf (Θ:=Θ.at sc) (hg.trans (by decide +kernel)) hgl he) fun ev=>
 Hg ev (HA hK h fun e ce p pos hg hgl he=>Km (Θ:=Θ.at sc) (hg.trans (by decide +kernel)) hgl he) fun ev=>
 cV ev fun a ha ev=>so (P:=fun ci:Md×E=>lD (Θ.at sc) e ci.1 ci.2) (Vu (h _ _ _ ha)) ev
theorem CG (h:hW Θ r) {ifs:List Expr}(ev:GL r sc ifs=some ce):nR (Θ.at sc) ifs ce:=by
 cases ifs with
 |nil=>exact so (P:=nR (Θ.at sc) []) .nil ev
 |cons e es=>exact cV ev fun h1 _ ev=>by refine rl h1.1 ?_;exact .one (h _ _ _ ev).test
theorem Nx (hK:Bb Θ.X G) (h:hW Θ r) {elt:Expr}{g:Comprehension}{c:E}{P:Comprehension→E→Prop}(k:∀t it ifs ct (cit:Md×E) cifs celt,rH Θ.ns sc csc t→Fl Θ.ns csc t=some ct→sD cit.1 ct=true→lD (Θ.at sc) it cit.1 cit.2→nR (Θ.at csc) ifs cifs→fK (Θ.at csc) elt celt→P ⟨t,it,ifs,0⟩ (.comp ct cit.1 cit.2 cifs celt)) (ev:Um G Θ.ns r elt csc sc g=some c):P g c:=
 match g,ev with
 |⟨t,it,ifs,a⟩,ev=>cZ ev fun h0 ev=>cZ ev fun hc ev=>cV ev fun ct h1 ev=>cV ev fun cit h2 ev=>cZ ev fun hw ev=>cV ev fun cifs h3 ev=>cV ev fun celt h4 ev=>
  Eq.ndrec (motive:=fun a=>P ⟨t,it,ifs,a⟩ c) (so (P:=P ⟨t,it,ifs,0⟩) (k t it ifs ct cit cifs celt (Qv hc) h1 hw (Wt hK h h2) (CG h h3) (h _ _ _ h4)) ev) (eq_of_beq (a:=a) h0).symm
theorem CH {elt:Expr}{gs:List Comprehension}{g:Comprehension}(h:gs=[g]) (k:eX Θ (.ListComp elt [g] csc p) ce):fK Θ (.ListComp elt gs csc p) ce:=by refine rl h ?_;exact iN k (fun _ _=>rfl) ⟨fun _ _=>rfl,fun _=>rfl,fun _ _ _=>rfl,fun _ _=>rfl,fun _ _ _ _ _=>rfl,fun h=>nomatch (show true=false from h)⟩
theorem JI (hK:Bb Θ.X G) (h:hW Θ r):hW Θ (GO G Θ.ns r):=fun e sc ce ev=>cV ev fun q _ ev=>cV ev fun g _ ev=>cV ev fun c hc ev=>
 iX q (CH g.2 (tX (Nx hK h (P:=fun g c=>tW (Θ.at sc) (.ListComp q.1.1 [g] q.1.2.2.1 q.1.2.2.2) c) (fun t it ifs ct cit cifs celt a1 a2 a3 a4 a5 a6=>Bi (Θ:=Θ.at sc) a1 a2 a3 a4 a5 a6) hc))) ev
noncomputable def JJ (Θ:Th) (l:List gW):Prop:=∀e sc ce,Dh e sc l=some ce→fK (Θ.at sc) e ce
theorem QO:JJ Θ []:=fun _ _ _ h=>nomatch h
theorem fE {t:gW}{ts:List gW}(h:hW Θ t) (k:JJ Θ ts):JJ Θ (t::ts):=fun e sc ce ev=>by
 replace ev:(match t e sc with | some c=>some c | none=>Dh e sc ts)=some ce:=ev
 split at ev
 ·rename_i c hc;exact so (P:=fK (Θ.at sc) e) (h _ _ _ hc) ev
 ·exact k _ _ _ ev
theorem HB (hK:Bb Θ.X G) (hO:OS Θ.X G Θ.c Θ.k):∀n,hW Θ (QL G Θ.ns n)
 |0=>fun _ _ _ h=>nomatch h
 |n+1=>
  have h:=HB hK hO n
  fE NT
   (fE BX
   (fE (JD h) (fE (NZ h)
   (fE (IX hO h)
   (fE (NY h)
   (fE (NW h)
   (fE (NU h)
   (fE (IT h)
   (fE (JI hK h)
   (fE (CE hK h (fv:=.builtin "len") (by decide +kernel) (.inl ⟨_,rfl⟩) fun Θ Γ σ vs ws v Q ok r e hQ=>Vj ok r e hQ)
   (fE (OE hK h)
   (fE (NV h)
   (fE (IS hK)
   (fE (IW h)
   (fE (Nw h (eff:=.append) slot_list_append F.type_list_append (by decide))
   (fE (IU h)
   (fE (NX h)
   (fE (CA h)
   (fE (OA h)
   (fE CB
   (fE (CC h)
   (fE (CE hK h (fv:=.builtin "all") (by decide +kernel) (.inl ⟨_,rfl⟩) fun Θ Γ σ vs ws v Q ok r e hQ=>Vm ok r e hQ)
   (fE (CE hK h (fv:=.type "tuple") (by decide +kernel) (.inr ⟨_,rfl⟩) fun Θ Γ σ vs ws v Q ok r e hQ=>Ki ok r e hQ)
   (fE (CE hK h (fv:=.type "int") (by decide +kernel) (.inr ⟨_,rfl⟩) fun Θ Γ σ vs ws v Q ok r e hQ=>Kh ok r e hQ)
   (fE (JF hK h fun sc e ce p pos hg hgl he=>Fy (Θ:=Θ.at sc) (hg.trans (by decide +kernel)) hgl he)
   (fE (JF hK h fun sc e ce p pos hg hgl he=>Gu (Θ:=Θ.at sc) (hg.trans (by decide +kernel)) hgl he)
   (fE (JF hK h fun sc e ce p pos hg hgl he=>Gx (Θ:=Θ.at sc) (hg.trans (by decide +kernel)) hgl he)
   (fE (GY hK h fun sc a b ca cb p pos hg hgl ha hb=>xI (Θ:=Θ.at sc) (fv:=.builtin "min") (hg.trans (by decide +kernel)) (.inl ⟨_,rfl⟩) hgl (.cons ha (.cons hb .nil)) fun Γ σ vs ws v Q ok r e hQ=>Vk ok r e hQ)
   (fE (GY hK h fun sc a b ca cb p pos hg hgl ha hb=>xI (Θ:=Θ.at sc) (fv:=.builtin "max") (hg.trans (by decide +kernel)) (.inl ⟨_,rfl⟩) hgl (.cons ha (.cons hb .nil)) fun Γ σ vs ws v Q ok r e hQ=>Vl ok r e hQ)
   (fE (JE hK h fun sc e ce p p2 pos pos2 hg hg2 hgl hgl2 he=>Lg (Θ:=Θ.at sc) (hg.trans (by decide +kernel)) (hg2.trans (by decide +kernel)) hgl hgl2 he)
   (fE (Nw h (eff:=.extend) F.slot_list_extend F.type_list_extend (by decide))
   (fE (Nw h (eff:=.popLast) F.slot_list_pop F.type_list_pop (by decide)) (fE (Wr h) (fE OC (fE (JC hK h) (fE (IZ h) (fE (Nw h (eff:=.popAt) F.slot_list_pop F.type_list_pop (by decide))
   (fE (JH h)
   QO))))))))))))))))))))))))))))))))))))))
end
section
variable {Θ:Th}{G:Glob}{r:gW}{q:vT}{st:Stmt}{cs:S}{p pos:Pos}
theorem Dw {α:Type}{c:α→Stmt}(q:Vw c st) {cs':S}(h:jJ Θ (c q.1) cs') (ev:some cs'=some cs):jJ Θ st cs:=Eq.ndrec (motive:=fun x=>jJ Θ x cs) (so (P:=jJ Θ (c q.1)) h ev) q.2.symm
theorem Ny {ts:List Expr}{t t' v v':Expr}(h1:ts=[t]) (h2:t=t') (h3:v=v') (k:jJ Θ (.Assign [t'] v' pos) cs):jJ Θ (.Assign ts v pos) cs:=by refine rl h1 (rl h2 (rl h3 ?_));exact k
theorem HC {ns:List Str}{sc:Scope}{t t':Expr}{i:Nat}(h:t=t') (k:Tm ns sc t=some i):Tm ns sc t'=some i:=by refine rr h ?_;exact k
theorem OG {ns:List Str}{sc:Scope}{t t':Expr}{i:T}(h:t=t') (k:Fl ns sc t=some i):Fl ns sc t'=some i:=by refine rr h ?_;exact k
theorem Wu {e:Expr}(h:(!Qb e)=true):Qb e=false:=by rw [Bool.not_eq_true'] at h;exact h
theorem JK (h:hW Θ r):qM Θ (NJ Θ.sc r):=fun st cs ev=>cV ev fun q _ ev=>cV ev fun t _ ev=>cV ev fun u _ ev=>cV ev fun cv h1 ev=>cV ev fun ca h2 ev=>cV ev fun ci h3 ev=>
 Dw q (Ny t.2 u.2 rfl (Dt (h _ _ _ h1).val (h _ _ _ h2).val (h _ _ _ h3).val fun env=>(h _ _ _ h1).plain.swS _ _ _ _ env)) ev
theorem CJ (h:hW Θ r):qM Θ (GP Θ.ns Θ.sc r):=fun st cs ev=>cV ev fun q _ ev=>cV ev fun t _ ev=>cV ev fun u _ ev=>cV ev fun i hi ev=>cZ ev fun hl ev=>cV ev fun cv h1 ev=>
 Dw q (Ny t.2 u.2 rfl (Gj (h _ _ _ h1).val (HC u.2 hi) fun env=>(h _ _ _ h1).plain.sw (Wu hl) _ _ env)) ev
theorem CK (hK:Bb Θ.X G) (h:hW Θ r):qM Θ (GQ G Θ.ns Θ.sc r):=fun st cs ev=>cV ev fun q _ ev=>cV ev fun t _ ev=>cV ev fun u _ ev=>cV ev fun i hi ev=>cV ev fun c _ ev=>cV ev fun g _ ev=>cV ev fun cc hc ev=>
 Dw q (Ny t.2 u.2 (c.2.trans (aQ (fun x=>Expr.ListComp c.1.1 x c.1.2.2.1 c.1.2.2.2) g.2)) (Nx hK h (sc:=Θ.sc) (P:=fun g cc=>jJ Θ (.Assign [.Name u.1.1 u.1.2] (.ListComp c.1.1 [g] c.1.2.2.1 c.1.2.2.2) q.1.2.2) (.assign (.slot i) (fb G c.1.2.2.2 cc))) (fun t it ifs ct cit cifs celt a1 a2 a3 a4 a5 a6=>tZ a1 a2 a3 a4 a5 a6 (HC u.2 hi)) hc)) ev
theorem Al {ts:List Expr}{v:Expr}{env:Env}{k:Nat}{tp:Pos}(h:(!(v.ctorIdx == 25))=true):swappedStores [.Tuple ts k tp] v env=pure none:=by
 cases v <;> first | rfl | exact fT h
theorem Rj {ts:List Expr}{v:Expr}{env:Env}{k:Nat}{tp:Pos}(h:∀t line env,swapsWith v t line env=pure false):swapsWithSole [.Tuple ts k tp] v pos.line env=pure false:=h (some (.Tuple ts k tp)) pos.line env
theorem JL (h:hW Θ r):qM Θ (NK Θ.ns Θ.sc r):=fun st cs ev=>cV ev fun q _ ev=>cV ev fun t _ ev=>cV ev fun u _ ev=>cZ ev fun h0 ev=>cZ ev fun hl ev=>cV ev fun ct h1 ev=>cV ev fun cv h2 ev=>
 Dw q (Ny t.2 u.2 rfl (vJ (h _ _ _ h2).val (OG u.2 h1) (fun env=>Rj ((h _ _ _ h2).plain.sw (Wu hl))) fun Γ σ ok=>Al h0)) ev
theorem CL (h:hW Θ r):qM Θ (GR Θ.sc r):=fun st cs ev=>cV ev fun q _ ev=>cZ ev fun hl ev=>cV ev fun e h1 ev=>Dw q (Qx (h _ _ _ h1).val fun env=>(h _ _ _ h1).plain.sw (Wu hl) _ _ env) ev
theorem uC {q:vT}(h:qM Θ q):∀{ss:List Stmt}{css:S},Fs q ss=some css→oS Θ ss css
 |[],_,e=>so (P:=oS Θ []) Qy e
 |x::xs,_,e=>cV e fun a ha e=>cV e fun b hb e=>so (P:=oS Θ (x::xs)) (Ks (h _ _ ha) (uC h hb)) e
theorem OH (h:hW Θ r) (hq:qM Θ q):qM Θ (SE Θ.sc r q):=fun st cs ev=>cV ev fun q _ ev=>cV ev fun cb h1 ev=>cV ev fun ct h2 ev=>cV ev fun ce h3 ev=>Dw q (BL (h _ _ _ h1).test (uC hq h2) (uC hq h3)) ev
theorem JM {t it:Expr}{b els:List Stmt}(h:els=[]) (k:jJ Θ (.For t it b [] pos) cs):jJ Θ (.For t it b els pos) cs:=by refine rl h ?_;exact k
theorem Wv {t:Expr}{b els:List Stmt}(h:els=[]) (k:jJ Θ (.While t b [] pos) cs):jJ Θ (.While t b els pos) cs:=by refine rl h ?_;exact k
theorem Ww (h:hW Θ r) (hq:qM Θ q):qM Θ (Un Θ.sc r q):=fun st cs ev=>cV ev fun q _ ev=>cV ev fun n _ ev=>cV ev fun cb h1 ev=>cV ev fun cs h2 ev=>Dw q (Wv n.1 (Ku (h _ _ _ h1).test (uC hq h2))) ev
theorem JN (hK:Bb Θ.X G) (h:hW Θ r) (hq:qM Θ q):qM Θ (NL G Θ.ns Θ.sc r q):=fun st cs ev=>cV ev fun q _ ev=>cV ev fun n _ ev=>cV ev fun ct h1 ev=>cV ev fun it h2 ev=>cZ ev fun hw ev=>cV ev fun cb h3 ev=>Dw q (JM n.1 (Wa h1 hw (Wt hK h h2) (uC hq h3))) ev
theorem JO (h:hW Θ r):qM Θ (NM Θ.sc r):=fun st cs ev=>cV ev fun q _ ev=>cV ev fun e h1 ev=>Dw q (by
 obtain ⟨⟨o,p⟩,_⟩:=q
 cases o with
 |some e=>exact Vz (h _ _ _ h1).val
 |none=>exact so (P:=fun e=>jJ Θ (.Return none p) (.ret e)) Ah h1) ev
theorem Wx:qM Θ Uo:=fun st cs ev=>cZ ev fun _ ev=>so (P:=jJ Θ st) Kr ev
noncomputable def Wy (Θ:Th) (l:List vT):Prop:=∀st cs,Di st l=some cs→jJ Θ st cs
theorem OI:Wy Θ []:=fun _ _ h=>nomatch h
theorem lW {t:vT}{ts:List vT}(h:qM Θ t) (k:Wy Θ ts):Wy Θ (t::ts):=fun st cs ev=>by
 replace ev:(match t st with | some c=>some c | none=>Di st ts)=some cs:=ev
 split at ev
 ·rename_i c hc;exact so (P:=jJ Θ st) (h _ _ hc) ev
 ·exact k _ _ ev
theorem HD (hK:Bb Θ.X G) (hO:OS Θ.X G Θ.c Θ.k):∀n,qM Θ (PO G Θ.ns Θ.sc n)
 |0=>fun _ _ h=>nomatch h
 |n+1=>
  have h:=HB hK hO n
  have hq:=HD hK hO n
  lW (CJ h) (lW (CK hK h) (lW (OH h hq) (lW (JO h) (lW (CL h) (lW (JN hK h hq) (lW (JK h) (lW (Ww h hq) (lW (JL h) (lW Wx OI)))))))))
end
inductive JP (X:Cx) (G:Glob) (P:Nat→Option Fn) (tf:Nat) (n:Nat) (fa:Addr) (fo:Obj):Prop
 |mk (ps ns:List Str) (sc:Scope) (body:List Stmt) (cb:S) (fd:FuncData) (a:FnAt X ps sc body fa fo fd) (o:BM sc ps) (pre:ps=ns.take ps.length) (t:Fs (PO G ns sc tf) body=some cb) (p:P n=some ⟨ps.length,ns.length-ps.length,cb⟩):JP X G P tf n fa fo
structure HE (X:Cx) (G:Glob) (P:Nat→Option Fn) (tf:Nat):Prop where
 fn:∀f n,G.fn.lookup f=some n→∃fa fo,X.gv f=some (.ref fa)∧JP X G P tf n fa fo
theorem Wz {X:Cx}{G:Glob}(hB:wZ X) (hK:Bb X G) {P:Nat→Option Fn}{tf fuel:Nat}(hP:HE X G P tf):∀k:Nat,OS X G ⟨F P fuel k,fuel⟩ k
 |0=>fun n f hf=>(hP.fn f n hf).elim fun fa h=>h.elim fun fo h=>by
  obtain ⟨ps,ns,sc,body,cb,fd,h1,_⟩:=h.2
  exact ⟨fa,fo,fd,h.1,h1.at_,h1.data,fun A σ args ws r e hA S ra=>nomatch (show none=some r from e)⟩
 |k+1=>fun n f hf=>(hP.fn f n hf).elim fun fa h=>h.elim fun fo h=>by
  obtain ⟨ps,ns,sc,body,cb,fd,h1,h2,h5,h3,h4⟩:=h.2
  refine ⟨fa,fo,fd,h.1,h1.at_,h1.data,fun A σ args ws r e hA S ra=>cV (show (P n).bind _=some r from e) fun g hg e=>?_⟩
  rw [h4] at hg
  obtain rfl:=aB hg
  exact cZ e fun hl e=>Kx (Θ:=⟨X,⟨F P fuel k,fuel⟩,k,ns,sc⟩) hB h1 h2 h5 (uC (HD (Θ:=⟨X,⟨F P fuel k,fuel⟩,k,ns,sc⟩) hK (Wz hB hK hP k) tf) h3) (eq_of_beq hl) e A ws hA S ra
end
theorem rL:∀{ps:List Str}{vals:List Value},ps.Nodup→vals.length=ps.length→∀i (h:i<ps.length) (h':i<vals.length),(ps.zip vals).lookup ps[i]=some vals[i]
 |p::ps,v::vals,hn,hl,0,_,_=>by show (match p == p with | true=>some v | false=>_)=_;refine rl (beq_self_eq_true ..) ?_;rfl
 |p::ps,v::vals,hn,hl,i+1,h,h'=>by
  have hn:=cA.mp hn
  have hne:(ps[i]'(Nat.lt_of_succ_lt_succ h) == p)=false:=bY.mpr fun e=>hn.1 (e ▸ cM _)
  show (match (ps[i]'(Nat.lt_of_succ_lt_succ h) == p) with | true=>some v | false=>_)=_
  refine rl hne ?_
  exact rL hn.2 (Nat.succ.inj hl) i (Nat.lt_of_succ_lt_succ h) (Nat.lt_of_succ_lt_succ h')
 |[],_,_,_,_,h,_=>absurd h (Nat.not_lt_zero _)
 |_::_,[],_,hl,_,_,_=>by exact Nat.noConfusion hl
theorem Hh {α:Type}{c:Bool}{x y z:α}(hc:c=false) (h:y=z):(if c=true then x else y)=z:=by subst hc;exact h
theorem Dx {name qn:Str}{ar:List Arg}{kd:List (Option Expr)}{de:List Expr}{body:FuncBody}{sc:Scope}{gl:Addr}{cl:List (Str×Addr)}{kwd doc pm:Value}{an:Option Addr}{co ct:Value}{bu:Addr}{vals:List Value}
  (hd:(decide (vals.length>(ar.map (fun a:Arg=>a.arg)).length)&&true)=false)
  (hmiss:(!(((ar.map (fun a:Arg=>a.arg)).take ((ar.map (fun a:Arg=>a.arg)).length-0)).filter (fun n=>(((ar.map (fun a:Arg=>a.arg)).zip vals).lookup n).isNone)).isEmpty)=false)
  (hbinds:((ar.map (fun a:Arg=>a.arg))++[]).filterMap (fun n=>(((ar.map (fun a:Arg=>a.arg)).zip vals).lookup n).map (n,·))=(ar.map (fun a:Arg=>a.arg)).zip vals):bindArgs ⟨name,qn,⟨[],ar,none,[],kd,none,de⟩,body,sc,gl,cl,.none,kwd,doc,pm,an,co,ct,bu⟩ ⟨vals,[]⟩=pure ((ar.map (fun a:Arg=>a.arg)).zip vals):=by
 refine Eq.trans (b:=ite ((decide (vals.length>(ar.map (fun a:Arg=>a.arg)).length)&&true)=true) ?_ ?_) ?_ (Hh hd ?_)
 rotate_left
 rotate_left
 ·rfl
 generalize hg:List.drop ((Option.getD (none:Option (Array Value)) #[]).toList.length-_) (Option.getD (none:Option (Array Value)) #[]).toList=dl
 have e:dl=[]:=by refine rr hg ?_;exact List.drop_nil
 have e2:∀xs:List Str,xs.zip dl=[]:=fun xs=>by refine rl e ?_;exact List.zip_nil_right
 generalize hz:(List.drop _ _:List Str).zip dl=zz
 have e3:zz=[]:=hz.symm.trans (e2 _)
 subst e3
 clear hz e2
 subst e
 refine Hh hmiss ?_
 exact aQ (fun b=>(pure b:Sem (List (Str×Value)))) hbinds
theorem Xa {p:Arguments}(h1:p.posonlyargs=[]) (h2:p.kwonlyargs=[]) (h3:p.vararg=none) (h4:p.kwarg=none):p=⟨[],p.args,none,[],p.kw_defaults,none,p.defaults⟩:=by
 cases p;subst h1;subst h2;subst h3;subst h4;rfl
theorem JQ {fd:FuncData}(h1:fd.params.posonlyargs=[]) (h2:fd.params.kwonlyargs=[]) (h3:fd.params.vararg=none) (h4:fd.params.kwarg=none) (h5:fd.defaults=.none):fd=⟨fd.name,fd.qualname,⟨[],fd.params.args,none,[],fd.params.kw_defaults,none,fd.params.defaults⟩,fd.body,fd.scope,fd.globals,fd.closure,.none,fd.kwdefaults,fd.doc,fd.pyModule,fd.annotations,fd.code,fd.closureTuple,fd.builtins⟩:=by
 have e:=Xa h1 h2 h3 h4
 exact rr e (rr h5 rfl)
theorem Hi {fd:FuncData}{vals:List Value}(h1:fd.params.posonlyargs=[]) (h2:fd.params.kwonlyargs=[]) (h3:fd.params.vararg=none) (h4:fd.params.kwarg=none) (h5:fd.defaults=.none)
  (hn:(fd.params.args.map (·.arg)).Nodup) (hl:vals.length=(fd.params.args.map (·.arg)).length):bindArgs fd ⟨vals,[]⟩=pure ((fd.params.args.map (·.arg)).zip vals):=by
 have pure_:∀ps:List Str,ps.Nodup→vals.length=ps.length→(decide (vals.length>ps.length)&&true)=false∧(!((ps.take (ps.length-0)).filter (fun n=>((ps.zip vals).lookup n).isNone)).isEmpty)=false∧(ps++[]).filterMap (fun n=>((ps.zip vals).lookup n).map (n,·))=ps.zip vals:=by
  intro ps hn hl
  refine ⟨?_,?_,?_⟩
  ·refine rl hl (rl (aU (Nat.lt_irrefl _)) ?_);rfl
  ·rw [Nat.sub_zero,List.take_length,List.filter_eq_nil_iff.mpr fun n hm=>?_]
   ·rfl
   ·obtain ⟨i,hi,e⟩:=List.getElem_of_mem hm
    refine rr e (rl (rL hn hl i hi (hl ▸ hi)) ?_)
    exact fun q=>by exact fT q
  ·refine rl (bV ..) ?_
   have:∀(qs:List Str) (us:List Value),us.length=qs.length→(∀i (h:i<qs.length) (h':i<us.length),(ps.zip vals).lookup qs[i]=some us[i])→qs.filterMap (fun n=>((ps.zip vals).lookup n).map (n,·))=qs.zip us:=by
    intro qs
    induction qs with
    |nil=>intro us _ _;rfl
    |cons q qs ih=>
     intro us hu hq
     cases us with
     |nil=>exact Nat.noConfusion hu
     |cons u us=>
      have h0:(ps.zip vals).lookup q=some u:=hq 0 (Nat.succ_pos _) (Nat.succ_pos _)
      refine rl List.filterMap_cons (rl h0 ?_)
      exact aQ ((q,u)::·) (ih us (Nat.succ.inj hu) fun i a b=>hq (i+1) (Nat.succ_lt_succ a) (Nat.succ_lt_succ b))
   exact this ps vals hl fun i h h'=>rL hn hl i h h'
 have p:=pure_ _ hn hl
 exact (aQ (fun f=>bindArgs f ⟨vals,[]⟩) (JQ h1 h2 h3 h4 h5)).trans (Dx p.1 p.2.1 p.2.2)
section
open PySem PyProof.Rows
noncomputable def xT (q:Program) (loose:List Str) (x:Str):Bool:=
 !startupNames.contains x&&!loose.contains x&&!((recsOf q).map (·.name)).contains x&&!((litsOf q).map (·.1)).contains x&&!((clssOf q loose).map (·.name)).contains x
noncomputable def HF (q:Program) (cn:List Nat):List (Str×Nat):=List.zipWith (fun (d:DefRec) (i:Nat)=>(d.name,i)) (recsOf q) cn
noncomputable def uD (p:Arguments):List Str:=p.args.map (·.arg)
noncomputable def xU (p:Arguments):Bool:=p.posonlyargs.isEmpty&&p.kwonlyargs.isEmpty&&p.vararg.isNone&&p.kwarg.isNone
noncomputable def QP (G:Glob) (tf:Nat) (pr:Arguments) (sc:Scope) (body:List Stmt):Option Fn:=
 gd (xU pr&&IJ sc (uD pr) (namesIn sc)) ((Fs (PO G (namesIn sc) sc tf) body).map fun cb=>⟨(uD pr).length,(namesIn sc).length-(uD pr).length,cb⟩)
noncomputable def constOf:PyData→Option V
 |.int i=>some (.int i)
 |.str s=>some (.str s)
 |_=>none
noncomputable def namesOk (q:Program) (loose bn:List Str):Bool:=bn.all fun x=>xT q loose x&&!(x == ("__name__":Str))
noncomputable def sP (q:Program) (gc:List (Str×V)):Prop:=(gc.map fun p=>(valOf q p.1).bind constOf)=gc.map fun p=>some p.2
theorem Nz {α β γ:Type}{f:α→β→γ}{c:γ}:∀{as:List α}{bs:List β},c∈List.zipWith f as bs→∃(i:Nat) (a:α) (b:β),as[i]? = some a∧bs[i]? = some b∧c=f a b
 |a::as,b::bs,h=>by
  rcases aZ.mp h with rfl | h
  ·exact ⟨0,a,b,rfl,rfl,rfl⟩
  ·refine Pv (Nz h) fun i a' b' h1 h2 h3=>?_
   exact ⟨i+1,a',b',h1,h2,h3⟩
 |[],_,h=>by cases h
 |_::_,[],h=>by cases h
section
variable {q prog:Program}{loose:List Str}{mean:ExcName→Option Value}{mg mb:Str→Option Value}{h:Heap}{w:World}
noncomputable def CM (prog:Program) (w:World) (h:Heap) (mg mb:Str→Option Value):Cx:=⟨prog,w,⟨h,eO prog w⟩,fun x=>match mg x with | some v=>some v | none=>mb x⟩
theorem CN (T:Top q loose mean mg mb h):wZ (CM prog w h mg mb):=by
 refine ⟨T.nolimit,rfl,mg,mb,T.g,T.b,fun x v e=>?_⟩
 have e':(match mg x with | some v=>some v | none=>mb x)=some v:=e
 split at e'
 ·rename_i u hu;cases e';exact .inl hu
 ·rename_i hu;exact .inr ⟨hu,e'⟩
theorem CO (T:Top q loose mean mg mb h) {x:Str}(hf:xT q loose x=true):mg x=none:=by
 unfold xT at hf
 simp only [bU,Bool.not_eq_true',List.contains_eq_mem,decide_eq_false_iff_not] at hf
 exact T.free x hf.1.1.1.1 hf.1.1.1.2 hf.1.1.2 hf.1.2 hf.2
theorem Lj {h_:Heap}{d:PyData}{v:V}{u:Value}{W:Wd}(h:constOf d=some v) (r:Reads h_ u d []):RV W v u:=by
 cases d <;> first | exact nS h;done | skip
 ·obtain rfl:=aB h;cases r;exact RV.int
 ·obtain rfl:=aB h;cases r;exact RV.str
theorem JR (T:Top q loose mean mg mb h) {G:Glob}(hn:namesOk q loose G.bn=true) (hc:sP q G.gc):Bb (CM prog w h mg mb) G:=by
 refine ⟨fun x v e=>cV (List.map_inj_left.mp hc (x,v) (eK e)) fun d hd hv=>?_,fun x hx=>?_⟩
 ·refine dF (T.const x d hd) fun u h1 h2=>?_
  exact ⟨u,by show (match mg x with | some v=>some v | none=>mb x)=some u;exact rl h1 rfl,Lj hv (h2 h)⟩
 ·obtain ⟨h1,h2⟩:=aF.mp (bR.mp hn x (List.contains_iff_mem.mp hx))
  show (match mg x with | some v=>some v | none=>mb x)=_
  refine rl (CO T h1) ?_
  exact T.builtins x fun e=>by rw [e] at h2;exact fT h2
theorem Rk {fd:FuncData}{pr:Arguments}(hp:xU pr=true) (h:fd.params=pr) (hd:fd.defaults=.none) (hn:(uD pr).Nodup) (vals:List Value) (hl:vals.length=(uD pr).length):bindArgs fd ⟨vals,[]⟩=pure ((uD pr).zip vals):=by
 unfold xU at hp
 simp only [bU,List.isEmpty_iff,Option.isNone_iff_eq_none] at hp
 subst h
 exact Hi hp.1.1.1 hp.1.1.2 hp.1.2 hp.2 hd hn hl
theorem CP {X:Cx}{G:Glob}{P:Nat→Option Fn}{tf n:Nat}{fa:Addr}{fo:Obj}{fd:FuncData}{pr:Arguments}{sc:Scope}{body:List Stmt}(hs:(P n).isSome=true) (hf:QP G tf pr sc body=P n) (h1:X.B.get? fa=some fo) (h2:fo.data=.func fd) (h3:X.B.hp.CodeRec fd.code fd.qualname)
  (e1:fd.body=.stmts body) (e2:fd.closure=[]) (e3:fd.scope=sc) (e4:fd.globals=mainGlobals) (e5:fd.builtins=builtinsNs) (e6:fd.params=pr) (e7:fd.defaults=.none):JP X G P tf n fa fo:=by
 obtain ⟨f,hp⟩:=Option.isSome_iff_exists.mp hs
 rw [hp] at hf
 refine cZ hf fun hc hf=>dQ hf fun cb ht e=>?_
 obtain ⟨c1,c2⟩:=aF.mp hc
 obtain ⟨o,pre⟩:=BN c2
 exact ⟨_,_,sc,body,cb,fd,⟨h1,h2,h3,e1,e2,e3,e4,e5,Rk c1 e6 e7 o.nodup⟩,o,pre,ht,by exact rl hp (rl e rfl)⟩
theorem JS {α:Type}{k:α→Str}{x:Str}{n:Nat}:∀{as:List α}{cn:List Nat},(x,n)∈List.zipWith (fun (a:α) (i:Nat)=>(k a,i)) as cn→∃(i:Nat) (a:α),as[i]? = some a∧cn[i]? = some n∧k a=x:=fun {as cn} h=>by
 refine Pv (Nz h) fun i a m h1 h2 h3=>?_
 obtain ⟨rfl,rfl⟩:=Prod.mk.inj h3
 exact ⟨i,a,h1,h2,rfl⟩
theorem JT {α:Type}{f:α→Option Fn}{P:Nat→Option Fn}{as:List α}{cn:List Nat}(h:as.map f=cn.map P) {i n:Nat}{a:α}(h1:as[i]? = some a) (h2:cn[i]? = some n):f a=P n:=by
 have e1:(as.map f)[i]? = some (f a):=by refine rl (bG) (rl h1 ?_);rfl
 have e2:(cn.map P)[i]? = some (P n):=by refine rl (bG) (rl h2 ?_);rfl
 rw [h,e2] at e1
 exact (aB e1).symm
structure Xb (q:Program) (cn:List Nat) (G:Glob) (tf:Nat) (P:Nat→Option Fn):Prop where
 fn:G.fn=(HF q cn).filter fun p=>(P p.2).isSome
 defs:(recsOf q).map (fun d=>QP G tf d.params d.scope d.body)=cn.map P
theorem JU (T:Top q loose mean mg mb h) {cn:List Nat}{G:Glob}{tf:Nat}{P:Nat→Option Fn}(k:Xb q cn G tf P):HE (CM prog w h mg mb) G P tf:=by
 refine ⟨fun f n e=>?_⟩
 rw [k.fn] at e
 obtain ⟨e,m2⟩:=List.mem_filter.mp (eK e)
 refine iY (JS (k:=fun d:DefRec=>d.name) e) fun i d h1 hc e_e=>?_;subst e_e
 refine PU (T.fn d (bT h1)) fun a o pm code doc g1 g2 g3 g4=>?_
 have m1:=JT k.defs h1 hc
 exact ⟨a,o,by show (match mg d.name with | some v=>some v | none=>mb d.name)=_;exact rl g1 rfl,CP m2 m1 g2 g3 g4 rfl rfl rfl rfl rfl rfl rfl⟩
end
end
section
open PySem PySem.W PyProof.Rows
theorem items_int {R:WRecords}:∀{xs:List WData},WShape.hasItems R xs .int=true→∃is:List Int,xs=is.map WData.int
 |[],_=>⟨[],rfl⟩
 |x::xs,h=>by
  have h:(WShape.has R x .int&&WShape.hasItems R xs .int)=true:=h
  rw [bU] at h
  obtain ⟨is,rfl⟩:=items_int h.2
  have h1:=h.1
  clear h
  cases x with
  |int i=>exact ⟨i::is,rfl⟩
  |_=>exact absurd (show false=true from h1) Bool.false_ne_true
theorem Rm {R:WRecords}{args:List WData}(h:WShape.hasAll R args [.list .int]=true):∃is:List Int,args=[.list (is.map WData.int)]:=by
 match args,h with
 |[],h=>exact absurd (show false=true from h) Bool.false_ne_true
 |d::_::_,h=>
  have h:(WShape.has R d (.list .int)&&false)=true:=h
  rw [Bool.and_false] at h;cases h
 |[d],h=>
  have h:(WShape.has R d (.list .int)&&true)=true:=h
  rw [Bool.and_true] at h
  cases d with
  |list xs=>
   have h:(WShape.hasItems R xs .int||false)=true:=h
   rw [Bool.or_false] at h
   obtain ⟨is,rfl⟩:=items_int h
   exact ⟨is,rfl⟩
  |_=>exact absurd (show false=true from h) Bool.false_ne_true
theorem Bo {P:Params}{h:Heap}:∀{vs:List Value}{is:List Int},WellAll P h vs (is.map WData.int)→∀{W:Wd},dK W (is.map V.int) vs
 |_,[],w,W=>by cases w;exact dK.nil
 |_,i::is,w,W=>by
  cases w with
  |cons w1 w2=>
   cases w1
   exact .cons RV.int (Bo w2)
theorem vB:∀{is:List Int}{n:Nat},WData.weightAll (is.map WData.int)≤n→is.length≤n∧∀i∈is,intBits i≤n
 |[],n,_=>⟨aX _,by simp⟩
 |i::is,n,h=>by
  simp only [cQ,WData.weightAll,WData.weight] at h
  obtain ⟨h1,h2⟩:=vB (is:=is) (n:=n-1) (by exact SW h)
  refine ⟨by simp only [bF];exact Nat.add_le_of_le_sub (aD (N2 (aW (aW (aX _) (aN _)) (aX _))) h) h1,fun j hj=>?_⟩
  rcases aZ.mp hj with rfl | hj
  ·unfold intBits;exact aD (Nat.le_add_right_of_le (bW _ _)) h
  ·have:=h2 j hj;exact aD this (Nat.sub_le _ _)
noncomputable def Xc (P:Nat→Option Fn) (fuel n:Nat):Prop:=∀is:List Int,is.length≤1048576→(∀i∈is,intBits i≤1048576)→∃fr,F P fuel 100 n [.lst (is.map V.int)] []=some (.bool true,fr,[])
theorem walk_law {l:OpenLaw}{q:Program}{loose:List Str}{XP:(Str→Option Value)→Heap→Prop}{YP:World→Heap→Prop}{d:DefRec}{kwd:List (Str×PySem.Expr)}{cn:List Nat}{G:Glob}{tf fuel n:Nat}{P:Nat→Option Fn}
  (hn:namesOk q (looseW q loose) G.bn=true) (hc:sP q G.gc) (hd:Xb q cn G tf P) (hl:G.fn.lookup d.name=some n) (law:Xc P fuel n) :
  WalkO q loose XP YP l.row.toRowW d kwd (fun f vs=>PySem.call f vs):=by
 intro w s₀ s₁ mg mb Gr Y fa o pm cd doc dV kV ho hdt hcd hD hmg hg args vals as hpre hlay hrd hwl hlo
 have T:=Gr.T
 have hsh:=(pre_splitW hpre).1
 obtain ⟨is,rfl⟩:=Rm hsh
 cases hwl with
 |@cons v vs _ _ hw1 hw2=>
 cases hw2
 cases hw1 with
 |@list a us _ hobj hus=>
 have hB:=CN (prog:=l.row.toRowW.prog) (w:=w) T
 have hK:=JR (prog:=l.row.toRowW.prog) (w:=w)  T hn hc
 have hF:=JU (prog:=l.row.toRowW.prog) (w:=w) T hd
 have hO:=Wz (fuel:=fuel) hB hK hF 100
 have hlay':WData.layable (.list (is.map WData.int))=true:=by
  have:=hlay
  simp only [WData.layableAll,List.all_cons,List.all_nil,Bool.and_true] at this
  exact this
 unfold WData.layable at hlay'
 simp only [bU,bZ] at hlay'
 have hwt:WData.weightAll (is.map WData.int)≤2 ^ 20:=hlay'.2
 obtain ⟨hlen,hbits⟩:=vB hwt
 obtain ⟨fr,hlaw⟩:=law is (by exact hlen) (fun i hi=>by have:=hbits i hi;exact this)
 obtain ⟨fa',fo,fd,g1,g2,g3,run⟩:=hO n d.name hl
 have hfa:fa'=fa:=by
  have g1':(match mg d.name with | some v=>some v | none=>mb d.name)=some (.ref fa'):=g1
  rw [hmg] at g1'
  cases g1';rfl
 subst hfa
 let W0:Wd:=⟨fun b=>if b=a then some (iW "list" us.toArray 0) else none,[],eO l.row.toRowW.prog w⟩
 have S0:SR (CM l.row.toRowW.prog w s₁.heap mg mb).B W0 [] s₁.heap:=by
  refine ⟨fun b o e=>e,fun b ob e=>?_,(fun b m=>by cases m),(fun b m=>by cases m),cG,rfl,(fun i o a e=>by simp at e),rfl⟩
  have e':(if b=a then some (iW "list" us.toArray 0) else none)=some ob:=e
  split at e'
  ·rename_i hb;cases e';rw [hb];exact hobj
  ·cases e'
 have r0:dK W0 [.lst (is.map V.int)] [.ref a]:=.cons (RV.lst ⟨a,us.toArray,0,rfl,if_pos rfl,Bo hus⟩) .nil
 refine wpAny_call (codeAny_mono (run callerA ⟨W0,s₁,[]⟩ _ [.ref a] _ hlaw ⟨rfl,by decide,by decide⟩ S0 r0) fun r s' hr=>?_)
 obtain ⟨wv,rfl,_,W',l,S',rv⟩:=hr
 cases (show _=_ from rv)
 refine GoodW.toG ⟨.inl ⟨.bool true,.bool true,[],rfl,fun cls=>rfl,.bool true,?_,fun _=>⟨cG,by simp⟩⟩,fun b o e=>l.t.keep b o e cE,l.q.os,l.q.gens.trans hg⟩
 exact postW_of (by wrow_shape) (by wtm_val) (by w_fin)
end
noncomputable def xV:Fn:=⟨3,0,(.seq (.ret (.and (.prim (.isinst .int) (.cons (.var 0) .nil)) (.and (.not (.prim (.isinst .bool) (.cons (.var 0) .nil))) (.cmp2 .LtE .LtE (.var 1) (.var 0) (.var 2))))) .skip)⟩
noncomputable def Bp:Fn:=⟨1,1,(.seq (.iff (.or (.not (.prim (.isinst .str) (.cons (.var 0) .nil))) (.not (.cmp2 .LtE .LtE (.const (.int 1)) (.prim .len (.cons (.var 0) .nil)) (.const (.int 8))))) (.seq (.ret (.const (.bool false))) .skip) .skip) (.seq (.ret (.prim .all (.cons (.comp (.slot 1) .plain (.var 0) (.const (.bool true)) (.cmp .In (.var 1) (.const (.str "abcdefghijklmnopqrstuvwxyz")))) .nil))) .skip))⟩
noncomputable def Bq:Fn:=⟨2,2,(.seq (.iff (.or (.not (.prim (.isinst .tuple) (.cons (.var 0) .nil))) (.not (.cmp2 .LtE .LtE (.const (.int 1)) (.prim .len (.cons (.var 0) .nil)) (.const (.int 6))))) (.seq (.ret (.const (.bool false))) .skip) .skip) (.seq (.assign (.slot 2) (.const (.str ""))) (.seq (.forr (.slot 3) .plain (.var 0) (.seq (.iff (.or (.not (.prim (.isinst .tuple) (.cons (.var 3) .nil))) (.or (.cmp .NotEq (.prim .len (.cons (.var 3) .nil)) (.const (.int 2))) (.or (.not (.call 1 (.cons (.sub (.var 3) (.const (.int 0))) .nil))) (.not (.call 0 (.cons (.sub (.var 3) (.const (.int 1))) (.cons (.const (.int 0)) (.cons (.bin .Sub (.var 1) (.const (.int 1))) .nil)))))))) (.seq (.ret (.const (.bool false))) .skip) .skip) (.seq (.iff (.cmp .LtE (.sub (.var 3) (.const (.int 0))) (.var 2)) (.seq (.ret (.const (.bool false))) .skip) .skip) (.seq (.assign (.slot 2) (.sub (.var 3) (.const (.int 0)))) .skip)))) (.seq (.ret (.const (.bool true))) .skip))))⟩
noncomputable def qS:Fn:=⟨2,0,(.seq (.iff (.cmp .Lt (.var 1) (.prim .len (.cons (.var 0) .nil))) (.seq (.ret (.sub (.var 0) (.var 1))) .skip) .skip) (.seq (.ret (.const (.int 0))) .skip))⟩
noncomputable def vC:Fn:=⟨2,0,(.seq (.ret (.bin .Mod (.bin .Mult (.bin .Pow (.bin .Add (.bin .Add (.var 0) (.bin .Mult (.const (.int 7919)) (.var 1))) (.const (.int 11))) (.const (.int 3))) (.const (.int 69621))) (.const (.int 2147483647)))) .skip)⟩
noncomputable def jV:Fn:=⟨1,8,(.seq (.assign (.slot 1) (.const (.str "abcdefghijklmnopqrstuvwxyz"))) (.seq (.assign (.slot 2) (.bin .Add (.const (.int 1)) (.bin .Mod (.bin .FloorDiv (.var 0) (.const (.int 3))) (.const (.int 8))))) (.seq (.assign (.slot 3) (.box (.disp .nil))) (.seq (.forr (.slot 4) .rng (.const (.int 6)) (.seq (.assign (.slot 6) (.box (.comp (.slot 5) .rng (.var 2) (.const (.bool true)) (.sub (.var 1) (.bin .Mod (.bin .Add (.bin .FloorDiv (.var 0) (.const (.int 24))) (.bin .Mult (.const (.int 5)) (.var 5))) (.const (.int 26))))))) (.seq (.assign (.slot 7) (.bin .Mod (.bin .FloorDiv (.var 0) (.const (.int 5))) (.var 2))) (.seq (.setItem (.sub (.var 1) (.bin .Mod (.bin .Add (.bin .FloorDiv (.var 0) (.const (.int 7))) (.bin .Mult (.const (.int 4)) (.var 4))) (.const (.int 26)))) (.var 6) (.var 7)) (.seq (.assign (.slot 8) (.prim .join (.cons (.var 6) .nil))) (.seq (.iff (.cmp .Eq (.bin .Mod (.var 0) (.const (.int 3))) (.const (.int 1))) (.seq (.assign (.slot 8) (.prim .join (.cons (.comp (.slot 5) .rng (.bin .Add (.bin .Add (.var 4) (.const (.int 1))) (.bin .Mod (.bin .FloorDiv (.var 0) (.const (.int 5))) (.const (.int 3)))) (.const (.bool true)) (.sub (.var 1) (.bin .Mod (.bin .Add (.bin .FloorDiv (.var 0) (.const (.int 24))) (.bin .Mult (.const (.int 3)) (.var 5))) (.const (.int 26))))) .nil))) .skip) .skip) (.seq (.iff (.cmp .Eq (.bin .Mod (.var 0) (.const (.int 3))) (.const (.int 2))) (.seq (.assign (.slot 8) (.prim .join (.cons (.comp (.slot 5) .rng (.bin .Add (.const (.int 1)) (.bin .Mod (.bin .Add (.bin .FloorDiv (.var 0) (.const (.int 3))) (.var 4)) (.const (.int 8)))) (.const (.bool true)) (.sub (.var 1) (.bin .Mod (.call 8 (.cons (.var 0) (.cons (.bin .Add (.bin .Mult (.const (.int 9)) (.var 4)) (.var 5)) .nil))) (.const (.int 26))))) .nil))) .skip) .skip) (.seq (.expr (.eff .append (.var 3) (.cons (.var 8) .nil))) .skip)))))))) (.seq (.iff (.cmp .Lt (.prim .setlen (.cons (.var 3) .nil)) (.const (.int 6))) (.seq (.ret (.disp (.cons (.const (.str "ab")) (.cons (.const (.str "abc")) (.cons (.const (.str "b")) (.cons (.const (.str "ba")) (.cons (.const (.str "bab")) (.cons (.const (.str "c")) .nil)))))))) .skip) .skip) (.seq (.ret (.sorted (.var 3))) .skip))))))⟩
noncomputable def lF:Fn:=⟨2,9,(.seq (.assign (.slot 2) (.bin .Add (.const (.int 1)) (.bin .Mod (.var 0) (.const (.int 7))))) (.seq (.iff (.cmp .Eq (.bin .Mod (.bin .FloorDiv (.var 0) (.const (.int 7))) (.const (.int 8))) (.const (.int 1))) (.seq (.assign (.slot 2) (.bin .Add (.const (.int 1)) (.bin .Mod (.var 0) (.const (.int 12))))) .skip) .skip) (.seq (.assign (.slot 3) (.box (.disp .nil))) (.seq (.forr (.slot 4) .rng (.var 2) (.seq (.assign (.slot 5) (.call 8 (.cons (.bin .FloorDiv (.var 0) (.const (.int 56))) (.cons (.bin .Mult (.const (.int 20)) (.var 4)) .nil)))) (.seq (.assign (.slot 6) (.sub (.disp (.cons (.const (.str "send")) (.cons (.const (.str "get")) (.cons (.const (.str "send")) (.cons (.const (.str "get")) (.cons (.const (.str "end")) (.cons (.const (.str "send")) (.cons (.const (.str "get")) .nil)))))))) (.bin .Mod (.var 5) (.const (.int 7))))) (.seq (.iff (.or (.cmp .Eq (.var 6) (.const (.str "end"))) (.and (.cmp .Gt (.var 4) (.const (.int 0))) (.and (.cmp .Eq (.var 4) (.bin .Sub (.var 2) (.const (.int 1)))) (.cmp .Gt (.bin .Mod (.bin .FloorDiv (.var 5) (.const (.int 5))) (.const (.int 3))) (.const (.int 0)))))) (.seq (.expr (.eff .append (.var 3) (.cons (.cons (.const (.str "end")) .nil) .nil))) .skip) (.seq (.assign (.slot 7) (.sub (.disp (.cons (.const (.int 1)) (.cons (.const (.int 2)) (.cons (.const (.int 1)) (.cons (.const (.int 3)) (.cons (.const (.int 2)) (.cons (.const (.int 6)) .nil))))))) (.bin .Mod (.bin .FloorDiv (.var 5) (.const (.int 15))) (.const (.int 6))))) (.seq (.assign (.slot 9) (.comp (.slot 8) .rng (.var 7) (.const (.bool true)) (.sub (.var 1) (.bin .Mod (.bin .Add (.bin .FloorDiv (.var 5) (.const (.int 90))) (.var 8)) (.const (.int 6)))))) (.seq (.assign (.slot 10) (.comp (.slot 8) .rng (.var 7) (.const (.bool true)) (.cons (.sub (.var 9) (.var 8)) (.cons (.call 11 (.cons (.var 0) (.cons (.var 4) (.cons (.var 8) (.cons (.var 2) .nil))))) .nil)))) (.seq (.expr (.eff .append (.var 3) (.cons (.cons (.var 6) (.cons (.prim .tuple (.cons (.sorted (.var 10)) .nil)) .nil)) .nil))) .skip))))) .skip)))) (.seq (.ret (.var 3)) .skip)))))⟩
noncomputable def xX:Fn:=⟨4,1,(.seq (.assign (.slot 4) (.call 8 (.cons (.bin .FloorDiv (.var 0) (.const (.int 56))) (.cons (.bin .Add (.bin .Add (.bin .Mult (.const (.int 20)) (.var 1)) (.const (.int 7))) (.var 2)) .nil)))) (.seq (.ret (.sub (.disp (.cons (.prim .min (.cons (.bin .Add (.var 1) (.const (.int 1))) (.cons (.bin .Sub (.var 3) (.const (.int 1))) .nil))) (.cons (.prim .min (.cons (.bin .Add (.var 1) (.const (.int 1))) (.cons (.bin .Sub (.var 3) (.const (.int 1))) .nil))) (.cons (.bin .Mod (.bin .FloorDiv (.var 4) (.const (.int 4))) (.var 3)) (.cons (.const (.int 0)) .nil))))) (.bin .Mod (.var 4) (.const (.int 4))))) .skip))⟩
structure Gen (P:Nat→Option Fn):Prop where
 is_among:P 0=some xV
 is_word:P 1=some Bp
 is_ways:P 2=some Bq
 law_cell_at:P 7=some qS
 law_mixed:P 8=some vC
 law_words:P 9=some jV
 law_plan:P 10=some lF
 law_goal:P 11=some xX
noncomputable def Br:Fn:=⟨2,0,(.seq (.iff (.or (.not (.prim (.isinst .tuple) (.cons (.var 0) .nil))) (.or (.cmp .Eq (.prim .len (.cons (.var 0) .nil)) (.const (.int 0))) (.not (.prim (.isinst .str) (.cons (.sub (.var 0) (.const (.int 0))) .nil))))) (.seq (.ret (.const (.bool false))) .skip) .skip) (.seq (.iff (.cmp .Eq (.sub (.var 0) (.const (.int 0))) (.const (.str "end"))) (.seq (.ret (.cmp .Eq (.prim .len (.cons (.var 0) .nil)) (.const (.int 1)))) .skip) .skip) (.seq (.ret (.and (.cmp .In (.sub (.var 0) (.const (.int 0))) (.cons (.const (.str "send")) (.cons (.const (.str "get")) .nil))) (.and (.cmp .Eq (.prim .len (.cons (.var 0) .nil)) (.const (.int 2))) (.call 2 (.cons (.sub (.var 0) (.const (.int 1))) (.cons (.var 1) .nil)))))) .skip)))⟩
noncomputable def vD:Fn:=⟨1,1,(.seq (.iff (.or (.not (.prim (.isinst .list) (.cons (.var 0) .nil))) (.not (.cmp2 .LtE .LtE (.const (.int 1)) (.prim .len (.cons (.var 0) .nil)) (.const (.int 12))))) (.seq .stuck .skip) .skip) (.seq (.iff (.not (.prim .all (.cons (.comp (.slot 1) .plain (.var 0) (.const (.bool true)) (.call 3 (.cons (.var 1) (.cons (.prim .len (.cons (.var 0) .nil)) .nil)))) .nil))) (.seq .stuck .skip) .skip) .skip))⟩
noncomputable def Bt:Fn:=⟨1,0,(.seq (.iff (.cmp .Eq (.sub (.var 0) (.const (.int 0))) (.const (.str "end"))) (.seq (.ret .nil) .skip) .skip) (.seq (.ret (.sub (.var 0) (.const (.int 1)))) .skip))⟩
noncomputable def xY:Fn:=⟨1,2,(.seq (.ret (.comp (.tup [1,2]) .plain (.call 15 (.cons (.var 0) .nil)) (.const (.bool true)) (.var 1))) .skip)⟩
noncomputable def nU:Fn:=⟨2,2,(.seq (.forr (.tup [2,3]) .plain (.var 0) (.seq (.iff (.cmp .Eq (.var 2) (.var 1)) (.seq (.ret (.var 3)) .skip) .skip) .skip)) (.seq (.ret (.const .none)) .skip))⟩
noncomputable def qT:Fn:=⟨1,0,(.seq (.iff (.cmp .Eq (.sub (.var 0) (.const (.int 0))) (.const (.str "send"))) (.seq (.ret (.cons (.const (.str "get")) (.cons (.sub (.var 0) (.const (.int 1))) .nil))) .skip) .skip) (.seq (.iff (.cmp .Eq (.sub (.var 0) (.const (.int 0))) (.const (.str "get"))) (.seq (.ret (.cons (.const (.str "send")) (.cons (.sub (.var 0) (.const (.int 1))) .nil))) .skip) .skip) (.seq (.ret (.var 0)) .skip)))⟩
noncomputable def Hj:Fn:=⟨1,1,(.seq (.expr (.call 4 (.cons (.var 0) .nil))) (.seq (.ret (.comp (.slot 1) .plain (.var 0) (.const (.bool true)) (.call 5 (.cons (.var 1) .nil)))) .skip))⟩
noncomputable def jW:Fn:=⟨1,8,(.seq (.assign (.slot 2) (.comp (.slot 1) .plain (.var 0) (.const (.bool true)) (.const (.int 0)))) (.seq (.assign (.slot 3) (.const (.int 0))) (.seq (.whil (.const (.bool true)) (.seq (.assign (.slot 4) (.box (.dict0 false))) (.seq (.assign (.slot 5) (.box (.disp .nil))) (.seq (.forr (.slot 1) .plain (.var 0) (.seq (.assign (.slot 8) (.cons (.sub (.var 1) (.const (.int 0))) (.cons (.prim .tuple (.cons (.comp (.tup [6,7]) .plain (.call 15 (.cons (.var 1) .nil)) (.const (.bool true)) (.cons (.var 6) (.cons (.sub (.var 2) (.var 7)) .nil))) .nil)) .nil))) (.seq (.expr (.eff .append (.var 5) (.cons (.setDef (.var 4) (.cons (.var 8) (.cons (.prim .len (.cons (.var 4) .nil)) .nil))) .nil))) .skip))) (.seq (.iff (.cmp .Eq (.prim .len (.cons (.var 4) .nil)) (.var 3)) (.seq (.ret (.var 5)) .skip) .skip) (.seq (.assign (.slot 2) (.var 5)) (.seq (.assign (.slot 3) (.prim .len (.cons (.var 4) .nil))) .skip))))))) .skip)))⟩
noncomputable def wB:Fn:=⟨1,9,(.seq (.expr (.call 4 (.cons (.var 0) .nil))) (.seq (.assign (.slot 1) (.call 34 (.cons (.var 0) .nil))) (.seq (.assign (.slot 2) (.box (.dict1 (.sub (.var 1) (.const (.int 0))) (.const (.int 0))))) (.seq (.assign (.slot 3) (.box (.disp (.cons (.const (.int 0)) .nil)))) (.seq (.assign (.slot 4) (.const (.int 0))) (.seq (.whil (.cmp .Lt (.var 4) (.prim .len (.cons (.var 3) .nil))) (.seq (.forr (.tup [5,6]) .plain (.call 15 (.cons (.sub (.var 0) (.sub (.var 3) (.var 4))) .nil)) (.seq (.iff (.cmp .NotIn (.sub (.var 1) (.var 6)) (.var 2)) (.seq (.setItem (.prim .len (.cons (.var 3) .nil)) (.var 2) (.sub (.var 1) (.var 6))) (.seq (.expr (.eff .append (.var 3) (.cons (.var 6) .nil))) .skip)) .skip) .skip)) (.seq (.assign (.slot 4) (.bin .Add (.var 4) (.const (.int 1)))) .skip))) (.seq (.assign (.slot 7) (.box (.disp .nil))) (.seq (.forr (.slot 6) .plain (.var 3) (.seq (.assign (.slot 8) (.sub (.var 0) (.var 6))) (.seq (.iff (.cmp .Eq (.sub (.var 8) (.const (.int 0))) (.const (.str "end"))) (.seq (.expr (.eff .append (.var 7) (.cons (.cons (.const (.str "end")) .nil) .nil))) .skip) (.seq (.expr (.eff .append (.var 7) (.cons (.cons (.sub (.var 8) (.const (.int 0))) (.cons (.prim .tuple (.cons (.comp (.tup [5,9]) .plain (.sub (.var 8) (.const (.int 1))) (.const (.bool true)) (.cons (.var 5) (.cons (.sub (.var 2) (.sub (.var 1) (.var 9))) .nil))) .nil)) .nil)) .nil))) .skip)) .skip))) (.seq (.ret (.var 7)) .skip)))))))))⟩
noncomputable def jX:Fn:=⟨2,3,(.seq (.assign (.slot 2) (.cons (.var 0) (.cons (.var 1) .nil))) (.seq (.forr (.slot 3) .plain (.cons (.const (.int 0)) (.cons (.const (.int 1)) .nil)) (.seq (.iff (.and (.cmp .Eq (.sub (.sub (.var 2) (.var 3)) (.const (.int 0))) (.const (.str "send"))) (.cmp .Eq (.sub (.sub (.var 2) (.bin .Sub (.const (.int 1)) (.var 3))) (.const (.int 0))) (.const (.str "get")))) (.seq (.iff (.prim .all (.cons (.comp (.slot 4) .plain (.call 16 (.cons (.sub (.var 2) (.var 3)) .nil)) (.const (.bool true)) (.cmp .In (.var 4) (.call 16 (.cons (.sub (.var 2) (.bin .Sub (.const (.int 1)) (.var 3))) .nil)))) .nil)) (.seq (.ret (.var 3)) .skip) .skip) .skip) .skip) .skip)) (.seq (.ret (.const .none)) .skip)))⟩
noncomputable def jD:Fn:=⟨3,4,(.seq (.assign (.slot 3) (.cons (.sub (.var 0) (.sub (.var 2) (.const (.int 0)))) (.cons (.sub (.var 1) (.sub (.var 2) (.const (.int 1)))) .nil))) (.seq (.assign (.slot 4) (.call 18 (.cons (.sub (.var 3) (.const (.int 0))) (.cons (.sub (.var 3) (.const (.int 1))) .nil)))) (.seq (.iff (.cmp .Is (.var 4) (.const .none)) (.seq (.ret (.disp .nil)) .skip) .skip) (.seq (.assign (.slot 5) (.box (.disp .nil))) (.seq (.forr (.slot 6) .plain (.call 16 (.cons (.sub (.var 3) (.var 4)) .nil)) (.seq (.expr (.eff .append (.var 5) (.cons (.cons (.var 4) (.cons (.var 6) (.cons (.cons (.call 17 (.cons (.call 15 (.cons (.sub (.var 3) (.const (.int 0))) .nil)) (.cons (.var 6) .nil))) (.cons (.call 17 (.cons (.call 15 (.cons (.sub (.var 3) (.const (.int 1))) .nil)) (.cons (.var 6) .nil))) .nil)) .nil))) .nil))) .skip)) (.seq (.ret (.var 5)) .skip))))))⟩
noncomputable def xZ:Fn:=⟨3,1,(.seq (.assign (.slot 3) (.cons (.sub (.var 0) (.sub (.var 2) (.const (.int 0)))) (.cons (.sub (.var 1) (.sub (.var 2) (.const (.int 1)))) .nil))) (.seq (.ret (.or (.and (.cmp .Eq (.sub (.sub (.var 3) (.const (.int 0))) (.const (.int 0))) (.const (.str "end"))) (.cmp .Eq (.sub (.sub (.var 3) (.const (.int 1))) (.const (.int 0))) (.const (.str "end")))) (.cmp .IsNot (.call 18 (.cons (.sub (.var 3) (.const (.int 0))) (.cons (.sub (.var 3) (.const (.int 1))) .nil))) (.const .none)))) .skip))⟩
noncomputable def pW:Fn:=⟨2,6,(.seq (.assign (.slot 2) (.box (.dict1 (.cons (.const (.int 0)) (.cons (.const (.int 0)) .nil)) (.disp .nil)))) (.seq (.assign (.slot 3) (.box (.disp (.cons (.cons (.const (.int 0)) (.cons (.const (.int 0)) .nil)) .nil)))) (.seq (.whil (.cmp .Gt (.prim .len (.cons (.var 3) .nil)) (.const (.int 0))) (.seq (.assign (.slot 4) (.eff .popAt (.var 3) (.cons (.const (.int 0)) .nil))) (.seq (.forr (.tup [5,6,7]) .plain (.call 19 (.cons (.var 0) (.cons (.var 1) (.cons (.var 4) .nil)))) (.seq (.iff (.cmp .NotIn (.var 7) (.var 2)) (.seq (.setItem (.bin .Add (.sub (.var 2) (.var 4)) (.disp (.cons (.cons (.var 5) (.cons (.var 6) .nil)) .nil))) (.var 2) (.var 7)) (.seq (.expr (.eff .append (.var 3) (.cons (.var 7) .nil))) .skip)) .skip) .skip)) .skip))) (.seq (.ret (.var 2)) .skip))))⟩
noncomputable def Xd:Fn:=⟨2,1,(.seq (.expr (.call 4 (.cons (.var 0) .nil))) (.seq (.expr (.call 4 (.cons (.var 1) .nil))) (.seq (.ret (.prim .all (.cons (.comp (.slot 2) .plain (.call 21 (.cons (.var 0) (.cons (.var 1) .nil))) (.const (.bool true)) (.call 20 (.cons (.var 0) (.cons (.var 1) (.cons (.var 2) .nil))))) .nil))) .skip)))⟩
noncomputable def uE:Fn:=⟨1,4,(.seq (.assign (.slot 1) (.box (.dict0 true))) (.seq (.assign (.slot 2) (.const (.int (-1)))) (.seq (.whil (.cmp .Lt (.var 2) (.prim .len (.cons (.var 1) .nil))) (.seq (.assign (.slot 2) (.prim .len (.cons (.var 1) .nil))) (.seq (.forr (.slot 3) .plain (.var 0) (.seq (.iff (.and (.cmp .NotIn (.var 3) (.var 1)) (.prim .all (.cons (.comp (.slot 4) .plain (.sub (.var 0) (.var 3)) (.const (.bool true)) (.cmp .In (.var 4) (.var 1))) .nil))) (.seq (.setItem (.bin .Add (.const (.int 1)) (.prim .maxD (.cons (.comp (.slot 4) .plain (.sub (.var 0) (.var 3)) (.const (.bool true)) (.sub (.var 1) (.var 4))) (.cons (.const (.int 0)) .nil)))) (.var 1) (.var 3)) .skip) .skip) .skip)) .skip))) (.seq (.iff (.cmp .Lt (.prim .len (.cons (.var 1) .nil)) (.prim .len (.cons (.var 0) .nil))) (.seq (.ret (.const .none)) .skip) .skip) (.seq (.ret (.prim .maxD (.cons (.comp (.slot 3) .plain (.var 1) (.const (.bool true)) (.sub (.var 1) (.var 3))) (.cons (.const (.int 0)) .nil)))) .skip)))))⟩
noncomputable def dT:Fn:=⟨2,9,(.seq (.iff (.not (.call 22 (.cons (.var 0) (.cons (.var 1) .nil)))) (.seq .stuck .skip) .skip) (.seq (.assign (.slot 2) (.cons (.box (.dict0 true)) (.cons (.box (.dict0 true)) .nil))) (.seq (.forr (.slot 3) .plain (.call 21 (.cons (.var 0) (.cons (.var 1) .nil))) (.seq (.forr (.tup [4,5,6]) .plain (.call 19 (.cons (.var 0) (.cons (.var 1) (.cons (.var 3) .nil)))) (.seq (.expr (.eff .append (.setDef (.sub (.var 2) (.var 4)) (.cons (.var 3) (.cons (.box (.disp .nil)) .nil))) (.cons (.var 6) .nil))) .skip)) .skip)) (.seq (.assign (.slot 7) (.box (.disp .nil))) (.seq (.forr (.slot 8) .plain (.cons (.const (.int 0)) (.cons (.const (.int 1)) .nil)) (.seq (.assign (.slot 9) (.sub (.var 2) (.bin .Sub (.const (.int 1)) (.var 8)))) (.seq (.assign (.slot 10) (.box (.dict0 true))) (.seq (.forr (.slot 3) .plain (.var 9) (.seq (.setItem (.comp (.slot 6) .plain (.sub (.var 9) (.var 3)) (.cmp .In (.var 6) (.var 9)) (.var 6)) (.var 10) (.var 3)) .skip)) (.seq (.expr (.eff .append (.var 7) (.cons (.call 71 (.cons (.var 10) .nil)) .nil))) .skip))))) (.seq (.ret (.cons (.sub (.var 7) (.const (.int 0))) (.cons (.sub (.var 7) (.const (.int 1))) .nil))) .skip))))))⟩
noncomputable def Hk:Fn:=⟨3,0,(.seq (.iff (.or (.not (.prim (.isinst .tuple) (.cons (.var 0) .nil))) (.or (.cmp .Eq (.prim .len (.cons (.var 0) .nil)) (.const (.int 0))) (.not (.prim (.isinst .str) (.cons (.sub (.var 0) (.const (.int 0))) .nil))))) (.seq (.ret (.const (.bool false))) .skip) .skip) (.seq (.iff (.cmp .Eq (.sub (.var 0) (.const (.int 0))) (.const (.str "end"))) (.seq (.ret (.cmp .Eq (.prim .len (.cons (.var 0) .nil)) (.const (.int 1)))) .skip) .skip) (.seq (.iff (.cmp .NotEq (.prim .len (.cons (.var 0) .nil)) (.const (.int 2))) (.seq (.ret (.const (.bool false))) .skip) .skip) (.seq (.iff (.cmp .Eq (.sub (.var 0) (.const (.int 0))) (.const (.str "send"))) (.seq (.ret (.and (.call 1 (.cons (.sub (.var 0) (.const (.int 1))) .nil)) (.cmp .Lt (.var 1) (.bin .Sub (.var 2) (.const (.int 1)))))) .skip) .skip) (.seq (.iff (.cmp .Eq (.sub (.var 0) (.const (.int 0))) (.const (.str "get"))) (.seq (.ret (.call 2 (.cons (.sub (.var 0) (.const (.int 1))) (.cons (.var 2) .nil)))) .skip) .skip) (.seq (.iff (.cmp .Eq (.sub (.var 0) (.const (.int 0))) (.const (.str "flip"))) (.seq (.ret (.and (.call 0 (.cons (.sub (.var 0) (.const (.int 1))) (.cons (.const (.int 0)) (.cons (.bin .Sub (.var 2) (.const (.int 1))) .nil)))) (.cmp .Lt (.var 1) (.bin .Sub (.var 2) (.const (.int 1)))))) .skip) .skip) (.seq (.ret (.and (.cmp .Eq (.sub (.var 0) (.const (.int 0))) (.const (.str "jump"))) (.call 0 (.cons (.sub (.var 0) (.const (.int 1))) (.cons (.const (.int 0)) (.cons (.bin .Sub (.var 2) (.const (.int 1))) .nil)))))) .skip)))))))⟩
noncomputable def oW:Fn:=⟨1,2,(.seq (.iff (.or (.not (.prim (.isinst .list) (.cons (.var 0) .nil))) (.not (.cmp2 .LtE .LtE (.const (.int 1)) (.prim .len (.cons (.var 0) .nil)) (.const (.int 240))))) (.seq .stuck .skip) .skip) (.seq (.iff (.not (.prim .all (.cons (.comp (.tup [1,2]) .enum (.var 0) (.const (.bool true)) (.call 40 (.cons (.var 2) (.cons (.var 1) (.cons (.prim .len (.cons (.var 0) .nil)) .nil))))) .nil))) (.seq .stuck .skip) .skip) .skip))⟩
noncomputable def qU:Fn:=⟨3,1,(.seq (.assign (.slot 3) (.sub (.var 0) (.var 1))) (.seq (.iff (.cmp .Eq (.sub (.var 3) (.const (.int 0))) (.const (.str "jump"))) (.seq (.ret (.box (.disp (.cons (.cons (.sub (.var 3) (.const (.int 1))) (.cons (.var 2) .nil)) .nil)))) .skip) .skip) (.seq (.ret (.box (.disp (.cons (.cons (.bin .Add (.var 1) (.const (.int 1))) (.cons (.bin .Add (.var 2) (.disp (.cons (.const (.int 0)) .nil))) .nil)) (.cons (.cons (.sub (.var 3) (.const (.int 1))) (.cons (.bin .Add (.var 2) (.disp (.cons (.const (.int 1)) .nil))) .nil)) .nil))))) .skip)))⟩
noncomputable def Hl:Fn:=⟨2,1,(.seq (.iff (.cmp .NotEq (.sub (.var 0) (.const (.int 0))) (.sub (.var 1) (.const (.int 0)))) (.seq (.ret (.const (.bool false))) .skip) .skip) (.seq (.iff (.cmp .Eq (.sub (.var 0) (.const (.int 0))) (.const (.str "send"))) (.seq (.ret (.cmp .In (.sub (.var 0) (.const (.int 1))) (.call 16 (.cons (.var 1) .nil)))) .skip) .skip) (.seq (.ret (.prim .all (.cons (.comp (.slot 2) .plain (.call 16 (.cons (.var 1) .nil)) (.const (.bool true)) (.cmp .IsNot (.call 17 (.cons (.call 15 (.cons (.var 0) .nil)) (.cons (.var 2) .nil))) (.const .none))) .nil))) .skip)))⟩
noncomputable def oX:Fn:=⟨5,3,(.seq (.assign (.slot 5) (.sub (.var 0) (.var 2))) (.seq (.iff (.cmp .Eq (.sub (.var 5) (.const (.int 0))) (.const (.str "send"))) (.seq (.ret (.disp (.cons (.cons (.bin .Add (.var 2) (.const (.int 1))) (.cons (.call 17 (.cons (.sub (.sub (.var 1) (.var 3)) (.const (.int 1))) (.cons (.sub (.var 5) (.const (.int 1))) .nil))) (.cons (.var 4) .nil))) .nil))) .skip) .skip) (.seq (.ret (.comp (.tup [6,7]) .plain (.call 15 (.cons (.sub (.var 1) (.var 3)) .nil)) (.const (.bool true)) (.cons (.call 17 (.cons (.sub (.var 5) (.const (.int 1))) (.cons (.var 6) .nil))) (.cons (.var 7) (.cons (.bin .Add (.var 4) (.disp (.cons (.var 6) .nil))) .nil))))) .skip)))⟩
noncomputable def eG:Fn:=⟨5,6,(.seq (.assign (.slot 5) (.sub (.var 2) (.const (.int 1)))) (.seq (.assign (.slot 6) (.cons (.sub (.var 2) (.const (.int 0))) (.cons (.sub (.var 2) (.const (.int 2))) .nil))) (.seq (.assign (.slot 7) (.box (.disp .nil))) (.seq (.assign (.slot 8) (.box (.dict0 false))) (.seq (.whil (.const (.bool true)) (.seq (.iff (.cmp .IsNot (.var 6) (.const .none)) (.seq (.assign (.tup [9,10]) (.var 6)) (.seq (.assign (.slot 6) (.const .none)) (.seq (.iff (.cmp .In (.var 9) (.var 8)) (.seq (.ret (.var 10)) .skip) .skip) (.seq (.iff (.cmp .NotIn (.cons (.var 9) (.cons (.var 5) .nil)) (.var 3)) (.seq (.setItem (.const (.bool true)) (.var 3) (.cons (.var 9) (.cons (.var 5) .nil))) (.seq (.iff (.cmp .In (.sub (.sub (.var 0) (.var 9)) (.const (.int 0))) (.cons (.const (.str "flip")) (.cons (.const (.str "jump")) .nil))) (.seq (.setItem (.const (.bool true)) (.var 8) (.var 9)) (.seq (.expr (.eff .append (.var 7) (.cons (.cons (.var 9) (.cons (.callB 65 (.cons (.var 0) (.cons (.var 9) (.cons (.var 10) .nil)))) .nil)) .nil))) .skip)) (.seq (.iff (.call 66 (.cons (.sub (.var 0) (.var 9)) (.cons (.sub (.var 1) (.var 5)) .nil))) (.seq (.expr (.eff .extend (.var 4) (.cons (.call 67 (.cons (.var 0) (.cons (.var 1) (.cons (.var 9) (.cons (.var 5) (.cons (.var 10) .nil)))))) .nil))) .skip) (.seq (.ret (.var 10)) .skip)) .skip)) .skip)) .skip) .skip)))) (.seq (.iff (.cmp .Eq (.prim .len (.cons (.var 7) .nil)) (.const (.int 0))) (.seq (.ret (.const .none)) .skip) (.seq (.iff (.cmp .Eq (.prim .len (.cons (.sub (.last (.var 7)) (.const (.int 1))) .nil)) (.const (.int 0))) (.seq (.expr (.dpop (.var 8) (.cons (.sub (.eff .popLast (.var 7) .nil) (.const (.int 0))) .nil))) .skip) (.seq (.assign (.slot 6) (.eff .popAt (.sub (.last (.var 7)) (.const (.int 1))) (.cons (.const (.int 0)) .nil))) .skip)) .skip)) .skip)) .skip)) .skip)))))⟩
noncomputable def sQ:Fn:=⟨2,4,(.seq (.expr (.call 41 (.cons (.var 0) .nil))) (.seq (.expr (.call 4 (.cons (.var 1) .nil))) (.seq (.assign (.slot 2) (.box (.dict0 false))) (.seq (.assign (.slot 3) (.box (.disp (.cons (.cons (.const (.int 0)) (.cons (.const (.int 0)) (.cons (.disp .nil) .nil))) .nil)))) (.seq (.whil (.cmp .Gt (.prim .len (.cons (.var 3) .nil)) (.const (.int 0))) (.seq (.assign (.slot 4) (.eff .popAt (.var 3) (.cons (.const (.int 0)) .nil))) (.seq (.assign (.slot 5) (.call 68 (.cons (.var 0) (.cons (.var 1) (.cons (.var 4) (.cons (.var 2) (.cons (.var 3) .nil))))))) (.seq (.iff (.cmp .IsNot (.var 5) (.const .none)) (.seq (.ret (.listOf (.var 5))) .skip) .skip) .skip)))) (.seq (.ret (.const .none)) .skip))))))⟩
noncomputable def Oa:Fn:=⟨2,0,(.seq (.ret (.cmp .Is (.call 69 (.cons (.var 0) (.cons (.var 1) .nil))) (.const .none))) .skip)⟩
noncomputable def yA:Fn:=⟨1,0,(.seq (.iff (.cmp .Eq (.sub (.var 0) (.const (.int 0))) (.const (.str "send"))) (.seq (.ret (.bin .Sub (.bin .Mult (.const (.int 3)) (.prim .len (.cons (.sub (.var 0) (.const (.int 1))) .nil))) (.const (.int 1)))) .skip) .skip) (.seq (.ret (.const (.int 1))) .skip))⟩
noncomputable def iC:Fn:=⟨1,7,(.seq (.expr (.call 4 (.cons (.var 0) .nil))) (.seq (.assign (.slot 1) (.box (.disp .nil))) (.seq (.assign (.slot 2) (.const (.int 0))) (.seq (.forr (.slot 3) .plain (.var 0) (.seq (.expr (.eff .append (.var 1) (.cons (.var 2) .nil))) (.seq (.assign (.slot 2) (.bin .Add (.var 2) (.call 63 (.cons (.var 3) .nil)))) .skip))) (.seq (.assign (.slot 4) (.box (.disp .nil))) (.seq (.forr (.slot 3) .plain (.var 0) (.seq (.iff (.cmp .Eq (.sub (.var 3) (.const (.int 0))) (.const (.str "end"))) (.seq (.expr (.eff .append (.var 4) (.cons (.cons (.const (.str "end")) .nil) .nil))) .skip) (.seq (.iff (.cmp .Eq (.sub (.var 3) (.const (.int 0))) (.const (.str "get"))) (.seq (.expr (.eff .append (.var 4) (.cons (.cons (.const (.str "get")) (.cons (.prim .tuple (.cons (.comp (.tup [5,6]) .plain (.sub (.var 3) (.const (.int 1))) (.const (.bool true)) (.cons (.var 5) (.cons (.sub (.var 1) (.var 6)) .nil))) .nil)) .nil)) .nil))) .skip) (.seq (.forr (.slot 7) .rng (.prim .len (.cons (.sub (.var 3) (.const (.int 1))) .nil)) (.seq (.assign (.tup [5,6]) (.sub (.sub (.var 3) (.const (.int 1))) (.var 7))) (.seq (.iff (.cmp .Lt (.var 7) (.bin .Sub (.prim .len (.cons (.sub (.var 3) (.const (.int 1))) .nil)) (.const (.int 1)))) (.seq (.expr (.eff .append (.var 4) (.cons (.cons (.const (.str "flip")) (.cons (.bin .Add (.prim .len (.cons (.var 4) .nil)) (.const (.int 3))) .nil)) .nil))) .skip) .skip) (.seq (.expr (.eff .append (.var 4) (.cons (.cons (.const (.str "send")) (.cons (.var 5) .nil)) .nil))) (.seq (.expr (.eff .append (.var 4) (.cons (.cons (.const (.str "jump")) (.cons (.sub (.var 1) (.var 6)) .nil)) .nil))) .skip))))) .skip)) .skip)) .skip)) (.seq (.ret (.var 4)) .skip)))))))⟩
noncomputable def sR:Fn:=⟨2,7,(.seq (.expr (.call 4 (.cons (.var 0) .nil))) (.seq (.expr (.call 4 (.cons (.var 1) .nil))) (.seq (.assign (.slot 2) (.box (.dict1 (.cons (.const (.int 0)) (.cons (.const (.int 0)) .nil)) (.const (.bool true))))) (.seq (.assign (.slot 3) (.box (.disp (.cons (.cons (.const (.int 0)) (.cons (.const (.int 0)) .nil)) .nil)))) (.seq (.whil (.cmp .Gt (.prim .len (.cons (.var 3) .nil)) (.const (.int 0))) (.seq (.assign (.slot 4) (.eff .popLast (.var 3) .nil)) (.seq (.assign (.slot 5) (.cons (.sub (.var 0) (.sub (.var 4) (.const (.int 0)))) (.cons (.sub (.var 1) (.sub (.var 4) (.const (.int 1)))) .nil))) (.seq (.iff (.or (.cmp .NotEq (.sub (.sub (.var 5) (.const (.int 0))) (.const (.int 0))) (.sub (.sub (.var 5) (.const (.int 1))) (.const (.int 0)))) (.cmp .NotEq (.call 16 (.cons (.sub (.var 5) (.const (.int 0))) .nil)) (.call 16 (.cons (.sub (.var 5) (.const (.int 1))) .nil)))) (.seq (.ret (.const (.bool false))) .skip) .skip) (.seq (.forr (.tup [6,7]) .plain (.call 15 (.cons (.sub (.var 5) (.const (.int 0))) .nil)) (.seq (.assign (.slot 8) (.cons (.var 7) (.cons (.call 17 (.cons (.call 15 (.cons (.sub (.var 5) (.const (.int 1))) .nil)) (.cons (.var 6) .nil))) .nil))) (.seq (.iff (.cmp .NotIn (.var 8) (.var 2)) (.seq (.setItem (.const (.bool true)) (.var 2) (.var 8)) (.seq (.expr (.eff .append (.var 3) (.cons (.var 8) .nil))) .skip)) .skip) .skip))) .skip))))) (.seq (.ret (.const (.bool true))) .skip))))))⟩
noncomputable def eZ:Fn:=⟨3,8,(.seq (.assign (.slot 3) (.box (.disp .nil))) (.seq (.assign (.slot 4) (.box (.disp .nil))) (.seq (.assign (.slot 5) (.const (.int 0))) (.seq (.forr (.slot 6) .rng (.prim .len (.cons (.var 1) .nil)) (.seq (.assign (.slot 7) (.call 8 (.cons (.var 0) (.cons (.bin .Mult (.const (.int 30)) (.var 6)) .nil)))) (.seq (.assign (.slot 8) (.listOf (.slice (.sub (.var 1) (.var 6)) (.const (.int 1)) (.const .none)))) (.seq (.assign (.slot 8) (.ite (.cmp .NotEq (.var 8) (.disp .nil)) (.listOf (.sub (.var 8) (.const (.int 0)))) (.disp .nil))) (.seq (.iff (.cmp .Eq (.sub (.sub (.var 1) (.var 6)) (.const (.int 0))) (.const (.str "send"))) (.seq (.assign (.slot 8) (.comp (.slot 9) .rng (.bin .Add (.const (.int 1)) (.bin .Mod (.bin .FloorDiv (.var 7) (.const (.int 18))) (.prim .min (.cons (.const (.int 3)) (.cons (.prim .len (.cons (.var 8) .nil)) .nil))))) (.const (.bool true)) (.sub (.var 8) (.bin .Mod (.bin .Add (.bin .FloorDiv (.var 7) (.const (.int 3))) (.var 9)) (.prim .len (.cons (.var 8) .nil)))))) .skip) .skip) (.seq (.expr (.eff .append (.var 4) (.cons (.var 5) .nil))) (.seq (.expr (.eff .append (.var 3) (.cons (.cons (.var 7) (.cons (.var 8) .nil)) .nil))) (.seq (.assign (.slot 5) (.bin .Add (.bin .Add (.var 5) (.prim .intOf (.cons (.cmp .Gt (.bin .Mod (.var 7) (.const (.int 3))) (.const (.int 0))) .nil))) (.ite (.cmp .Eq (.sub (.sub (.var 1) (.var 6)) (.const (.int 0))) (.const (.str "send"))) (.bin .Sub (.bin .Mult (.const (.int 3)) (.prim .len (.cons (.var 8) .nil))) (.const (.int 1))) (.const (.int 1))))) .skip)))))))) (.seq (.assign (.slot 10) (.box (.disp .nil))) (.seq (.forr (.slot 6) .rng (.prim .len (.cons (.var 1) .nil)) (.seq (.assign (.tup [7,8]) (.sub (.var 3) (.var 6))) (.seq (.iff (.cmp .Gt (.bin .Mod (.var 7) (.const (.int 3))) (.const (.int 0))) (.seq (.expr (.eff .append (.var 10) (.cons (.cons (.sub (.disp (.cons (.const (.str "jump")) (.cons (.const (.str "flip")) .nil))) (.bin .Sub (.bin .Mod (.var 7) (.const (.int 3))) (.const (.int 1)))) (.cons (.bin .Add (.prim .len (.cons (.var 10) .nil)) (.const (.int 1))) .nil)) .nil))) .skip) .skip) (.seq (.assign (.slot 10) (.box (.cat (.var 10) (.call 51 (.cons (.sub (.sub (.var 1) (.var 6)) (.const (.int 0))) (.cons (.var 8) (.cons (.var 4) (.cons (.prim .len (.cons (.var 10) .nil)) (.cons (.cons (.sub (.var 2) (.bin .Mod (.bin .FloorDiv (.var 7) (.const (.int 54))) (.const (.int 6)))) (.cons (.bin .Mod (.bin .FloorDiv (.var 7) (.const (.int 324))) (.const (.int 3))) .nil)) .nil))))))))) .skip)))) (.seq (.ret (.var 10)) .skip)))))))⟩
noncomputable def jM:Fn:=⟨5,5,(.seq (.iff (.cmp .Eq (.var 0) (.const (.str "end"))) (.seq (.ret (.disp (.cons (.cons (.const (.str "end")) .nil) .nil))) .skip) .skip) (.seq (.iff (.cmp .Eq (.var 0) (.const (.str "get"))) (.seq (.assign (.slot 7) (.box (.comp (.tup [5,6]) .plain (.var 1) (.const (.bool true)) (.cons (.var 5) (.cons (.sub (.var 2) (.var 6)) .nil))))) (.seq (.iff (.and (.cmp .Eq (.sub (.var 4) (.const (.int 1))) (.const (.int 1))) (.and (.cmp .Lt (.prim .len (.cons (.var 7) .nil)) (.const (.int 6))) (.cmp .NotIn (.sub (.var 4) (.const (.int 0))) (.dictOf (.var 7))))) (.seq (.expr (.eff .append (.var 7) (.cons (.cons (.sub (.var 4) (.const (.int 0))) (.cons (.last (.var 2)) .nil)) .nil))) .skip) .skip) (.seq (.ret (.disp (.cons (.cons (.const (.str "get")) (.cons (.prim .tuple (.cons (.sorted (.var 7)) .nil)) .nil)) .nil))) .skip))) .skip) (.seq (.assign (.slot 9) (.comp (.slot 8) .rng (.bin .Sub (.prim .len (.cons (.var 1) .nil)) (.const (.int 1))) (.const (.bool true)) (.cons (.const (.str "flip")) (.cons (.bin .Add (.bin .Sub (.bin .Add (.var 3) (.prim .len (.cons (.var 1) .nil))) (.const (.int 1))) (.bin .Mult (.const (.int 2)) (.bin .Add (.var 8) (.const (.int 1))))) .nil)))) (.seq (.forr (.tup [5,6]) .plain (.var 1) (.seq (.assign (.slot 9) (.bin .Add (.var 9) (.disp (.cons (.cons (.const (.str "send")) (.cons (.var 5) .nil)) (.cons (.cons (.const (.str "jump")) (.cons (.sub (.var 2) (.var 6)) .nil)) .nil))))) .skip)) (.seq (.ret (.var 9)) .skip)))))⟩
noncomputable def fN:Fn:=⟨3,8,(.seq (.assign (.slot 3) (.bin .Mod (.var 0) (.prim .len (.cons (.var 1) .nil)))) (.seq (.assign (.slot 4) (.bin .FloorDiv (.var 0) (.const (.int 200)))) (.seq (.assign (.slot 5) (.sub (.var 1) (.var 3))) (.seq (.assign (.slot 6) (.bin .Mod (.bin .FloorDiv (.var 4) (.const (.int 5))) (.prim .len (.cons (.var 1) .nil)))) (.seq (.assign (.slot 9) (.ite (.cmp .Eq (.sub (.var 5) (.const (.int 0))) (.const (.str "get"))) (.comp (.tup [7,8]) .plain (.sub (.var 5) (.const (.int 1))) (.cmp .Eq (.var 8) (.bin .Add (.var 3) (.const (.int 1)))) (.var 7)) (.disp .nil))) (.seq (.iff (.and (.cmp .NotEq (.var 9) (.disp .nil)) (.cmp .Gt (.bin .Mod (.var 4) (.const (.int 3))) (.const (.int 0)))) (.seq (.assign (.slot 5) (.cons (.const (.str "send")) (.cons (.sub (.var 9) (.const (.int 0))) .nil))) .skip) (.seq (.iff (.and (.cmp .Eq (.sub (.var 5) (.const (.int 0))) (.const (.str "get"))) (.and (.cmp .Eq (.bin .Mod (.var 4) (.const (.int 2))) (.const (.int 0))) (.cmp .Gt (.prim .len (.cons (.sub (.var 5) (.const (.int 1))) .nil)) (.const (.int 1))))) (.seq (.assign (.slot 10) (.bin .Mod (.bin .FloorDiv (.var 4) (.const (.int 3))) (.prim .len (.cons (.sub (.var 5) (.const (.int 1))) .nil)))) (.seq (.assign (.slot 5) (.cons (.const (.str "get")) (.cons (.bin .Add (.slice (.sub (.var 5) (.const (.int 1))) (.const .none) (.var 10)) (.slice (.sub (.var 5) (.const (.int 1))) (.bin .Add (.var 10) (.const (.int 1))) (.const .none))) .nil))) .skip)) (.seq (.iff (.cmp .Eq (.sub (.var 5) (.const (.int 0))) (.const (.str "get"))) (.seq (.assign (.slot 5) (.cons (.const (.str "get")) (.cons (.cons (.cons (.sub (.var 2) (.bin .Mod (.bin .FloorDiv (.var 4) (.const (.int 3))) (.const (.int 6)))) (.cons (.var 6) .nil)) .nil) .nil))) .skip) (.seq (.iff (.cmp .Eq (.sub (.var 5) (.const (.int 0))) (.const (.str "send"))) (.seq (.assign (.slot 5) (.sub (.disp (.cons (.cons (.const (.str "send")) (.cons (.sub (.var 2) (.bin .Mod (.bin .FloorDiv (.var 4) (.const (.int 2))) (.const (.int 6)))) .nil)) (.cons (.cons (.const (.str "get")) (.cons (.cons (.cons (.sub (.var 5) (.const (.int 1))) (.cons (.var 6) .nil)) .nil) .nil)) .nil))) (.bin .Mod (.var 4) (.const (.int 2))))) .skip) (.seq (.iff (.cmp .Eq (.sub (.var 5) (.const (.int 0))) (.const (.str "end"))) (.seq (.assign (.slot 5) (.sub (.disp (.cons (.cons (.const (.str "get")) (.cons (.cons (.cons (.sub (.var 2) (.bin .Mod (.var 4) (.const (.int 6)))) (.cons (.var 6) .nil)) .nil) .nil)) (.cons (.cons (.const (.str "jump")) (.cons (.var 6) .nil)) .nil))) (.bin .Mod (.bin .FloorDiv (.var 4) (.const (.int 6))) (.const (.int 2))))) .skip) (.seq (.assign (.slot 5) (.sub (.disp (.cons (.cons (.sub (.var 5) (.const (.int 0))) (.cons (.var 6) .nil)) (.cons (.cons (.const (.str "jump")) (.cons (.var 6) .nil)) (.cons (.cons (.const (.str "end")) .nil) (.cons (.cons (.sub (.var 5) (.const (.int 0))) (.cons (.var 3) .nil)) (.cons (.cons (.sub (.var 5) (.const (.int 0))) (.cons (.prim .max (.cons (.const (.int 0)) (.cons (.bin .Sub (.var 3) (.const (.int 1))) .nil))) .nil)) .nil)))))) (.bin .Mod (.var 4) (.const (.int 5))))) .skip)) .skip)) .skip)) .skip)) .skip)) (.seq (.ret (.bin .Add (.bin .Add (.slice (.var 1) (.const .none) (.var 3)) (.disp (.cons (.var 5) .nil))) (.slice (.var 1) (.bin .Add (.var 3) (.const (.int 1))) (.const .none)))) .skip)))))))⟩
noncomputable def jN:Fn:=⟨3,4,(.seq (.assign (.slot 3) (.bin .Mod (.var 0) (.prim .len (.cons (.var 1) .nil)))) (.seq (.assign (.slot 4) (.sub (.var 1) (.var 3))) (.seq (.iff (.cmp .Eq (.sub (.var 4) (.const (.int 0))) (.const (.str "end"))) (.seq (.ret (.var 1)) .skip) .skip) (.seq (.assign (.slot 5) (.box (.listOf (.sub (.var 4) (.const (.int 1)))))) (.seq (.assign (.slot 6) (.sub (.var 2) (.bin .Mod (.bin .FloorDiv (.var 0) (.const (.int 12))) (.const (.int 6))))) (.seq (.iff (.and (.cmp .Eq (.bin .Mod (.bin .FloorDiv (.var 0) (.const (.int 72))) (.const (.int 2))) (.const (.int 0))) (.cmp .Gt (.prim .len (.cons (.var 5) .nil)) (.const (.int 1)))) (.seq (.expr (.eff .popAt (.var 5) (.cons (.bin .Mod (.bin .FloorDiv (.var 0) (.const (.int 144))) (.prim .len (.cons (.var 5) .nil))) .nil))) .skip) (.seq (.iff (.cmp .NotIn (.var 6) (.dictOf (.var 5))) (.seq (.expr (.eff .append (.var 5) (.cons (.cons (.var 6) (.cons (.bin .Mod (.bin .FloorDiv (.var 0) (.const (.int 144))) (.prim .len (.cons (.var 1) .nil))) .nil)) .nil))) .skip) .skip) .skip)) (.seq (.ret (.bin .Add (.bin .Add (.slice (.var 1) (.const .none) (.var 3)) (.disp (.cons (.cons (.sub (.var 4) (.const (.int 0))) (.cons (.prim .tuple (.cons (.sorted (.var 5)) .nil)) .nil)) .nil))) (.slice (.var 1) (.bin .Add (.var 3) (.const (.int 1))) (.const .none)))) .skip)))))))⟩
noncomputable def Hm:Fn:=⟨2,0,(.seq (.ret (.and (.prim (.isinst .bool) (.cons (.var 0) .nil)) (.cmp .Eq (.var 0) (.var 1)))) .skip)⟩
noncomputable def vE:Fn:=⟨1,9,(.seq (.assign (.slot 1) (.call 9 (.cons (.call 7 (.cons (.var 0) (.cons (.const (.int 0)) .nil))) .nil))) (.seq (.assign (.slot 2) (.call 10 (.cons (.call 7 (.cons (.var 0) (.cons (.const (.int 1)) .nil))) (.cons (.var 1) .nil)))) (.seq (.assign (.slot 3) (.call 7 (.cons (.var 0) (.cons (.const (.int 2)) .nil)))) (.seq (.assign (.slot 4) (.call 6 (.cons (.var 2) .nil))) (.seq (.forr (.slot 5) .rng (.bin .Mod (.var 3) (.const (.int 3))) (.seq (.assign (.slot 4) (.call 26 (.cons (.call 8 (.cons (.var 3) (.cons (.var 5) .nil))) (.cons (.var 4) (.cons (.var 1) .nil))))) .skip)) (.seq (.assign (.slot 6) (.call 35 (.cons (.var 2) .nil))) (.seq (.assign (.slot 7) (.call 50 (.cons (.call 7 (.cons (.var 0) (.cons (.const (.int 3)) .nil))) (.cons (.var 2) (.cons (.var 1) .nil))))) (.seq (.iff (.cmp .Eq (.bin .Mod (.bin .FloorDiv (.var 3) (.const (.int 3))) (.const (.int 2))) (.const (.int 1))) (.seq (.assign (.slot 7) (.call 53 (.cons (.bin .FloorDiv (.var 3) (.const (.int 6))) (.cons (.var 7) (.cons (.var 1) .nil))))) .skip) .skip) (.seq (.iff (.or (.cmp .IsNot (.call 30 (.cons (.var 2) (.cons (.var 6) .nil))) (.const (.bool true))) (.cmp .NotEq (.call 6 (.cons (.var 6) .nil)) (.call 35 (.cons (.call 6 (.cons (.var 2) .nil)) .nil)))) (.seq (.ret (.const (.bool false))) .skip) .skip) (.seq (.assign (.slot 8) (.call 70 (.cons (.var 7) (.cons (.var 2) .nil)))) (.seq (.iff (.or (.not (.call 27 (.cons (.call 70 (.cons (.var 7) (.cons (.var 6) .nil))) (.cons (.var 8) .nil)))) (.not (.call 27 (.cons (.var 8) (.cons (.cmp .Is (.call 69 (.cons (.var 7) (.cons (.var 6) .nil))) (.const .none)) .nil))))) (.seq (.ret (.const (.bool false))) .skip) .skip) (.seq (.iff (.or (.not (.call 70 (.cons (.call 64 (.cons (.var 2) .nil)) (.cons (.var 6) .nil)))) (.not (.call 70 (.cons (.call 64 (.cons (.var 6) .nil)) (.cons (.var 2) .nil))))) (.seq (.ret (.const (.bool false))) .skip) .skip) (.seq (.assign (.slot 9) (.disp (.cons (.call 22 (.cons (.var 2) (.cons (.var 4) .nil))) (.cons (.call 22 (.cons (.var 6) (.cons (.var 4) .nil))) (.cons (.call 22 (.cons (.var 2) (.cons (.call 35 (.cons (.var 4) .nil)) .nil))) (.cons (.call 22 (.cons (.call 35 (.cons (.var 4) .nil)) (.cons (.var 6) .nil))) .nil)))))) (.seq (.iff (.cmp .NotEq (.var 9) (.bin .Mult (.disp (.cons (.sub (.var 9) (.const (.int 0))) .nil)) (.const (.int 4)))) (.seq (.ret (.const (.bool false))) .skip) .skip) (.seq (.ret (.or (.not (.sub (.var 9) (.const (.int 0)))) (.cmp .Eq (.call 72 (.cons (.var 2) (.cons (.var 4) .nil))) (.call 72 (.cons (.var 6) (.cons (.call 35 (.cons (.var 4) .nil)) .nil)))))) .skip)))))))))))))))⟩
structure G8 (P:Nat→Option Fn):Prop where
 place_of:P 17=some nU
 is_row:P 40=some Hk
 need_program:P 41=some oW
structure GF (P:Nat→Option Fn):Prop where
 ways_of:P 15=some Bt
 words_of:P 16=some xY
 place_of:P 17=some nU
 sender_of:P 18=some jX
 pairs_behind:P 19=some jD
 are_good:P 20=some xZ
 roads:P 21=some pW
 fits:P 22=some Xd
structure GN (P:Nat→Option Fn):Prop where
 law_near:P 26=some jN
 law_is:P 27=some Hm
structure GT (P:Nat→Option Fn):Prop where
 turned_stop:P 5=some qT
 turned:P 6=some Hj
structure GK (P:Nat→Option Fn):Prop where
 silent_from:P 65=some qU
 is_let:P 66=some Hl
 letters_from:P 67=some oX
 gone_along:P 68=some eG
 broken:P 69=some sQ
 keeps:P 70=some Oa
structure GS (P:Nat→Option Fn):Prop where
 groups_of:P 34=some jW
 small:P 35=some wB
structure GA (P:Nat→Option Fn):Prop where
 alike:P 30=some sR
structure GM (P:Nat→Option Fn):Prop where
 longest:P 71=some uE
 most_letters:P 72=some dT
structure GX (P:Nat→Option Fn):Prop where
 is_stop:P 3=some Br
 need_plan:P 4=some vD
 rows_for:P 63=some yA
 followed:P 64=some iC
 law_program:P 50=some eZ
 law_rows:P 51=some jM
 law_bent:P 53=some fN
 law:P 14=some vE
noncomputable def OJ:List (Option Fn):=[some xV,some Bp,some Bq,some Br,some vD,some qT,some Hj,some qS,some vC,some jV,some lF,some xX,none,none,some vE,some Bt,some xY,some nU,some jX,some jD,some xZ,some pW,some Xd,none,none,none,some jN,some Hm,none,none,some sR,none,none,none,some jW,some wB,none,none,none,none,some Hk,some oW,none,none,none,none,none,none,none,none,some eZ,some jM,none,some fN,none,none,none,none,none,none,none,none,none,some yA,some iC,some qU,some Hl,some oX,some eG,some sQ,some Oa,some uE,some dT]
noncomputable def Ob (n:Nat):Option Fn:=(OJ[n]?).join
theorem QQ:G8 Ob:=⟨rfl,rfl,rfl⟩
theorem QR:GF Ob:=⟨rfl,rfl,rfl,rfl,rfl,rfl,rfl,rfl⟩
theorem QS:GN Ob:=⟨rfl,rfl⟩
theorem QT:GT Ob:=⟨rfl,rfl⟩
theorem QU:GK Ob:=⟨rfl,rfl,rfl,rfl,rfl,rfl⟩
theorem QV:GS Ob:=⟨rfl,rfl⟩
theorem QW:GA Ob:=⟨rfl⟩
theorem QX:GM Ob:=⟨rfl,rfl⟩
theorem QY:GX Ob:=⟨rfl,rfl,rfl,rfl,rfl,rfl,rfl,rfl⟩
section
noncomputable def S.tl:S→S
 |.seq _ b=>b
 |s=>s
noncomputable def S.hd:S→S
 |.seq a _=>a
 |s=>s
noncomputable def S.inner:S→S
 |.forr _ _ _ b=>b
 |.whil _ b=>b
 |s=>s
noncomputable def S.els:S→S
 |.iff _ _ e=>e
 |s=>s
theorem eY {α:Type}{b:Bool}{x y z:α}(h:b=true) (k:x=z):br b x y=z:=by subst h;exact k
theorem dR {α:Type}{b:Bool}{x y z:α}(h:b=false) (k:y=z):br b x y=z:=by subst h;exact k
theorem dJ {α:Type}{b:Bool}{o z:Option α}(h:b=true) (k:o=z):gd b o=z:=by subst h;exact k
theorem hU {α:Type}{p:Prop}[Decidable p] {o z:Option α}(h:p) (k:o=z):gd (decide p) o=z:=dJ (aO h) k
theorem cW {α β:Type}{o:Option α}{a:α}{f:α→Option β}{z:Option β}(h:o=some a) (k:f a=z):o.bind f=z:=by subst h;exact k
theorem cY {β:Type}{c:Ctx}{n:Nat}{args:List V}{H:Hp}{q:V×Bool×Hp}{f:V×Bool×Hp→Option β}{z:Option β}(h:c.F n args H=some q) (k:f q=z):(c.F n args H).bind f=z:=cW h k
section
variable {β:Type}{H:Hp}{z:Option β}
theorem dC {p:Js}{args:List V}{v:V}{f:V→Option β}(h:dS H p args=some v) (k:f v=z):(dS H p args).bind f=z:=cW h k
theorem cX {a i v:V}{f:V→Option β}(h:fH H a i=some v) (k:f v=z):(fH H a i).bind f=z:=cW h k
theorem nV {op:Operator}{a i v:V}{f:V→Option β}(h:Cz H op a i=some v) (k:f v=z):(Cz H op a i).bind f=z:=cW h k
theorem dY {op:CmpOp}{a i:V}{v:Bool}{f:Bool→Option β}(h:fV H op a i=some v) (k:f v=z):(fV H op a i).bind f=z:=cW h k
theorem dN {a b:Str}{v:Bool}{f:Bool→Option β}(h:fV H .Eq (.str a) (.str b)=some v) (k:f v=z):(fV H .Eq (.str a) (.str b)).bind f=z:=cW h k
theorem jE {b:Md}{a:V}{v:List V}{f:List V→Option β}(h:nK b H a=some v) (k:f v=z):(nK b H a).bind f=z:=cW h k
theorem eH {m:FH}{a:V}{vs:List V}{v:V×Hp}{f:V×Hp→Option β}(h:oJ H m a vs=some v) (k:f v=z):(oJ H m a vs).bind f=z:=cW h k
theorem lX {a b d:V}{v:Hp}{f:Hp→Option β}(h:jU H a b d=some v) (k:f v=z):(jU H a b d).bind f=z:=cW h k
end
theorem lQ {a:Str}(h:PyData.strOk a=true):Tt (.str a)=true:=by
 show (PyData.strOk a&&_)=true
 refine rl h ?_;rfl
theorem AH {H:Hp}{a b:Str}(ha:PyData.strOk a=true) (hb:PyData.strOk b=true):fV H .Eq (.str a) (.str b)=some (a == b):=dJ (lQ ha) (dJ (lQ hb) rfl)
section
variable {P:Nat→Option Fn}{fuel k n:Nat}{f:Fn}{args:List V}{H:Hp}{r:V×Bool×Hp}{v:V}
theorem eV (h:P n=some f) (hl:(args.length == f.np)=true) (hb:∀c:Ctx,(∀n args H,c.F n args H=F P fuel k n args H)→c.fuel=fuel→dG c f.body (args.map some++List.replicate f.ns none) H (fun _ H1=>finish H H1 .none) (fun v H1=>finish H H1 v)=some r) :
  F P fuel (k+1) n args H=some r:=cW h (dJ hl (hb ⟨F P fuel k,fuel⟩ (fun _ _ _=>rfl) rfl))
theorem mQ (n:Nat):∀H K:Hp,rX n H (H++K)=true
 |[],_=>rfl
 |o::H,K=>by
  show ((decide (o=o)||_)&&rX n H (H++K))=true
  refine rl (mQ n H K) (rl (aO rfl) ?_);rfl
theorem yB {H1:Hp}{m:Nat}(h:v.ok m=true):mE H1 m v=false:=by
 cases v <;> first | rfl | skip
 show (decide (m≤_)&&_)=false
 refine rl (aU (Nat.not_le.mpr (bD h))) ?_;rfl
theorem wC {H:Hp}{n:Nat}{v:V}(h:v.ok n=true):∀k,mD H n k v=some v
 |0=>by show gd (v.ok n) (some v)=_;refine rl h ?_;rfl
 |k+1=>by unfold mD;exact rl h rfl
theorem kM {K:Hp}(h:v.ok H.length=true):finish H (H++K) v=some (v,false,H):=by
 unfold finish
 refine cW (wC h 6) (dJ (mQ _ _ _) ?_)
 exact rl (yB h) (rl List.take_left rfl)
theorem eN (h:v.ok H.length=true):finish H H v=some (v,false,H):=by have:=kM (K:=[]) h;rwa [bV] at this
theorem gE {b:Bool}:finish H H (.bool b)=some (.bool b,false,H):=eN rfl
theorem oY {b:Bool}(h:b=true):finish H H (.bool b)=some (.bool true,false,H):=h ▸ eN rfl
theorem sS {n k:Nat}:∀{xs:List V},V.oks n xs=true→fF (mD H n k) xs=some xs
 |[],_=>rfl
 |x::xs,h=>by
  obtain ⟨h1,h2⟩:=aF.mp h
  exact cW (wC h1 k) (by refine rl (sS h2) ?_;rfl)
theorem wE {xs:List V}(h:V.oks H.length xs=true) (K:Hp):finish H (H++.lst xs::K) (.ref H.length)=some (.lst xs,true,H):=by
 have hg:(H++V.lst xs::K)[H.length]? = some (.lst xs):=by refine rl (bO (aN _)) (rl (Nat.sub_self ..) ?_);rfl
 have hno:(V.ref H.length).ok H.length=false:=aU (Nat.lt_irrefl _)
 have hf:mD (H++V.lst xs::K) H.length 6 (.ref H.length)=some (.lst xs):=by
  unfold mD
  refine rl hno ?_
  exact cW hg (by show (fF _ xs).map V.lst=_;refine rl (sS h) ?_;rfl)
 unfold finish
 refine cW hf (dJ (mQ _ _ _) ?_)
 refine rl List.take_left ?_
 have:mE (H++V.lst xs::K) H.length (.ref H.length)=true:=by
  show (decide (_≤_)&&(match (H++V.lst xs::K)[H.length]? with | some o=>(iZ o).isSome&&o.ok H.length | none=>false))=true
  refine rl hg (rl (aO (aN _)) ?_)
  exact h
 exact rl this rfl
end
section
variable {R:Type}{r:Option R}{G:Option Nat}{H0 H:Hp}
theorem mR {step:V→Loc→Hp→(Loc→Hp→Option R)→Option R}{K:Loc→Hp→Option R}(Inv:List V→Loc→Hp→Prop)
  (hs:∀x xs ρ H,Inv (x::xs) ρ H→same H H0 G=true∧∀K',(∀ρ' H',Inv xs ρ' H'→K' ρ' H'=r)→step x ρ H K'=r) (h0:∀ρ H,Inv [] ρ H→same H H0 G=true∧K ρ H=r) :
  ∀xs ρ H,Inv xs ρ H→rA step G H0 xs ρ H K=r
 |[],ρ,H,hi=>dJ (h0 ρ H hi).1 (h0 ρ H hi).2
 |x::xs,ρ,H,hi=>dJ (hs x xs ρ H hi).1 ((hs x xs ρ H hi).2 _ fun ρ' H' hi'=>mR Inv hs h0 xs ρ' H' hi')
theorem Hn {f:V→Hp→(Option V→Hp→Option R)→Option R}{K:List V→Hp→Option R}(o:V→Option V) (hG:same H H0 G=true):∀xs ds,(∀x∈xs,∀K',K' (o x) H=r→f x H K'=r)→ds.length+xs.length≤1100000→K (ds++xs.filterMap o) H=r→rV f G H0 xs ds H K=r
 |[],ds,_,hl,hK=>dJ hG (hU (show ds.length≤1100000 from hl) (by rwa [List.filterMap_nil,bV] at hK))
 |x::xs,ds,hf,hl,hK=>dJ hG (hU (show ds.length≤1100000 from aD (bW ..) hl) (hf x aH _ (Hn o hG xs _ (fun y hy=>hf y (aT _ hy)) (by
   have:(o x).toList.length≤1:=by cases o x <;> exact cD rfl
   refine rl aE ?_
   rw [bF] at hl
   exact RO hl this) (by
   refine rl (bC ..) ?_
   rw [List.filterMap_cons] at hK
   cases hx:o x with
   |none=>rw [hx] at hK;exact hK
   |some y=>rw [hx] at hK;exact hK))))
theorem kX {f:V→Hp→(Option V→Hp→Option R)→Option R}{K:List V→Hp→Option R}(g:V→V) (hG:same H H0 G=true) {xs:List V}(hf:∀x∈xs,∀K',K' (some (g x)) H=r→f x H K'=r) (hl:xs.length≤1100000) (hK:K (xs.map g) H=r):rV f G H0 xs [] H K=r:=
 Hn (fun x=>some (g x)) hG xs [] hf (by refine rl List.length_nil ?_;exact L1 (aW (aN _) hl)) (by refine rl (List.nil_append ..) (rl List.filterMap_eq_map' ?_);exact hK)
theorem same_self {G:Option Nat}:same H H G=true:=by cases G <;> first | rfl | exact aO rfl
end
theorem rM {P:Nat→Option Fn}(g:Gen P) {fuel k:Nat}{x a b:Int}(h1:a≤x) (h2:x≤b) {H:Hp}:F P fuel (k+1) 0 [.int x,.int a,.int b] H=some (.bool true,false,H):=
 eV g.is_among rfl fun c _ _=>eY (aO h1) (oY (aO h2))
noncomputable def GoodW (s:Str):Prop:=1≤s.length∧s.length≤8∧∀c∈s.cps.toList,97≤c∧c≤122
theorem vM {c:Nat}(h1:97≤c) (h2:c≤122):Txt.contains (Str.ofString "abcdefghijklmnopqrstuvwxyz") ⟨#[c]⟩=true:=by
 have:∀d:Fin 26,Txt.contains (Str.ofString "abcdefghijklmnopqrstuvwxyz") ⟨#[97+d.val]⟩=true:=by decide +kernel
 have:=this ⟨c-97,by exact Nat.lt_succ_of_le (Nat.sub_le_of_le_add h2)⟩
 simpa [Nat.add_sub_cancel' h1] using this
theorem yC {α:Type}:∀(xs:List α),fF boolOf (xs.map fun _=>V.bool true)=some (xs.map fun _=>true)
 |[]=>rfl
 |x::xs=>cW rfl (by refine rl (yC xs) ?_;rfl)
theorem Rn {α:Type}(xs:List α):(xs.map fun _=>true).all id=true:=by simp
theorem sT {α:Type}{xs:List α}{H:Hp}:dS H .all [.lst (xs.map fun _=>.bool true)]=some (.bool true):=
 cW (o:=fF boolOf _) (yC xs) (by exact rl (Rn ..) rfl)
theorem Bu {P:Nat→Option Fn}(g:Gen P) {fuel k:Nat}{s:Str}(h:GoodW s) {H:Hp}:F P fuel (k+1) 1 [.str s] H=some (.bool true,false,H):=by
 refine iE h fun h1 h2 h3=>?_
 refine eV g.is_word rfl fun c _ _=>?_
 refine cW (a:=V.int s.length) (hU (show s.length≤1100000 by exact L1 h2) rfl) ?_
 refine eY (aO (show (1:Int)≤s.length by exact Z2 (Bc h1))) ?_
 refine dR (b:=!decide ((s.length:Int)≤8)) (by refine rl (aO (by exact L2 (Bc h2))) ?_;rfl) ?_
 refine kX (fun _=>.bool true) same_self (fun x hx K' hK=>?_) (by refine rl (aA ..) ?_;show s.cps.size≤_;exact aD h2 (by decide)) ?_
 ·refine dF (aJ.mp hx) fun d hd e_e=>?_;subst e_e
  show K' (some (.bool (Txt.contains (Str.ofString "abcdefghijklmnopqrstuvwxyz") ⟨#[d]⟩))) H=_
  refine rl (vM (h3 d hd).1 (h3 d hd).2) ?_
  exact hK
 ·refine rl bJ ?_
  exact cW (sT (xs:=s.cps.toList)) gE
end
section
section
variable {R α:Type}{step:V→Loc→Hp→(Loc→Hp→Option R)→Option R}{K:Loc→Hp→Option R}{z:Option R}{G:Option Nat}{H0:Hp}{a:α→V}
theorem OK {T:Type}{loc:T→Loc}{hp:T→Hp}{Inv:List α→T→Prop}(hG:∀s,same (hp s) H0 G=true) (hs:∀x xs s K',Inv (x::xs) s→(∀s',Inv xs s'→K' (loc s') (hp s')=z)→step (a x) (loc s) (hp s) K'=z)
  (h0:∀s,Inv [] s→K (loc s) (hp s)=z):∀xs s,Inv xs s→rA step G H0 (xs.map a) (loc s) (hp s) K=z
 |[],s,hi=>dJ (hG s) (h0 s hi)
 |x::xs,s,hi=>dJ (hG s) (hs x xs s _ hi fun s' hi'=>OK hG hs h0 xs s' hi')
variable {A B C D E' F':Type}
theorem Ro (loc:A→B→Loc) (hp:A→B→Hp) (Inv:List α→A→B→Prop) (hG:∀s t,same (hp s t) H0 G=true) (hs:∀x xs s t K',Inv (x::xs) s t→(∀s' t',Inv xs s' t'→K' (loc s' t') (hp s' t')=z)→step (a x) (loc s t) (hp s t) K'=z)
  (h0:∀s t,Inv [] s t→K (loc s t) (hp s t)=z) (xs:List α) (s:A) (t:B) (h:Inv xs s t):rA step G H0 (xs.map a) (loc s t) (hp s t) K=z:=
 OK (T:=A×B) (loc:=fun s=>loc s.1 s.2) (hp:=fun s=>hp s.1 s.2) (Inv:=fun xs s=>Inv xs s.1 s.2) (fun s=>hG s.1 s.2) (fun x xs s K' h hk=>hs x xs s.1 s.2 K' h fun a b=>hk (a,b)) (fun s=>h0 s.1 s.2) xs (s,t) h
theorem OL (loc:A→B→C→Loc) (hp:A→B→C→Hp) (Inv:List α→A→B→C→Prop) (hG:∀s t u,same (hp s t u) H0 G=true) (hs:∀x xs s t u K',Inv (x::xs) s t u→(∀s' t' u',Inv xs s' t' u'→K' (loc s' t' u') (hp s' t' u')=z)→step (a x) (loc s t u) (hp s t u) K'=z)
  (h0:∀s t u,Inv [] s t u→K (loc s t u) (hp s t u)=z) (xs:List α) (s:A) (t:B) (u:C) (h:Inv xs s t u):rA step G H0 (xs.map a) (loc s t u) (hp s t u) K=z:=
 Ro (fun s (t:B×C)=>loc s t.1 t.2) (fun s t=>hp s t.1 t.2) (fun xs s t=>Inv xs s t.1 t.2) (fun s t=>hG s t.1 t.2) (fun x xs s t K' h hk=>hs x xs s t.1 t.2 K' h fun a b c=>hk a (b,c)) (fun s t=>h0 s t.1 t.2) xs s (t,u) h
theorem Xe (loc:A→B→C→D→Loc) (hp:A→B→C→D→Hp) (Inv:List α→A→B→C→D→Prop) (hG:∀s t u v,same (hp s t u v) H0 G=true) (hs:∀x xs s t u v K',Inv (x::xs) s t u v→(∀s' t' u' v',Inv xs s' t' u' v'→K' (loc s' t' u' v') (hp s' t' u' v')=z)→step (a x) (loc s t u v) (hp s t u v) K'=z)
  (h0:∀s t u v,Inv [] s t u v→K (loc s t u v) (hp s t u v)=z) (xs:List α) (s:A) (t:B) (u:C) (v:D) (h:Inv xs s t u v):rA step G H0 (xs.map a) (loc s t u v) (hp s t u v) K=z:=
 OL (fun s t (u:C×D)=>loc s t u.1 u.2) (fun s t u=>hp s t u.1 u.2) (fun xs s t u=>Inv xs s t u.1 u.2) (fun s t u=>hG s t u.1 u.2) (fun x xs s t u K' h hk=>hs x xs s t u.1 u.2 K' h fun a b c d=>hk a b (c,d)) (fun s t u=>h0 s t u.1 u.2) xs s t (u,v) h
theorem OM (loc:A→B→C→D→E'→Loc) (hp:A→B→C→D→E'→Hp) (Inv:List α→A→B→C→D→E'→Prop) (hG:∀s t u v w,same (hp s t u v w) H0 G=true) (hs:∀x xs s t u v w K',Inv (x::xs) s t u v w→(∀s' t' u' v' w',Inv xs s' t' u' v' w'→K' (loc s' t' u' v' w') (hp s' t' u' v' w')=z)→step (a x) (loc s t u v w) (hp s t u v w) K'=z)
  (h0:∀s t u v w,Inv [] s t u v w→K (loc s t u v w) (hp s t u v w)=z) (xs:List α) (s:A) (t:B) (u:C) (v:D) (w:E') (h:Inv xs s t u v w):rA step G H0 (xs.map a) (loc s t u v w) (hp s t u v w) K=z:=
 Xe (fun s t u (v:D×E')=>loc s t u v.1 v.2) (fun s t u v=>hp s t u v.1 v.2) (fun xs s t u v=>Inv xs s t u v.1 v.2) (fun s t u v=>hG s t u v.1 v.2) (fun x xs s t u v K' h hk=>hs x xs s t u v.1 v.2 K' h fun a b c d e=>hk a b c (d,e)) (fun s t u v=>h0 s t u v.1 v.2) xs s t u (v,w) h
theorem ON {T:Type}{loc:Nat→T→Loc}{hp:Nat→T→Hp}{n:Nat}(hG:∀j t,same (hp j t) H0 G=true) (hs:∀j t K',j<n→(∀t',K' (loc (j+1) t') (hp (j+1) t')=z)→step (.int j) (loc j t) (hp j t) K'=z)
  (h0:∀t,K (loc n t) (hp n t)=z):∀d j t,j+d=n→rA step G H0 ((List.range' j d).map fun (t:Nat)=>V.int (t:Int)) (loc j t) (hp j t) K=z
 |0,j,t,hj=>dJ (hG j t) (by subst hj;exact h0 t)
 |d+1,j,t,hj=>dJ (hG j t) (hs j t _ (hj ▸ Nat.lt_add_of_pos_right (Nat.succ_pos d)) fun t'=>ON hG hs h0 d (j+1) t' ((Nat.add_right_comm j 1 d).trans hj))
theorem Xf (loc:Nat→A→B→C→D→E'→F'→Loc) (hp:Nat→A→Hp) {m:Int}{n:Nat}(hm:m=n) (hG:∀j a,same (hp j a) H0 G=true) (hs:∀j a b c d e f K',j<n→(∀a b c d e f,K' (loc (j+1) a b c d e f) (hp (j+1) a)=z)→step (.int j) (loc j a b c d e f) (hp j a) K'=z)
  (h0:∀a b c d e f,K (loc n a b c d e f) (hp n a)=z) (a:A) (b:B) (c:C) (d:D) (e:E') (f:F'):rA step G H0 (jK m) (loc 0 a b c d e f) (hp 0 a) K=z:=by
 unfold jK
 refine rl hm (rl (Int.toNat_natCast ..) (rl List.range_eq_range' ?_))
 exact ON (T:=A×B×C×D×E'×F') (loc:=fun j t=>loc j t.1 t.2.1 t.2.2.1 t.2.2.2.1 t.2.2.2.2.1 t.2.2.2.2.2) (hp:=fun j t=>hp j t.1) (fun j t=>hG j t.1) (fun j t K' hj hK=>hs j t.1 t.2.1 t.2.2.1 t.2.2.2.1 t.2.2.2.2.1 t.2.2.2.2.2 K' hj fun a b c d e f=>hK (a,b,c,d,e,f)) (fun t=>h0 t.1 t.2.1 t.2.2.1 t.2.2.2.1 t.2.2.2.2.1 t.2.2.2.2.2) n 0 (a,b,c,d,e,f) (Nat.zero_add _)
theorem HG (loc:Nat→A→B→C→D→E'→Loc) (hp:Nat→Hp) {m:Int}{n:Nat}(hm:m=n) (hG:∀j,same (hp j) H0 G=true) (hs:∀j a b c d e K',j<n→(∀a b c d e,K' (loc (j+1) a b c d e) (hp (j+1))=z)→step (.int j) (loc j a b c d e) (hp j) K'=z)
  (h0:∀a b c d e,K (loc n a b c d e) (hp n)=z) (a:A) (b:B) (c:C) (d:D) (e:E'):rA step G H0 (jK m) (loc 0 a b c d e) (hp 0) K=z:=
 Xf (fun j a b c d e (_:Unit)=>loc j a b c d e) (fun j _=>hp j) hm (fun j _=>hG j) (fun j a b c d e _ K' hj hK=>hs j a b c d e K' hj fun a b c d e=>hK a b c d e ()) (fun a b c d e _=>h0 a b c d e) a b c d e ()
end
noncomputable def S.thn:S→S
 |.iff _ a _=>a
 |s=>s
end
noncomputable def wv (x:Str×Int):V:=.tup [.str x.1,.int x.2]
noncomputable def Rp:Str→List (Str×Int)→Prop
 |_,[]=>True
 |last,x::r=>gN last x.1=true∧Rp x.1 r
structure eA (many:Int) (ws:List (Str×Int)):Prop where
 lo:1≤ws.length
 hi:ws.length≤6
 words:∀x∈ws,GoodW x.1
 goals:∀x∈ws,0≤x.2∧x.2≤many-1
 asc:Rp (Str.ofString "") ws
theorem dP {xs:List V}(h:xs.length≤1100000):small xs=true:=aO h
theorem wF {xs:List V}{H:Hp}(h:xs.length≤1100000):dS H .len [.tup xs]=some (.int xs.length):=dJ (dP h) rfl
theorem Bv {P:Nat→Option Fn}(g:Gen P) {fuel k:Nat}{many:Int}{ws:List (Str×Int)}(h:eA many ws) {H:Hp}:F P fuel (k+2) 2 [.tup (ws.map wv),.int many] H=some (.bool true,false,H):=by
 obtain ⟨h1,h2,h3,h4,h5⟩:=h
 refine eV g.is_ways rfl fun c hF _=>?_
 refine cW (wF (by refine rl (aA ..) ?_;exact L1 h2)) ?_
 refine eY (aO (by refine rl (aA ..) ?_;exact Z2 (Bc h1))) ?_
 refine dR (b:=!decide (((ws.map wv).length:Int)≤6)) (by refine rl (aA ..) (rl (aO (by exact L2 (Bc h2))) ?_);rfl) ?_
 refine mR (fun xs ρ H'=>H'=H∧∃r last o3,xs=r.map wv∧Rp last r∧(∀x∈r,x∈ws)∧ρ=[some (.tup (ws.map wv)),some (.int many),some (.str last),o3]) ?_ ?_ _ _ _ ⟨rfl,ws,_,_,rfl,h5,fun _ h=>h,rfl⟩
 ·rintro x xs ρ H' ⟨rfl,r,last,o3,e,ha,hm,rfl⟩
  cases r with
  |nil=>cases e
  |cons y r=>
   obtain ⟨rfl,rfl⟩:=List.cons.inj e
   obtain ⟨s,i⟩:=y
   have hgo:=h4 _ (hm _ aH)
   refine ⟨rfl,fun K' hK=>?_⟩
   refine cY ((hF _ _ _).trans (Bu g (h3 _ (hm _ aH)))) ?_
   refine cY ((hF _ _ _).trans (rM g hgo.1 hgo.2)) ?_
   refine dR (b:=!gN last s) (by refine rl (show gN last s=true from ha.1) ?_;rfl) ?_
   exact hK _ _ ⟨rfl,r,s,_,rfl,ha.2,fun x hx=>hm x (aT _ hx),rfl⟩
 ·rintro ρ H' ⟨rfl,r,last,o3,e,ha,hm,rfl⟩
  exact ⟨rfl,gE⟩
section
inductive dB where
 |fin
 |go (send:Bool) (ways:List (Str×Int))
noncomputable def hV (b:Bool):Str:=match b with
 |true=>Str.ofString "send"
 |false=>Str.ofString "get"
noncomputable def dB.v:dB→V
 |.fin=>.tup [.str (Str.ofString "end")]
 |.go b ws=>.tup [.str (hV b),.tup (ws.map wv)]
noncomputable def dB.turn:dB→dB
 |.fin=>.fin
 |.go b ws=>.go (!b) ws
noncomputable def eI (many:Int):dB→Prop
 |.fin=>True
 |.go _ ws=>eA many ws
structure dA (ps:List dB):Prop where
 lo:1≤ps.length
 hi:ps.length≤12
 stops:∀p∈ps,eI ps.length p
theorem sU (n:Nat):∀ws:List (Str×Int),V.oks n (ws.map wv)=true
 |[]=>rfl
 |x::ws=>(aF (x:=V.ok n (wv x))).mpr ⟨rfl,sU n ws⟩
theorem dB.ok (n:Nat) (p:dB):p.v.ok n=true:=by
 cases p with
 |fin=>rfl
 |go b ws=>exact (aF (x:=V.oks n (ws.map wv))).mpr ⟨sU n ws,rfl⟩
theorem mS (n:Nat):∀ps:List dB,V.oks n (ps.map dB.v)=true
 |[]=>rfl
 |p::ps=>aF.mpr ⟨p.ok n,mS n ps⟩
theorem uF:PyData.strOk (Str.ofString "end")=true:=by decide +kernel
theorem kN (b:Bool):PyData.strOk (hV b)=true:=by cases b <;> decide +kernel
section
variable {H:Hp}
theorem wG:fV H .Eq (.str (Str.ofString "end")) (.str (Str.ofString "end"))=some true:=(AH uF uF).trans (aQ some (by decide +kernel))
theorem sV (b:Bool):fV H .Eq (.str (hV b)) (.str (Str.ofString "end"))=some false:=(AH (kN b) uF).trans (aQ some (by cases b <;> decide +kernel))
theorem Ho:fV H .Eq (.str (Str.ofString "end")) (.str (Str.ofString "send"))=some false:=(AH uF (kN true)).trans (aQ some (by decide +kernel))
theorem CQ:fV H .Eq (.str (Str.ofString "end")) (.str (Str.ofString "get"))=some false:=(AH uF (kN false)).trans (aQ some (by decide +kernel))
theorem Bw (b:Bool):fV H .Eq (.str (hV b)) (.str (Str.ofString "send"))=some b:=(AH (kN b) (kN true)).trans (aQ some (by cases b <;> decide +kernel))
theorem Xg (b:Bool):fV H .Eq (.str (hV b)) (.str (Str.ofString "get"))=some !b:=(AH (kN b) (kN false)).trans (aQ some (by cases b <;> decide +kernel))
end
theorem Xh (b:Bool) (H:Hp):fV H .In (.str (hV b)) (.tup [.str (Str.ofString "send"),.str (Str.ofString "get")])=some true:=by
 refine (dJ (lQ (kN b)) (dJ (by decide +kernel) rfl)).trans (aQ some ?_)
 cases b <;> decide +kernel
inductive dH (H:Hp) (xs:List V):V→Prop
 |lst:dH H xs (.lst xs)
 |ref (i:Nat):H[i]? = some (.lst xs)→dH H xs (.ref i)
section
variable {H:Hp}{xs:List V}{v:V}
theorem dH.list (h:dH H xs v):eC H v=some xs:=by
 cases h with
 |lst=>rfl
 |ref i e=>exact cW e rfl
theorem dH.iter (h:dH H xs v):Tx H v=some xs:=by
 cases h with
 |lst=>rfl
 |ref i e=>exact cW e rfl
theorem dH.isi (h:dH H xs v):dS H (.isinst .list) [v]=some (.bool true):=by
 cases h with
 |lst=>rfl
 |ref i e=>exact cW (o:=My H (.ref i)) (cW (o:=eC H (.ref i)) (cW e rfl) rfl) rfl
theorem Rq {H:Hp}{xs:List V}{j:Nat}(e:H[j]? = some (.lst xs)):gY H (.ref j)=none:=by show (H[j]?).bind oG=none;refine rl e ?_;rfl
theorem Xi {H:Hp}{xs:List V}{j:Nat}(e:H[j]? = some (.lst xs)) (hl:xs.length≤1100000):AR H (.ref j)=some (.int xs.length):=by
 show (match gY H (.ref j) with
  |some q=>gd (small q.1) (some (V.int q.1.length))
  |none=>(V.items H (.ref j)).bind fun xs=>gd (small xs) (some (.int xs.length)))=_
 refine rl (Rq e) ?_
 exact cW (o:=eC H (.ref j)) (cW e rfl) (dJ (dP hl) rfl)
theorem dH.len (h:dH H xs v) (hl:xs.length≤1100000):dS H .len [v]=some (.int xs.length):=by
 cases h with
 |lst=>exact dJ (dP hl) rfl
 |ref i e=>exact Xi e hl
theorem dH.sub (h:dH H xs v) {i:Nat}{x:V}(hi:xs[i]? = some x) (hl:xs.length≤1100000):fH H v (.int i)=some x:=by
 have hlt:=(aS.mp hi).1
 have:HY xs (.int i)=some x:=dJ (aO ⟨Int.natCast_nonneg i,Int.ofNat_lt.mpr hlt,by exact Z1 (Bc (aD (cI hlt) hl))⟩) hi
 cases h with
 |lst=>exact this
 |ref j e=>
  have e1:gY H (.ref j)=none:=by show (H[j]?).bind oG=none;refine rl e ?_;rfl
  unfold fH
  dsimp only
  refine rl e1 ?_
  exact cW (o:=eC H (.ref j)) (cW e rfl) this
end
end
section
theorem kO {x:Int}{n:Nat}:intBits x≤n↔x.natAbs<2 ^ n:=by
 unfold intBits
 by_cases h:x=0
 ·subst h;simp [Nat.two_pow_pos]
 ·have hb:(x == 0)=false:=by simpa using h
  refine rl hb ?_
  simp only [Bool.false_eq_true,if_false]
  exact ri Nat.succ_le_iff (ri (Nat.log2_lt (by exact TB h)) Iff.rfl)
theorem sW (x:Int):x.natAbs<2 ^ intBits x:=kO.mp (aN _)
theorem bits_add (x y:Int):intBits (x+y)≤max (intBits x) (intBits y)+1:=by
 refine ri kO ?_
 have h1:=sW x
 have h2:=sW y
 have h3:2 ^ intBits x≤2 ^ max (intBits x) (intBits y):=Nat.pow_le_pow_right (by decide) (Nat.le_max_left _ _)
 have h4:2 ^ intBits y≤2 ^ max (intBits x) (intBits y):=Nat.pow_le_pow_right (by decide) (Nat.le_max_right _ _)
 refine rl (Nat.pow_succ ..) (rl (Nat.mul_two ..) ?_)
 exact cR (Int.natAbs_add_le x y) (Nat.add_lt_add (aR h1 h3) (aR h2 h4))
theorem bits_mul (x y:Int):intBits (x*y)≤intBits x+intBits y:=by
 refine ri kO (rl (Int.natAbs_mul ..) (rl (Nat.pow_add ..) ?_))
 exact Nat.mul_lt_mul'' (sW x) (sW y)
theorem Rr (x:Int):intBits (x ^ 3)≤intBits x*3:=by
 have e:x ^ 3=x*x*x:=by exact rl (Int.pow_succ ..) (rl (Int.pow_succ ..) (rl (Int.pow_succ ..) (rl (Int.pow_zero ..) (rl (Int.one_mul ..) rfl))))
 refine rl e ?_
 have h1:=bits_mul (x*x) x
 have h2:=bits_mul x x
 exact TA h1 h2
theorem Rs {x y:Int}(h:x.natAbs≤y.natAbs):intBits x≤intBits y:=kO.mpr (cR h (sW y))
section
variable {β:Type}{H:Hp}{z:Option β}{x y d:Int}{f:V→Option β}
theorem qV (h0:0<d) (k:f (.int (x.fmod d))=z):(Cz H .Mod (.int x) (.int d)).bind f=z:=
 cW (a:=.int (x.fmod d)) (cW (a:=x.fmod d) (hU h0 rfl) rfl) k
theorem Lk (h:intBits x+intBits y≤134217728) (k:f (.int (x*y))=z):(Cz H .Mult (.int x) (.int y)).bind f=z:=
 cW (a:=.int (x*y)) (cW (a:=x*y) (hU h rfl) rfl) k
theorem JV (h:intBits x*3≤134217728) (k:f (.int (x ^ 3))=z):(Cz H .Pow (.int x) (.int 3)).bind f=z:=
 cW (a:=.int (x ^ 3)) (cW (a:=x ^ 3) (hU ⟨rfl,h⟩ rfl) rfl) k
theorem yD (h0:0≤x) (h1:x<100000):intBits x≤17:=kO.mpr (by exact SZ h1 h0)
theorem qW (h0:0≤x) (h1:x<100000) (h2:0≤y) (h3:y<100000) (k:f (.int (x*y))=z):(Cz H .Mult (.int x) (.int y)).bind f=z:=
 Lk (by have:=yD h0 h1;have:=yD h2 h3;omega) k
end
section
variable {H:Hp}{i:Nat}{xs:List V}{v z:V}{k:Int}
theorem eR (hg:H[i]? = some (.lst xs)):nL H (.ref i)=true:=by show ((H[i]?).bind iZ).isSome=true;refine rl hg ?_;rfl
theorem pX (hg:H[i]? = some (.lst xs)) (hl:xs.length≤1100000):MH H (.ref i)=some (i,xs):=cW (o:=refOf _) rfl (cW hg (dJ (dP hl) rfl))
theorem fO (hg:H[i]? = some (.lst xs)) (hl:xs.length≤1100000):oJ H .append (.ref i) [v]=some (.none,H.set i (.lst (xs++[v]))):=cW (pX hg hl) rfl
theorem CR (hg:H[i]? = some (.lst xs)) (h0:0≤k) (h1:k<xs.length) (hl:xs.length≤1100000):jU H z (.ref i) (.int k)=some (H.set i (.lst (xs.set k.toNat z))):=
 cW (o:=refOf _) rfl (cW hg (dJ (aO ⟨h0,h1,by exact Z1 (bI (Int.le_of_lt h1) (Bc hl))⟩) rfl))
end
theorem kP {H:Hp}{xs:List V}{i:Int}(h0:0≤i) (h1:i<xs.length) (hl:xs.length≤1100000):fH H (.lst xs) (.int i)=some (xs.getD i.toNat .none):=by
 have hlt:i.toNat<xs.length:=by exact A2 h0 h1
 refine dJ (b:=PK i xs.length) (aO ⟨h0,h1,by exact Z1 (bI (Int.le_of_lt h1) (Bc hl))⟩) ?_
 refine rl (aP hlt) (rl (bA) (rl (aP hlt) ?_));rfl
theorem dE (x:Int) {d:Int}(h:0<d):0≤x.fmod d∧x.fmod d<d:=by
 refine rl (Int.fmod_eq_emod_of_nonneg _ (Int.le_of_lt h)) ?_
 exact ⟨Int.emod_nonneg _ (Int.ne_of_gt h),Int.emod_lt_of_pos _ h⟩
noncomputable def Dy (c j:Int):Int:=((c+7919*j+11) ^ 3*69621).fmod 2147483647
section
variable {P:Nat→Option Fn}(g:Gen P) {fuel k:Nat}{H:Hp}
include g
theorem pY {is:List Int}(hl:is.length≤1048576) {j:Nat}(hj:j<9):F P fuel (k+1) 7 [.lst (is.map V.int),.int j] H=some (.int (is.getD j 0),false,H):=by
 refine eV g.law_cell_at rfl fun c _ _=>?_
 have hl':(is.map V.int).length≤1100000:=by refine rl (aA ..) ?_;exact L1 hl
 refine dC (dJ (o:=some (V.int (is.map V.int).length)) (dP hl') rfl) ?_
 by_cases h:j<is.length
 ·refine eY (aO (by refine rl (aA ..) ?_;exact FG h)) ?_
  refine cX (kP (Int.natCast_nonneg j) (by refine rl (aA ..) ?_;exact FG h) hl') ?_
  have e:(is.map V.int).getD (j:Int).toNat .none=.int (is.getD j 0):=by
   refine rl (Int.toNat_natCast ..) (rl (bA) (rl (bA) (rl (bG) (rl (aP h) ?_))));rfl
  refine rl e ?_
  exact eN (v:=.int _) rfl
 ·refine dR (aU (by refine rl (aA ..) ?_;exact SY h)) ?_
  refine rl (bA) (rl (List.getElem?_eq_none (by exact Nat.le_of_not_lt h)) ?_)
  exact eN (v:=.int 0) rfl
theorem lG {c j:Int}(hc:intBits c≤1048580) (h0:0≤j) (h1:j<1000):F P fuel (k+1) 8 [.int c,.int j] H=some (.int (Dy c j),false,H):=by
 have b1:intBits 7919≤13:=kO.mpr (by decide)
 have b2:intBits j≤10:=kO.mpr (by exact SX h1 h0)
 have b3:=bits_mul 7919 j
 have b4:=bits_add c (7919*j)
 have b5:intBits 11≤4:=kO.mpr (by decide)
 have b6:=bits_add (c+7919*j) 11
 have b7:=Rr (c+7919*j+11)
 have b8:intBits 69621≤17:=kO.mpr (by decide)
 have c1:=aD b3 (aW b1 b2)
 have c2:=aD b4 (cU (Nat.max_le.mpr ⟨hc,aD c1 (by decide)⟩))
 have c3:=aD b6 (cU (Nat.max_le.mpr ⟨c2,aD b5 (by decide)⟩))
 have c4:=Nat.mul_le_mul_right 3 c3
 refine eV g.law_mixed rfl fun cx _ _=>?_
 refine Lk (aD (aW b1 b2) (by decide)) ?_
 refine JV (aD c4 (by decide)) ?_
 refine Lk (aD (aW (aD b7 c4) b8) (by decide)) ?_
 exact eN (v:=.int _) rfl
end
section
variable {R:Type}{r:Option R}{G:Option Nat}{H:Hp}
theorem iO {step:V→Hp→(Option V→Hp→Option R)→Option R}{K:List V→Hp→Option R}{n:Int}(f:Int→V) (h0:n≤1000) (hf:∀t:Int,0≤t→t<n→∀K',K' (some (f t)) H=r→step (.int t) H K'=r) (hK:K ((List.range n.toNat).map fun (t:Nat)=>f t) H=r) :
  rV step G H (jK n) [] H K=r:=by
 refine kX (fun x=>match x with | .int t=>f t | _=>.none) same_self (fun x hx K' hK=>?_) (by unfold jK;refine rl (aA ..) (rl bE ?_);exact L1 (A6 h0)) ?_
 ·refine dF (aJ.mp hx) fun t ht e_e=>?_;subst e_e
  exact hf t (Int.natCast_nonneg t) (by have:=List.mem_range.mp ht;exact A9 this) K' hK
 ·unfold jK
  refine rl bJ ?_
  exact hK
theorem kG {z:Option R}{n:Int}{f:List V→Option R}(h0:0≤n) (h1:n≤1000) (k:f (jK n)=z):(nK .rng H (.int n)).bind f=z:=jE (hU (by constructor <;> omega) rfl) k
end
noncomputable abbrev LL:Str:=Str.ofString "abcdefghijklmnopqrstuvwxyz"
noncomputable def ch (c:Nat):V:=.str ⟨#[c]⟩
noncomputable def lc (i:Int):Nat:=97+i.toNat
theorem Rt {H:Hp}{i:Int}(h0:0≤i) (h1:i<26):fH H (.str LL) (.int i)=some (ch (lc i)):=by
 have key:∀d:Fin 26,(fitsSsize (d.val:Int)&&(Txt.charAt LL (d.val:Int)).isSome)=true∧Txt.item LL (d.val:Int)=⟨#[97+d.val]⟩:=by decide +kernel
 have:=key ⟨i.toNat,by exact N1 (A6 (Z5 h1))⟩
 have e:((i.toNat:Nat):Int)=i:=by exact bP h0
 simp only [e] at this
 exact dJ this.1 (by refine rl this.2 ?_;rfl)
theorem Ru {i:Int}(h0:0≤i) (h1:i<26):97≤lc i∧lc i≤122:=by unfold lc;exact ⟨(N2 (aW (aN _) (A6 h0))),(L1 (aW (aN _) (A6 (Z5 h1))))⟩
theorem pZ {β:Type}{H:Hp}{z:Option β}{x:Int}{f:V→Option β}(k:f (ch (lc (x.fmod 26)))=z):(fH H (.str LL) (.int (x.fmod 26))).bind f=z:=
 cX (Rt (dE x (by decide)).1 (dE x (by decide)).2) k
noncomputable def AI (cs:List Nat):Str:=Str.join (Str.ofString "") (cs.map fun c=>⟨#[c]⟩)
theorem Bx:(Str.ofString "").cps = #[]:=by decide +kernel
theorem yE:∀cs:List Nat,(AI cs).cps.toList=cs
 |[]=>rfl
 |[c]=>rfl
 |c::d::r=>by
  have ih:=yE (d::r)
  have e:(AI (c::d::r)).cps=((#[c]:Array Nat)++(Str.ofString "").cps)++(AI (d::r)).cps:=rfl
  refine rl e (rl Bx ?_)
  simp [ih]
theorem Oc (cs:List Nat):(AI cs).length=cs.length:=by
 have:=aQ List.length (yE cs)
 simpa [Str.length] using this
theorem Xj {cs:List Nat}(h1:1≤cs.length) (h2:cs.length≤8) (h3:∀c∈cs,97≤c∧c≤122):GoodW (AI cs):=by
 refine ⟨by refine rl (Oc ..) ?_;exact h1,by refine rl (Oc ..) ?_;exact h2,?_⟩
 refine rl (yE ..) ?_;exact h3
theorem By:∀cs:List Nat,fF strOf (cs.map ch)=some (cs.map fun c=>⟨#[c]⟩)
 |[]=>rfl
 |c::cs=>cW rfl (by refine rl (By cs) ?_;rfl)
theorem Xk:∀cs:List Nat,(((cs.map fun c=>(⟨#[c]⟩:Str))).map (·.length)).sum=cs.length
 |[]=>rfl
 |c::cs=>by
  rw [cQ,cQ,List.sum_cons,bF,Xk cs]
  show 1+cs.length=cs.length+1
  exact Nat.add_comm _ _
theorem Dz {H:Hp}{v:V}{cs:List Nat}(hl:cs.length≤8) (h:dH H (cs.map ch) v):dS H .join [v]=some (.str (AI cs)):=
 cW (o:=eC H v) h.list (cW (By cs) (hU (by refine rl (Xk ..) ?_;exact aD hl (by decide)) rfl))
theorem nX (n:Nat) (f:Nat→Nat):(List.range n).map (fun t=>ch (f t))=((List.range n).map f).map ch:=by refine rl bJ ?_;rfl
end
theorem CS (σ:List Str) (w:Str):(Ad σ w).length≤σ.length+1:=by
 unfold Ad;split <;> simp
theorem yF:∀(ws σ:List Str),(ws.foldl Ad σ).length≤σ.length+ws.length
 |[],σ=>by simp
 |w::ws,σ=>by
  have h1:=yF ws (Ad σ w)
  have h2:=CS σ w
  simp only [List.foldl_cons,bF]
  exact TC h1 h2
theorem yG:∀(ws σ:List Str),(ws.foldl Ad σ).length=σ.length+ws.length→ws.Nodup∧∀w∈ws,w∉σ
 |[],σ,_=>by simp
 |w::ws,σ,h=>by
  simp only [List.foldl_cons,bF] at h
  by_cases hw:σ.any (· == w)=true
  ·have e:Ad σ w=σ:=by unfold Ad;exact rl (if_pos hw) rfl
   rw [e] at h
   have:=yF ws σ
   omega
  ·have e:Ad σ w=σ++[w]:=by unfold Ad;exact rl (if_neg hw) rfl
   rw [e] at h
   obtain ⟨a,b⟩:=yG ws (σ++[w]) (by simp only [aE,List.length_singleton];exact RM h)
   have hws:w∉σ:=fun m=>hw (by refine ri List.any_eq_true ?_;exact ⟨w,m,by simp⟩)
   refine ⟨cA.mpr ⟨fun m=>b w m (by simp),a⟩,fun x hx=>?_⟩
   rcases aZ.mp hx with rfl | hx
   ·exact hws
   ·intro m;exact b x hx (by simp [m])
noncomputable def iP (ws:List Str):Prop:=ws.length=6∧(∀w∈ws,GoodW w)∧ws.Pairwise fun a b=>gN a b=true
theorem Ll {ws:List Str}(hl:ws.length=6) (hg:∀w∈ws,GoodW w) (hn:ws.Nodup):iP (oN ws):=by
 have hp:=rC ws
 refine ⟨by refine rl hp.length_eq ?_;exact hl,fun w hw=>hg w (hp.mem_iff.mp hw),?_⟩
 have h1:=nM ws
 have h2:(oN ws).Nodup:=hp.nodup_iff.mpr hn
 exact (h1.and h2).imp fun ⟨a,b⟩=>Tz a b
noncomputable def oZ:List Str:=[Str.ofString "ab",Str.ofString "abc",Str.ofString "b",Str.ofString "ba",Str.ofString "bab",Str.ofString "c"]
noncomputable def Xl (s:Str):Bool:=decide (1≤s.length)&&decide (s.length≤8)&&s.cps.toList.all fun c=>decide (97≤c)&&decide (c≤122)
theorem Xm {s:Str}(h:Xl s=true):GoodW s:=by
 unfold Xl at h
 simp only [bU,bZ,bR] at h
 exact ⟨h.1.1,h.1.2,h.2⟩
theorem Ea:iP oZ:=by
 refine ⟨rfl,fun w hw=>?_,?_⟩
 ·have:oZ.all Xl=true:=by decide +kernel
  exact Xm (bR.mp this w hw)
 ·have:oZ.Pairwise (fun a b=>gN a b=true):=by decide +kernel
  exact this
theorem rN:∀ws:List Str,fF strOf (ws.map V.str)=some ws
 |[]=>rfl
 |w::ws=>cW rfl (by refine rl (rN ws) ?_;rfl)
theorem yH (n:Nat):∀ws:List Str,V.oks n (ws.map V.str)=true
 |[]=>rfl
 |w::ws=>(aF (x:=true)).mpr ⟨rfl,yH n ws⟩
noncomputable def Eb (c:Int) (j:Nat):List Nat:=((List.range (1+(c.fdiv 3).fmod 8).toNat).map fun (t:Nat)=>lc ((c.fdiv 24+5*(t:Int)).fmod 26)).set ((c.fdiv 5).fmod (1+(c.fdiv 3).fmod 8)).toNat (lc ((c.fdiv 7+4*(j:Int)).fmod 26))
noncomputable def Xn (c:Int) (j:Nat):List Nat:=(List.range ((j:Int)+1+(c.fdiv 5).fmod 3).toNat).map fun (t:Nat)=>lc ((c.fdiv 24+3*(t:Int)).fmod 26)
noncomputable def Xo (c:Int) (j:Nat):List Nat:=(List.range (1+(c.fdiv 3+(j:Int)).fmod 8).toNat).map fun (t:Nat)=>lc ((Dy c (9*(j:Int)+(t:Int))).fmod 26)
noncomputable def vF (c:Int) (j:Nat):List Nat:=if c.fmod 3=1 then Xn c j else if c.fmod 3=2 then Xo c j else Eb c j
noncomputable def iQ (c:Int) (j:Nat):Str:=AI (vF c j)
noncomputable def Am (c:Int):List Str:=(List.range 6).map (iQ c)
noncomputable def wordsOf (c:Int):List Str:=if ((Am c).foldl Ad []).length<6 then oZ else oN (Am c)
theorem Od (x:Int):97≤lc (x.fmod 26)∧lc (x.fmod 26)≤122:=Ru (dE x (by decide)).1 (dE x (by decide)).2
theorem Lm {n:Nat}{f:Nat→Int}:∀x∈(List.range n).map (fun t=>lc ((f t).fmod 26)),97≤x∧x≤122:=by
 intro x hx
 refine dF (aJ.mp hx) fun t _ e_e=>?_;subst e_e
 exact Od _
theorem HH (c:Int):1≤1+(c.fdiv 3).fmod 8∧1+(c.fdiv 3).fmod 8≤8:=by
 have:=dE (c.fdiv 3) (d:=8) (by decide);exact ⟨(Z2 (bX (cN _) this.1)),(L2 (bX (cN _) (Z5 this.2)))⟩
theorem yI (c:Int) {j:Nat}(hj:j<6):1≤(vF c j).length∧(vF c j).length≤8∧∀x∈vF c j,97≤x∧x≤122:=by
 unfold vF
 have n1:=dE (c.fdiv 5) (d:=3) (by decide)
 have n2:=dE (c.fdiv 3+(j:Int)) (d:=8) (by decide)
 have n0:=HH c
 split
 ·refine ⟨?_,?_,Lm⟩ <;> (unfold Xn;refine rl (aA ..) (rl bE ?_);omega)
 ·split
  ·refine ⟨?_,?_,Lm⟩ <;> (unfold Xo;refine rl (aA ..) (rl bE ?_);omega)
  ·refine ⟨?_,?_,fun x hx=>?_⟩
   ·unfold Eb;refine rl List.length_set (rl (aA ..) (rl bE ?_));exact N2 (A6 n0.1)
   ·unfold Eb;refine rl List.length_set (rl (aA ..) (rl bE ?_));exact L1 (A6 n0.2)
   ·rcases List.mem_or_eq_of_mem_set hx with q | q
    ·exact Lm x q
    ·subst q;exact Od _
theorem Rv (c:Int) {j:Nat}(hj:j<6):GoodW (iQ c j):=Xj (yI c hj).1 (yI c hj).2.1 (yI c hj).2.2
theorem Rw (c:Int):iP (wordsOf c):=by
 unfold wordsOf
 have hl:(Am c).length=6:=by unfold Am;exact rl (aA ..) (rl bE rfl)
 split
 ·exact Ea
 ·have:=yF (Am c) []
  refine Ll hl (fun w hw=>?_) (yG (Am c) [] (by rw [List.length_nil,hl] at *;omega)).1
  refine dF (aJ.mp hw) fun t ht e_e=>?_;subst e_e
  exact Rv c (List.mem_range.mp ht)
section
theorem Oe {H:Hp}{v:V}(h:v.ok 0=true):finish [] H v=some (v,false,[]):=by
 unfold finish
 refine cW (wC h 6) (dJ rfl ?_)
 show some (v,mE H 0 v,_)=_
 refine rl (yB h) ?_;rfl
noncomputable def PP (c:Int) (o4 o5 o6 o7 o8:Option V):Loc:=[some (.int c),some (.str LL),some (.int (1+(c.fdiv 3).fmod 8)),some (.ref 0),o4,o5,o6,o7,o8]
section
variable {P:Nat→Option Fn}(g:Gen P) {fuel k:Nat}
include g
theorem CT {c:Int}(hc:intBits c≤1048580) {cx:Ctx}(hF:∀n args H,cx.F n args H=F P fuel (k+1) n args H) {j:Nat}(hj6:j<6) {A:List V}(hAl:A.length≤6) {rows:Hp}{o4 o5 o6 o7 o8:Option V}{K:Loc→Hp→Option (V×Bool×Hp)}{L:V→Hp→Option (V×Bool×Hp)}{z:Option (V×Bool×Hp)}
  (hK':∀o4 o5 o6 o7 rows,K (PP c o4 o5 o6 o7 (some (.str (iQ c j)))) (.lst (A++[.str (iQ c j)])::rows)=z):gJ (.slot 4) (fun ρ H K=>dG cx jV.body.tl.tl.tl.hd.inner ρ H K L) (.int (j:Int)) (PP c o4 o5 o6 o7 o8) (.lst A::rows) K=z:=by
 have n0:=HH c
 have p:=dE (c.fdiv 5) (d:=1+(c.fdiv 3).fmod 8) (by exact Z3 n0.1)
 have hrl:∀f:Nat→Nat,(((List.range (1+(c.fdiv 3).fmod 8).toNat).map f).map ch).length=(1+(c.fdiv 3).fmod 8).toNat:=fun f=>by exact rl (aA ..) (rl (aA ..) (rl bE rfl))
 refine kG (by exact Z2 n0.1) (by exact L2 n0.2) ?_
 refine iO (fun t=>ch (lc ((c.fdiv 24+5*t).fmod 26))) (by exact L2 n0.2) (fun t ht0 ht K2 hK2=>?_) ?_
 ·refine qW (by decide) (by decide) (by exact ht0) (by exact Z1 (bI (Int.le_of_lt ht) n0.2)) ?_
  exact pZ hK2
 refine rl (nX ..) ?_
 refine qV (by exact Z3 n0.1) ?_
 refine qW (by decide) (by decide) (by exact Z2 (Bc (aX _))) (by exact Z1 (Bc (N4 hj6))) ?_
 refine pZ ?_
 have hg:∀R:V,(V.lst A::(rows++[R]))[(V.lst A::rows).length]? = some R:=fun R=>by refine rl bF (rl (List.getElem?_cons_succ) (rl (bO (aN _)) (rl (Nat.sub_self ..) ?_)));rfl
 have hs:∀R R':V,(V.lst A::(rows++[R])).set (V.lst A::rows).length R'=V.lst A::(rows++[R']):=fun R R'=>by refine rl bF (rl List.set_cons_succ (rl (List.set_append_right _ _ (aN _)) (rl (Nat.sub_self ..) ?_)));rfl
 refine lX (v:=V.lst A::(rows++[.lst ((Eb c j).map ch)])) ((CR (hg _) p.1 (by refine rl (hrl ..) ?_;exact cC p.2 (cO (A7 (Z2 n0.1)))) (by refine rl (hrl ..) ?_;exact L1 (A6 n0.2))).trans ?_) ?_
 ·refine aQ some ((hs _ _).trans ?_)
  unfold Eb;exact rl List.map_set rfl
 have h0:(Eb c j).length≤8:=by unfold Eb;refine rl List.length_set (rl (aA ..) (rl bE ?_));exact L1 (A6 n0.2)
 refine dC (Dz (cs:=Eb c j) h0 (.ref _ (hg _))) ?_
 by_cases h1:c.fmod 3=1
 ·have ew:iQ c j=AI (Xn c j):=by unfold iQ vF;exact rl (if_pos h1) rfl
  have n1:=dE (c.fdiv 5) (d:=3) (by decide)
  refine eY (b:=(c.fmod 3 == 1)) (by refine rl h1 ?_;rfl) ?_
  refine kG (by exact Z2 (bX (bX (Bc (aX _)) (cN _)) n1.1)) (by exact L2 (bX (bX (Bc (N4 hj6)) (cN _)) (Z5 n1.2))) ?_
  refine iO (fun t=>ch (lc ((c.fdiv 24+3*t).fmod 26))) (by exact L2 (bX (bX (Bc (N4 hj6)) (cN _)) (Z5 n1.2))) (fun t ht0 ht K2 hK2=>?_) ?_
  ·refine qW (by decide) (by decide) (by exact ht0) (by exact Z1 (bI (Int.le_of_lt ht) (bX (bX (Bc (N4 hj6)) (cN _)) (Z5 n1.2)))) ?_
   exact pZ hK2
  refine rl (nX ..) ?_
  refine dC (Dz (cs:=Xn c j) (by unfold Xn;refine rl (aA ..) (rl bE ?_);exact L1 (A6 (bX (bX (Bc (N4 hj6)) (cN _)) (Z5 n1.2)))) .lst) ?_
  refine dR (b:=(c.fmod 3 == 2)) (by refine rl h1 ?_;rfl) ?_
  refine eH (fO (i:=0) rfl (by exact L1 hAl)) ?_
  refine rr ew ?_
  exact hK' _ _ _ _ _
 ·refine dR (b:=(c.fmod 3 == 1)) (bY.mpr h1) ?_
  by_cases h2:c.fmod 3=2
  ·have ew:iQ c j=AI (Xo c j):=by unfold iQ vF;exact rl (if_neg h1) (rl (if_pos h2) rfl)
   have n2:=dE (c.fdiv 3+(j:Int)) (d:=8) (by decide)
   refine eY (b:=(c.fmod 3 == 2)) (by refine rl h2 ?_;rfl) ?_
   refine kG (by exact Z2 (bX (cN _) n2.1)) (by exact L2 (bX (cN _) (Z5 n2.2))) ?_
   refine iO (fun t=>ch (lc ((Dy c (9*(j:Int)+t)).fmod 26))) (by exact L2 (bX (cN _) (Z5 n2.2))) (fun t ht0 ht K2 hK2=>?_) ?_
   ·refine qW (by decide) (by decide) (by exact Z2 (Bc (aX _))) (by exact Z1 (Bc (N4 hj6))) ?_
    refine cY ((hF _ _ _).trans (lG g hc (by exact Int.add_nonneg (Int.mul_nonneg (by decide) (Z2 (Bc (aX _)))) ht0) (by exact TE hj6 ht n2.2))) ?_
    exact pZ hK2
   refine rl (nX ..) ?_
   refine dC (Dz (cs:=Xo c j) (by unfold Xo;refine rl (aA ..) (rl bE ?_);exact L1 (A6 (bX (cN _) (Z5 n2.2)))) .lst) ?_
   refine eH (fO (i:=0) rfl (by exact L1 hAl)) ?_
   refine rr ew ?_
   exact hK' _ _ _ _ _
  ·have ew:iQ c j=AI (Eb c j):=by unfold iQ vF;exact rl (if_neg h1) (rl (if_neg h2) rfl)
   refine dR (b:=(c.fmod 3 == 2)) (bY.mpr h2) ?_
   refine eH (fO (i:=0) rfl (by exact L1 hAl)) ?_
   refine rr ew ?_
   exact hK' _ _ _ _ _
theorem Ln {c:Int}(hc:intBits c≤1048580):F P fuel (k+2) 9 [.int c] []=some (.lst ((wordsOf c).map V.str),false,[]):=by
 refine eV g.law_words rfl fun cx hF _=>?_
 have hm:∀j,((List.range (j+1)).map (iQ c)).map V.str=((List.range j).map (iQ c)).map V.str++[.str (iQ c j)]:=fun j=>by refine rl List.range_succ (rl aM (rl aM ?_));rfl
 show rA (gJ (.slot 4) fun ρ H K=>dG cx jV.body.tl.tl.tl.hd.inner ρ H K (fun v H1=>finish [] H1 v)) none [.lst []] (jK 6) (PP c none none none none none) [.lst []] (fun ρ' H'=>dG cx jV.body.tl.tl.tl.tl ρ' H' (fun _ H1=>finish [] H1 .none) fun v H1=>finish [] H1 v)=_
 refine Xf (G:=none) (m:=6) (n:=6) (fun _ (_:Hp) o4 o5 o6 o7 o8=>PP c o4 o5 o6 o7 o8) (fun j rows=>.lst (((List.range j).map (iQ c)).map V.str)::rows) rfl (fun _ _=>rfl) ?_ ?_ [] none none none none none
 ·intro j rows o4 o5 o6 o7 o8 K' hj hK'
  rw [hm] at hK'
  exact CT g hc hF hj (by refine rl (aA ..) (rl (aA ..) (rl bE ?_));exact cI hj) fun o4 o5 o6 o7 rows=>hK' rows o4 o5 o6 o7 _
 ·intro rows o4 o5 o6 o7 o8
  unfold wordsOf
  rw [show (List.range 6).map (iQ c)=Am c from rfl]
  have hl:(Am c).length≤6:=by unfold Am;rw [aA,bE];exact aN _
  generalize Am c=ws at hl
  have hsl:dS (V.lst (ws.map V.str)::rows) .setlen [.ref 0]=some (.int (ws.foldl Ad []).length):=by
   refine cW (o:=fF strOf (ws.map V.str)) (rN ws) ?_
   exact hU hl rfl
  refine dC hsl ?_
  by_cases hlt:(ws.foldl Ad []).length<6
  ·rw [if_pos hlt]
   refine eY (aO (by exact Z1 (Bc (N4 hlt)))) ?_
   exact Oe (v:=.lst (oZ.map V.str)) rfl
  ·rw [if_neg hlt]
   refine dR (aU (by exact TD hlt)) ?_
   refine cW (o:=uR (ws.map V.str)) (a:=(oN ws).map V.str) (hU (by rw [aA];exact cR hl (by decide)) (by rw [rN])) ?_
   exact Oe (v:=.lst ((oN ws).map V.str)) (yH _ _)
end
end
section
open PySem PySem.W
theorem yJ {α:Type}{n:Nat}{R:α→Prop}{a b:Nat→Nat→Bool}(h:∀i j,i<n→j<n→a i j=b i j):∀{t:KasT α},zZ n R t→mC a t=mC b t
 |.ret _,_=>rfl
 |.ask i j k,hb=>by
  show mC a (k (a i j))=mC b (k (b i j))
  refine rl (h i j hb.1 hb.2.1) ?_
  exact yJ h (hb.2.2 _)
theorem dL {α:Type}{l:List α}{d:α}{i:Nat}(h:i<l.length):l.getD i d=l[i]:=by
 refine rl (bA) (rl (aP h) ?_);rfl
theorem iF {α β:Type}{l:List α}{f:α→β}{d:α}{e:β}{i:Nat}(h:i<l.length):(l.map f).getD i e=f (l.getD i d):=by
 refine rl (bA) (rl (bG) (rl (aP h) (rl (bA) (rl (aP h) ?_))));rfl
theorem rO {ws:List Str}(h:iP ws) {a b:Nat}(ha:a<6) (hb:b<6):gN (ws.getD a Str.empty) (ws.getD b Str.empty)=decide (a<b):=by
 refine iE h fun hl _ hp=>?_
 rw [List.pairwise_iff_getElem] at hp
 refine rl (dL (by exact aR ha (A0 hl))) (rl (dL (by exact aR hb (A0 hl))) ?_)
 rcases Nat.lt_trichotomy a b with q | q | q
 ·exact rl (hp a b (by exact aR (N1 (aD (cI q) (N4 hb))) (A0 hl)) (by exact aR hb (A0 hl)) q) (rl (aO q) rfl)
 ·subst q
  refine rl (aU (Nat.lt_irrefl _)) ?_
  exact aU (List.lt_irrefl _)
 ·exact rl (mF.mpr (Au (hp b a (by exact aR hb (A0 hl)) (by exact aR ha (A0 hl)) q))) (rl (aU (by exact TF q)) rfl)
theorem CU {ws:List Str}(h:iP ws) {a b:Nat}(ha:a<6) (hb:b<6) (e:ws.getD a Str.empty=ws.getD b Str.empty):a=b:=by
 have h1:=rO h ha hb
 have h2:=rO h hb ha
 have h3:=rO h hb hb
 have h4:=rO h ha ha
 rw [e,h3,aU (Nat.lt_irrefl _)] at h1
 rw [←e,h4,aU (Nat.lt_irrefl _)] at h2
 have:=of_decide_eq_false h1.symm
 have:=of_decide_eq_false h2.symm
 omega
noncomputable def CV:List Nat→Bool
 |[]=>true
 |x::r=>(match r with
  |[]=>true
  |y::_=>decide (x<y))&&CV r
theorem yK {w:Str}(hw:GoodW w):gN (Str.ofString "") w=true:=by
 unfold gN
 refine rl bZ (rl Bx ?_)
 have:=hw.1
 cases q:w.cps.toList with
 |nil=>
  have:w.cps.size=0:=by refine rr cB (rl q ?_);rfl
  unfold Str.length at *;omega
 |cons x r=>exact List.nil_lt_cons _ _
theorem Of {ws:List Str}(h:iP ws):∀(ys:List (Str×Int)) (rs:List Nat) (last:Str),ys.map (·.1)=rs.map (fun r=>ws.getD r Str.empty)→(∀r∈rs,r<6)→CV rs=true→(∀r,rs.head? = some r→gN last (ws.getD r Str.empty)=true)→Rp last ys
 |[],_,_,_,_,_,_=>trivial
 |y::ys,[],_,e,_,_,_=>by cases e
 |y::ys,r::rs,last,e,hr,ha,hh=>by
  rw [cQ,cQ,List.cons.injEq] at e
  obtain ⟨ha1,ha2⟩:=aF.mp ha
  refine ⟨by refine rl e.1 ?_;exact hh r rfl,Of h ys rs y.1 e.2 (fun r hr'=>hr r (aT _ hr')) ha2 ?_⟩
  intro r2 h2
  cases rs with
  |nil=>exact nS h2
  |cons r3 rs=>
   cases h2
   refine rl e.1 (rl (rO h (hr r aH) (hr _ (aT _ aH))) ?_)
   exact ha1
theorem Hq {ws:List Str}(h:iP ws) {ys:List (Str×Int)}{rs:List Nat}(e:ys.map (·.1)=rs.map (fun r=>ws.getD r Str.empty)) (hr:∀r∈rs,r<6) (ha:CV rs=true):Rp (Str.ofString "") ys:=by
 refine Of h ys rs _ e hr ha fun r hr'=>yK (h.2.1 _ ?_)
 have hr6:=hr r (List.mem_of_mem_head? (by refine rl hr' ?_;rfl))
 have hl:=h.1
 refine rl (dL (by exact aR hr6 (A0 hl))) ?_
 exact cM _
noncomputable def Rx (rs:List Nat) (i j:Nat):Bool:=decide (rs.getD i 0<rs.getD j 0)
noncomputable def qA (rs:List Nat):Bool:=
 (mC (Rx rs) (kas_sort rs.length)).toList.all (fun i=>decide (i<rs.length))&&decide ((mC (Rx rs) (kas_sort rs.length)).toList.length=rs.length)&&CV ((mC (Rx rs) (kas_sort rs.length)).toList.map fun i=>rs.getD i 0)
noncomputable def gQ (xs:List (Str×Int)):List (Str×Int):=if xs.length<2 then xs else (Ar (xs.map wv)).map fun i=>xs.getD i (Str.empty,0)
theorem yL:∀xs:List (Str×Int),(xs.map wv).all kK=true
 |[]=>rfl
 |x::xs=>(aF (x:=kK (wv x))).mpr ⟨rfl,yL xs⟩
structure rP (xs ys:List (Str×Int)):Prop where
 run:uR (xs.map wv)=some (ys.map wv)
 len:ys.length=xs.length
 mem:∀y∈ys,y∈xs
 asc:Rp (Str.ofString "") ys
theorem pA {ws:List Str}(h:iP ws) {rs:List Nat}(hr:∀r∈rs,r<6) (hnd:rs.Nodup) (hchk:qA rs=true) (hne:1≤rs.length) (hl6:rs.length≤6) {xs:List (Str×Int)}(hx:xs.map (·.1)=rs.map fun r=>ws.getD r Str.empty):rP xs (gQ xs):=by
 have hl:xs.length=rs.length:=by have:=aQ List.length hx;rwa [aA,aA] at this
 have hlt:(xs.map wv).length<64:=by refine rl (aA ..) ?_;exact N1 (aD (bM hl) hl6)
 have hnone:fF strOf (xs.map wv)=none:=by
  cases xs with
  |nil=>rw [List.length_nil] at hl;omega
  |cons x xs=>rfl
 have hx1:∀i,i<rs.length→(xs.getD i (Str.empty,0)).1=ws.getD (rs.getD i 0) Str.empty:=by
  intro i hi
  have:=aQ (fun l=>l.getD i Str.empty) hx
  rwa [iF (d:=(Str.empty,0)) (by exact aR hi (A0 hl)),iF (d:=0) hi] at this
 have hrm:∀i,i<rs.length→rs.getD i 0<6:=fun i hi=>by refine rl (dL hi) ?_;exact hr _ (cM _)
 by_cases h2:xs.length<2
 ·have e:gQ xs=xs:=if_pos h2
  refine rl e ?_
  refine ⟨?_,rfl,fun _ m=>m,Hq h hx hr ?_⟩
  ·refine hU hlt ?_
   refine rl hnone ?_
   refine dJ (yL xs) ?_
   rw [if_pos (by rw [aA];exact h2)]
  ·cases rs with
   |nil=>rfl
   |cons r rs=>
    cases rs with
    |nil=>rfl
    |cons _ _=>rw [hl,bF,bF] at h2;omega
 ·unfold qA at hchk
  rw [bU,bU,bZ,bR] at hchk
  obtain ⟨⟨c1,c2⟩,c3⟩:=hchk
  have hget:∀i,i<rs.length→(xs.map wv).getD i .none=wv (xs.getD i (Str.empty,0)):=fun i hi=>iF (by exact aR hi (A0 hl))
  have hans:∀i j,i<rs.length→j<rs.length→Tw ((xs.map wv).getD i .none) ((xs.map wv).getD j .none)=Rx rs i j:=by
   intro i j hi hj
   refine rl (hget i hi) (rl (hget j hj) ?_)
   have ei:=hx1 i hi
   have ej:=hx1 j hj
   show (if (xs.getD i (Str.empty,0)).1=(xs.getD j (Str.empty,0)).1 then decide ((xs.getD i (Str.empty,0)).2<(xs.getD j (Str.empty,0)).2) else gN (xs.getD i (Str.empty,0)).1 (xs.getD j (Str.empty,0)).1)=decide (rs.getD i 0<rs.getD j 0)
   by_cases hij:i=j
   ·subst hij
    exact rl (if_pos rfl) (rl (aU (Int.lt_irrefl _)) (rl (aU (Nat.lt_irrefl _)) rfl))
   ·have hne:(xs.getD i (Str.empty,0)).1≠(xs.getD j (Str.empty,0)).1:=fun e=>hij (by
     rw [ei,ej] at e
     have:=CU h (hrm i hi) (hrm j hj) e
     rw [dL hi,dL hj] at this
     exact (List.getElem_inj hnd).mp this)
    refine rl (if_neg hne) (rl ei (rl ej ?_))
    exact rO h (hrm i hi) (hrm j hj)
  have hperm:Ar (xs.map wv)=(mC (Rx rs) (kas_sort rs.length)).toList:=by
   unfold Ar
   refine rl (aA ..) (rl hl ?_)
   exact aQ Array.toList (yJ (R:=PR rs.length) hans (Fo (by exact N3 hne)))
  have e:gQ xs=(Ar (xs.map wv)).map fun i=>xs.getD i (Str.empty,0):=if_neg h2
  rw [hperm] at e
  refine rl e ?_
  generalize (mC (Rx rs) (kas_sort rs.length)).toList=p at c1 c2 c3 hperm
  have c1:∀i∈p,i<rs.length:=fun i hi=>bD (c1 i hi)
  refine ⟨?_,by exact rl (aA ..) (rl c2 (rl hl rfl)),fun y hy=>?_,Hq h (rs:=p.map fun i=>rs.getD i 0) ?_ ?_ c3⟩
  ·refine hU hlt ?_
   refine rl hnone ?_
   refine dJ (yL xs) ?_
   refine rl (if_neg (by rw [aA];exact h2)) (rl hperm (rl bJ ?_))
   exact aQ some (List.map_congr_left fun i hi=>hget i (c1 i hi))
  ·refine dF (aJ.mp hy) fun i hi e_e=>?_;subst e_e
   have:=c1 i hi
   refine rl (dL (by exact aR this (A0 hl))) ?_
   exact cM _
  ·refine rl bJ (rl bJ ?_)
   exact List.map_congr_left fun i hi=>hx1 i (c1 i hi)
  ·intro r hr
   refine dF (aJ.mp hr) fun i hi e_e=>?_;subst e_e
   exact hrm i (c1 i hi)
noncomputable def Ry (s n:Nat):List Nat:=(List.range n).map fun k=>(s+k) % 6
theorem CW:([1,2,3,6]:List Nat).all (fun n=>(List.range 6).all fun s=>qA (Ry s n)&&decide (Ry s n).Nodup)=true:=by decide +kernel
end
section
theorem yM {c:Int}(h:intBits c≤1048577):intBits (c.fdiv 56)≤1048580:=by
 refine rl (Int.fdiv_eq_ediv_of_nonneg _ (by decide)) ?_
 exact aD (Rs (Int.natAbs_ediv_le_natAbs c 56)) (aD h (by decide))
noncomputable def nY (c at_ k many:Int):Int:=
 [(if many-1<at_+1 then many-1 else at_+1),(if many-1<at_+1 then many-1 else at_+1),((Dy (c.fdiv 56) (20*at_+7+k)).fdiv 4).fmod many,0].getD ((Dy (c.fdiv 56) (20*at_+7+k)).fmod 4).toNat 0
theorem Xp {l:List Int}{i:Nat}(h:i<l.length):(l.map V.int).getD i .none=.int (l.getD i 0):=iF h
theorem Lo {c at_ j many:Int}(h0:0≤at_) (h4:1≤many):0≤nY c at_ j many∧nY c at_ j many≤many-1:=by
 have hq:=dE (Dy (c.fdiv 56) (20*at_+7+j)) (d:=4) (by decide)
 have hp:=dE ((Dy (c.fdiv 56) (20*at_+7+j)).fdiv 4) (d:=many) (by exact Z3 h4)
 unfold nY
 have hq:((Dy (c.fdiv 56) (20*at_+7+j)).fmod 4).toNat<4:=by exact N1 (A6 (Z5 hq.2))
 generalize ((Dy (c.fdiv 56) (20*at_+7+j)).fmod 4).toNat=q at hq
 match q,hq with
 |0,_=>show 0≤ite _ _ _∧ite _ _ _≤_;split <;> omega
 |1,_=>show 0≤ite _ _ _∧ite _ _ _≤_;split <;> omega
 |2,_=>show 0≤Int.fmod _ _∧Int.fmod _ _≤_;exact ⟨hp.1,(Z5 hp.2)⟩
 |3,_=>show (0:Int)≤0∧0≤many-1;exact ⟨(by decide),(Z2 (Int.sub_le_sub_right h4 _))⟩
section
variable {P:Nat→Option Fn}(g:Gen P) {fuel k:Nat}
include g
theorem Rz {c at_ j many:Int}(hc:intBits c≤1048577) (h0:0≤at_) (h1:at_<12) (h2:0≤j) (h3:j<6) (h4:1≤many) {H:Hp} :
  F P fuel (k+2) 11 [.int c,.int at_,.int j,.int many] H=some (.int (nY c at_ j many),false,H):=by
 refine eV g.law_goal rfl fun cx hF _=>?_
 refine qW (by decide) (by decide) h0 (by exact Z1 (Z5 h1)) ?_
 refine cY ((hF _ _ _).trans (lG g (yM hc) (by exact Int.add_nonneg (Int.add_nonneg (Int.mul_nonneg (by decide) h0) (by decide)) h2) (by exact TG h1 h3))) ?_
 have hq:=dE (Dy (c.fdiv 56) (20*at_+7+j)) (d:=4) (by decide)
 refine qV (by exact Z3 h4) ?_
 refine cX (v:=.int (nY c at_ j many)) ?_ ?_
 ·refine (kP ?_ ?_ ?_).trans (aQ some (Xp (l:=[_,_,_,_]) ?_))
  ·exact hq.1
  ·exact hq.2
  ·exact cD rfl
  ·show _<4;exact N1 (A6 (Z5 hq.2))
 exact eN (v:=.int _) rfl
end
noncomputable def JW (q:Nat):Option Bool:=[some true,some false,some true,some false,none,some true,some false].getD q none
noncomputable def SF:Option Bool→V
 |none=>.str (Str.ofString "end")
 |some b=>.str (hV b)
theorem OO {q:Nat}(h:q<7):([.str (Str.ofString "send"),.str (Str.ofString "get"),.str (Str.ofString "send"),.str (Str.ofString "get"),.str (Str.ofString "end"),.str (Str.ofString "send"),.str (Str.ofString "get")]:List V).getD q .none=SF (JW q):=by
 match q,h with
 |0,_=>rfl
 |1,_=>rfl
 |2,_=>rfl
 |3,_=>rfl
 |4,_=>rfl
 |5,_=>rfl
 |6,_=>rfl
noncomputable def Jm (q:Nat):Nat:=[1,2,1,3,2,6].getD q 1
theorem QZ {q:Nat}(h:q<6):([.int 1,.int 2,.int 1,.int 3,.int 2,.int 6]:List V).getD q .none=.int (Jm q)∧Jm q∈([1,2,3,6]:List Nat):=by
 match q,h with
 |0,_=>exact ⟨rfl,by decide⟩
 |1,_=>exact ⟨rfl,by decide⟩
 |2,_=>exact ⟨rfl,by decide⟩
 |3,_=>exact ⟨rfl,by decide⟩
 |4,_=>exact ⟨rfl,by decide⟩
 |5,_=>exact ⟨rfl,by decide⟩
noncomputable def vN (c:Int) (ws:List Str) (many mx:Int) (j:Nat):List (Str×Int):=(List.range (Jm ((mx.fdiv 15).fmod 6).toNat)).map fun (t:Nat)=>(ws.getD ((mx.fdiv 90+(t:Int)).fmod 6).toNat Str.empty,nY c j t many)
noncomputable def pB (c:Int) (ws:List Str) (many:Int) (j:Nat):dB:=match JW ((Dy (c.fdiv 56) (20*(j:Int))).fmod 7).toNat with
 |none=>.fin
 |some b=>if (0:Int)<j∧(j:Int)=many-1∧0<((Dy (c.fdiv 56) (20*(j:Int))).fdiv 5).fmod 3 then .fin else .go b (gQ (vN c ws many (Dy (c.fdiv 56) (20*(j:Int))) j))
noncomputable def pC (c:Int):Int:=if (c.fdiv 7).fmod 8=1 then 1+c.fmod 12 else 1+c.fmod 7
noncomputable def nZ (c:Int) (ws:List Str):List dB:=(List.range (pC c).toNat).map (pB c ws (pC c))
theorem yN (c:Int):1≤pC c∧pC c≤12:=by
 have h1:=dE c (d:=12) (by decide)
 have h2:=dE c (d:=7) (by decide)
 unfold pC
 split <;> omega
theorem uG {c:Int}{ws:List Str}(hw:iP ws) (many mx:Int) (j:Nat):rP (vN c ws many mx j) (gQ (vN c ws many mx j)):=by
 have e1:=dE (mx.fdiv 15) (d:=6) (by decide)
 have e2:=dE (mx.fdiv 90) (d:=6) (by decide)
 have hn:=(QZ (q:=((mx.fdiv 15).fmod 6).toNat) (by exact N1 (A6 (Z5 e1.2)))).2
 have hchk:=bR.mp CW _ hn
 have hchk:=bR.mp hchk ((mx.fdiv 90).fmod 6).toNat (List.mem_range.mpr (by exact N1 (A6 (Z5 e2.2))))
 rw [bU,bZ] at hchk
 have hln:(Ry ((mx.fdiv 90).fmod 6).toNat (Jm ((mx.fdiv 15).fmod 6).toNat)).length=Jm ((mx.fdiv 15).fmod 6).toNat:=by unfold Ry;exact rl (aA ..) (rl bE rfl)
 have hnr:1≤Jm ((mx.fdiv 15).fmod 6).toNat∧Jm ((mx.fdiv 15).fmod 6).toNat≤6:=by
  generalize Jm ((mx.fdiv 15).fmod 6).toNat=n at hn
  rcases aZ.mp hn with rfl | hn
  ·decide
  rcases aZ.mp hn with rfl | hn
  ·decide
  rcases aZ.mp hn with rfl | hn
  ·decide
  rcases aZ.mp hn with rfl | hn
  ·decide
  ·cases hn
 refine pA hw (rs:=Ry ((mx.fdiv 90).fmod 6).toNat (Jm ((mx.fdiv 15).fmod 6).toNat)) (fun r hr=>?_) hchk.2 hchk.1 (by exact aD hnr.1 (A0 hln)) (by exact L1 (aD (bM hln) hnr.2)) ?_
 ·refine dF (aJ.mp hr) fun t _ e_e=>?_;subst e_e
  exact Nat.mod_lt _ (by decide)
 ·unfold vN Ry
  refine rl bJ (rl bJ ?_)
  refine List.map_congr_left fun t _=>?_
  show ws.getD ((mx.fdiv 90+(t:Int)).fmod 6).toNat Str.empty=ws.getD ((((mx.fdiv 90).fmod 6).toNat+t) % 6) Str.empty
  congr 1
  refine rl (Int.fmod_eq_emod_of_nonneg _ (by decide)) (rl (Int.fmod_eq_emod_of_nonneg _ (by decide)) (rr (Int.emod_add_emod ..) ?_))
  have e:=bP (Int.emod_nonneg (mx.fdiv 90) (show (6:Int)≠0 by decide))
  conv=>lhs;rw [←e]
  exact aQ Int.toNat (Int.natCast_emod ((mx.fdiv 90 % 6).toNat+t) 6).symm
theorem Xq {c:Int}{ws:List Str}(hw:iP ws) {many:Int}(h1:1≤many) (j:Nat):eI many (pB c ws many j):=by
 unfold pB
 generalize Dy (c.fdiv 56) (20*(j:Int))=mx
 cases JW (mx.fmod 7).toNat with
 |none=>trivial
 |some b=>
  dsimp only
  split
  ·trivial
  ·have s:=uG (c:=c) hw many mx j
   have e1:=dE (mx.fdiv 15) (d:=6) (by decide)
   have hn:=(QZ (q:=((mx.fdiv 15).fmod 6).toNat) (by exact N1 (A6 (Z5 e1.2)))).2
   have hxl:(vN c ws many mx j).length=Jm ((mx.fdiv 15).fmod 6).toNat:=by unfold vN;exact rl (aA ..) (rl bE rfl)
   have hnr:1≤Jm ((mx.fdiv 15).fmod 6).toNat∧Jm ((mx.fdiv 15).fmod 6).toNat≤6:=by
    have:∀n∈([1,2,3,6]:List Nat),1≤n∧n≤6:=by decide
    exact this _ hn
   have hx:∀x∈vN c ws many mx j,GoodW x.1∧0≤x.2∧x.2≤many-1:=by
    intro x hx
    refine dF (aJ.mp hx) fun t _ e_e=>?_;subst e_e
    refine ⟨hw.2.1 _ ?_,Lo (Int.natCast_nonneg j) h1⟩
    have e2:=dE (mx.fdiv 90+(t:Int)) (d:=6) (by decide)
    rw [dL (by refine rl hw.1 ?_;exact N1 (A6 (Z5 e2.2)))]
    exact cM _
   exact ⟨by refine rl s.len ?_;exact aD hnr.1 (A0 hxl),by refine rl s.len ?_;exact L1 (aD (bM hxl) hnr.2),fun x hm=>(hx x (s.mem x hm)).1,fun x hm=>(hx x (s.mem x hm)).2,s.asc⟩
theorem Sa (c:Int) {ws:List Str}(hw:iP ws):dA (nZ c ws):=by
 have hm:=yN c
 have hl:(nZ c ws).length=(pC c).toNat:=by unfold nZ;exact rl (aA ..) (rl bE rfl)
 refine ⟨by exact aD (N2 (A6 hm.1)) (A0 hl),by exact L1 (aD (bM hl) (A6 hm.2)),fun p hp=>?_⟩
 refine dF (aJ.mp hp) fun j _ e_e=>?_;subst e_e
 refine rl hl (rl (bP (by exact Z2 hm.1)) ?_)
 exact Xq hw hm.1 j
end
section
noncomputable def LV (c:Int) (ws:List Str) (many:Int) (o4 o5 o6 o7 o8 o9 o10:Option V):Loc:=[some (.int c),some (.lst (ws.map V.str)),some (.int many),some (.ref 0),o4,o5,o6,o7,o8,o9,o10]
theorem Lp {A:List V}(h:A.length≤12) {v:V}:oJ [V.lst A] .append (.ref 0) [v]=some (.none,[V.lst (A++[v])]):=fO (i:=0) rfl (by exact L1 h)
theorem jF {H:Hp}{x:V}:(H++[x])[H.length]? = some x:=by refine rl (bO (aN _)) (rl (Nat.sub_self ..) ?_);rfl
theorem wH {H:Hp}{x y:V}:(H++[x]).set H.length y=H++[y]:=by refine rl (List.set_append_right _ _ (aN _)) (rl (Nat.sub_self ..) ?_);rfl
section
variable {P:Nat→Option Fn}(g:Gen P) {fuel k:Nat}{c:Int}(hc:intBits c≤1048577) {ws:List Str}(hw:iP ws) {cx:Ctx}(hF:∀n args H,cx.F n args H=F P fuel (k+2) n args H) {many:Int}(hm:1≤many∧many≤12) {A:List V}(hA:A.length≤12) {j:Nat}(hjm:(j:Int)<many) {K:Loc→Hp→Option (V×Bool×Hp)}{L:V→Hp→Option (V×Bool×Hp)}{z:Option (V×Bool×Hp)}
include g hc hw hF hm hA hjm
theorem OP {mx:Int}{b:Bool}{o7 o8 o9 o10:Option V}(hK:∀o7 o8 o9 o10,K (LV c ws many (some (.int j)) (some (.int mx)) (some (.str (hV b))) o7 o8 o9 o10) [.lst (A++[(dB.go b (gQ (vN c ws many mx j))).v])]=z) :
  dG cx lF.body.tl.tl.tl.hd.inner.tl.tl.hd.els (LV c ws many (some (.int j)) (some (.int mx)) (some (.str (hV b))) o7 o8 o9 o10) [V.lst A] K L=z:=by
 have hwl:=hw.1
 obtain ⟨nI,hnI⟩:∃nI:Int,((Jm ((mx.fdiv 15).fmod 6).toNat:Nat):Int)=nI:=⟨_,rfl⟩
 have e1:=dE (mx.fdiv 15) (d:=6) (by decide)
 have hs6:=QZ (q:=((mx.fdiv 15).fmod 6).toNat) (by exact N1 (A6 (Z5 e1.2)))
 have hn6:Jm ((mx.fdiv 15).fmod 6).toNat≤6:=by
  have:∀n∈([1,2,3,6]:List Nat),n≤6:=by decide
  exact this _ hs6.2
 have xs:=uG (c:=c) hw many mx j
 have hxe:vN c ws many mx j=(List.range (Jm ((mx.fdiv 15).fmod 6).toNat)).map fun (t:Nat)=>(ws.getD ((mx.fdiv 90+(t:Int)).fmod 6).toNat Str.empty,nY c j t many):=rfl
 generalize vN c ws many mx j=ys at xs hxe hK
 obtain ⟨hs6,_⟩:=hs6
 rw [hnI] at hs6
 refine cX (v:=.int nI) ?_ ?_
 ·refine (kP ?_ ?_ ?_).trans (aQ some hs6)
  ·exact e1.1
  ·exact e1.2
  ·exact cD rfl
 generalize Jm ((mx.fdiv 15).fmod 6).toNat=n at hn6 hxe hnI
 have hnn:nI.toNat=n:=by exact A5 hnI
 refine kG (by exact Z2 (bI (Bc (aX _)) (cO hnI))) (by exact L2 (bI (A1 hnI) (Bc hn6))) ?_
 refine iO (fun t=>V.str (ws.getD ((mx.fdiv 90+t).fmod 6).toNat Str.empty)) (by exact L2 (bI (A1 hnI) (Bc hn6))) (fun t ht0 ht K2 hK2=>?_) ?_
 ·have e2:=dE (mx.fdiv 90+t) (d:=6) (by decide)
  refine cX ((kP e2.1 (by refine rl (aA ..) (rl hwl ?_);exact e2.2) (by refine rl (aA ..) ?_;exact L1 (bM hwl))).trans (aQ some (iF (d:=Str.empty) (by refine rl hwl ?_;exact N1 (A6 (Z5 e2.2)))))) ?_
  exact hK2
 refine rl hnn ?_
 refine kG (by exact Z2 (bI (Bc (aX _)) (cO hnI))) (by exact L2 (bI (A1 hnI) (Bc hn6))) ?_
 refine iO (fun t=>wv (ws.getD ((mx.fdiv 90+t).fmod 6).toNat Str.empty,nY c j t many)) (by exact L2 (bI (A1 hnI) (Bc hn6))) (fun t ht0 ht K2 hK2=>?_) ?_
 ·have htn:t.toNat<n:=by exact A2 ht0 (cC ht (A1 hnI))
  have hgt:((List.range n).map fun (t:Nat)=>V.str (ws.getD ((mx.fdiv 90+(t:Int)).fmod 6).toNat Str.empty)).getD t.toNat .none=V.str (ws.getD ((mx.fdiv 90+t).fmod 6).toNat Str.empty):=by
   rw [iF (l:=List.range n) (d:=0) (by refine rl bE ?_;exact htn),dL (l:=List.range n) (by refine rl bE ?_;exact htn),List.getElem_range,bP ht0]
  refine cX ((kP (i:=t) ht0 (by refine rl (aA ..) (rl bE ?_);exact cC ht (A1 hnI)) (by refine rl (aA ..) (rl bE ?_);exact L1 hn6)).trans (aQ some hgt)) ?_
  refine cY ((hF _ _ _).trans (Rz g hc (by exact Z2 (Bc (aX _))) (by exact cC hjm hm.2) (by exact ht0) (by exact cC ht (L2 (bI (A1 hnI) (Bc hn6)))) (by exact hm.1))) ?_
  exact hK2
 refine rl hnn (rl (show (List.range n).map (fun (t:Nat)=>wv (ws.getD ((mx.fdiv 90+(t:Int)).fmod 6).toNat Str.empty,nY c j t many))=ys.map wv by rw [hxe,bJ];rfl) ?_)
 refine cW (o:=uR (ys.map wv)) xs.run ?_
 have hyl:(gQ ys).length≤6:=by refine rl xs.len (rl hxe (rl (aA ..) (rl bE ?_)));exact hn6
 have hsl:small ((gQ ys).map wv)=true:=dP (by refine rl (aA ..) ?_;exact L1 hyl)
 have ht:dS [V.lst A] .tuple [.lst ((gQ ys).map wv)]=some (.tup ((gQ ys).map wv)):=dJ hsl rfl
 refine dC ht ?_
 refine eH (Lp hA) ?_
 exact hK _ _ _ _
theorem CX {o4 o5 o6 o7 o8 o9 o10:Option V}(hK:∀o4 o5 o6 o7 o8 o9 o10,K (LV c ws many o4 o5 o6 o7 o8 o9 o10) [.lst (A++[(pB c ws many j).v])]=z) :
  gJ (.slot 4) (fun ρ H K=>dG cx lF.body.tl.tl.tl.hd.inner ρ H K L) (.int (j:Int)) (LV c ws many o4 o5 o6 o7 o8 o9 o10) [V.lst A] K=z:=by
 refine qW (by decide) (by decide) (by exact Z2 (Bc (aX _))) (by exact Z1 (bI (Int.le_of_lt hjm) hm.2)) ?_
 refine cY ((hF _ _ _).trans (lG g (yM hc) (by exact Int.mul_nonneg (by decide) (Z2 (Bc (aX _)))) (by exact TH hjm hm.2))) ?_
 have hst:∀mx,Dy (c.fdiv 56) (20*(j:Int))=mx→pB c ws many j=(match JW (mx.fmod 7).toNat with
  |none=>.fin
  |some b=>if (0:Int)<j∧(j:Int)=many-1∧0<(mx.fdiv 5).fmod 3 then .fin else .go b (gQ (vN c ws many mx j))):=fun mx e=>by subst e;rfl
 rw [hst _ rfl] at hK
 clear hst
 generalize Dy (c.fdiv 56) (20*(j:Int))=mx at hK ⊢
 have m7:=dE mx (d:=7) (by decide)
 refine cX (v:=SF (JW (mx.fmod 7).toNat)) ?_ ?_
 ·refine (kP ?_ ?_ ?_).trans (aQ some (OO ?_))
  ·exact m7.1
  ·exact m7.2
  ·exact cD rfl
  ·exact N1 (A6 (Z5 m7.2))
 generalize JW (mx.fmod 7).toNat=kd at hK ⊢
 cases kd with
 |none=>
  refine dN wG ?_
  refine eH (Lp hA) ?_
  exact hK _ _ _ _ _ _ _
 |some b=>
  refine dN (sV b) ?_
  have hK:∀o4 o5 o6 o7 o8 o9 o10,K (LV c ws many o4 o5 o6 o7 o8 o9 o10) [.lst (A++[(if (0:Int)<j∧(j:Int)=many-1∧0<(mx.fdiv 5).fmod 3 then dB.fin else .go b (gQ (vN c ws many mx j))).v])]=z:=hK
  by_cases f:(0:Int)<j∧(j:Int)=many-1∧0<(mx.fdiv 5).fmod 3
  ·rw [if_pos f] at hK
   refine eY (aO f.1) ?_
   refine eY (b:=((j:Int) == many-1)) (beq_iff_eq.mpr f.2.1) ?_
   refine eY (aO f.2.2) ?_
   refine eH (Lp hA) ?_
   exact hK _ _ _ _ _ _ _
  ·rw [if_neg f] at hK
   have go:=OP g hc hw hF hm hA hjm (K:=K) (L:=L) (z:=z) (b:=b) (mx:=mx) (o7:=o7) (o8:=o8) (o9:=o9) (o10:=o10) fun o7 o8 o9 o10=>hK _ _ _ o7 o8 o9 o10
   by_cases q1:(0:Int)<j
   ·refine eY (aO q1) ?_
    by_cases q2:(j:Int)=many-1
    ·refine eY (b:=((j:Int) == many-1)) (beq_iff_eq.mpr q2) ?_
     refine dR (aU fun q3=>f ⟨q1,q2,q3⟩) ?_
     exact go
    ·refine dR (b:=((j:Int) == many-1)) (bY.mpr q2) ?_
     refine dR (b:=((j:Int) == many-1)) (bY.mpr q2) ?_
     exact go
   ·refine dR (aU q1) ?_
    refine dR (aU q1) ?_
    exact go
end
section
variable {P:Nat→Option Fn}(g:Gen P) {fuel k:Nat}
include g
theorem Bz {c:Int}(hc:intBits c≤1048577) {ws:List Str}(hw:iP ws) {cx:Ctx}(hF:∀n args H,cx.F n args H=F P fuel (k+2) n args H) {many:Int}(em:pC c=many) :
  dG cx lF.body.tl.tl [some (.int c),some (.lst (ws.map V.str)),some (.int many),none,none,none,none,none,none,none,none] [] (fun _ H1=>finish [] H1 .none) (fun v H1=>finish [] H1 v)=some (.lst ((nZ c ws).map dB.v),true,[]):=by
 have hm:=yN c
 have e:nZ c ws=(List.range many.toNat).map (pB c ws many):=by unfold nZ;exact rl em rfl
 rw [em] at hm
 refine rl e ?_
 have hs:∀j,((List.range (j+1)).map (pB c ws many)).map dB.v=((List.range j).map (pB c ws many)).map dB.v++[(pB c ws many j).v]:=fun j=>by refine rl List.range_succ (rl aM (rl aM ?_));rfl
 refine kG (by exact Z2 hm.1) (by exact L2 hm.2) ?_
 refine Xf (G:=none) (m:=many) (n:=many.toNat) (fun _ (o:Option V×Option V) o6 o7 o8 o9 o10=>LV c ws many o.1 o.2 o6 o7 o8 o9 o10) (fun j _=>[.lst (((List.range j).map (pB c ws many)).map dB.v)]) (by exact A7 (Z2 hm.1)) (fun _ _=>rfl) ?_ ?_ (none,none) none none none none none
 ·intro j o o6 o7 o8 o9 o10 K' hj hK'
  rw [hs] at hK'
  exact CX g hc hw hF hm (by refine rl (aA ..) (rl (aA ..) (rl bE ?_));exact L1 (aD (cI hj) (A6 hm.2))) (by exact A9 hj) fun o4 o5 o6 o7 o8 o9 o10=>hK' (o4,o5) o6 o7 o8 o9 o10
 ·intro o o6 o7 o8 o9 o10
  exact wE (H:=[]) (mS _ _) []
theorem Sb {c:Int}(hc:intBits c≤1048577) {ws:List Str}(hw:iP ws):F P fuel (k+3) 10 [.int c,.lst (ws.map V.str)] []=some (.lst ((nZ c ws).map dB.v),true,[]):=by
 refine eV g.law_plan rfl fun cx hF _=>?_
 by_cases h8:(c.fdiv 7).fmod 8=1
 ·refine eY (b:=((c.fdiv 7).fmod 8 == 1)) (by refine rl h8 ?_;rfl) ?_
  exact Bz g hc hw hF (many:=1+c.fmod 12) (if_pos h8)
 ·refine dR (b:=((c.fdiv 7).fmod 8 == 1)) (bY.mpr h8) ?_
  exact Bz g hc hw hF (many:=1+c.fmod 7) (if_neg h8)
end
end
section
theorem kQ {s:Str}(h:GoodW s):PyData.strOk s=true:=by
 show s.cps.all (· < 0x110000)=true
 refine ri Array.all_eq_true' ?_
 intro c hc
 have:=h.2.2 c (Array.mem_toList_iff.mpr hc)
 exact aO (by exact N1 this.2)
theorem kR {R:Type}{Q:Option R→Prop}{x y:Option R}(h:x=y) (k:Q y):Q x:=h ▸ k
theorem gX {R α:Type}{r:Option R}{G:Option Nat}{H0 H:Hp}{fn:V→Hp→(Option V→Hp→Option R)→Option R}{K:List V→Hp→Option R}{a b:α→V}(hG:same H H0 G=true):∀(ps:List α) (ds:List V),(∀p∈ps,∀K',K' (some (b p)) H=r→fn (a p) H K'=r)→ds.length+ps.length≤1100000→K (ds++ps.map b) H=r→rV fn G H0 (ps.map a) ds H K=r
 |[],ds,_,hl,hK=>dJ hG (hU (show ds.length≤1100000 from hl) (by rwa [List.map_nil,bV] at hK))
 |p::ps,ds,hf,hl,hK=>by
  rw [bF] at hl
  refine dJ hG (hU (show ds.length≤1100000 by exact aD (bW _ _) hl) (hf p aH _ (gX hG ps _ (fun y hy=>hf y (aT _ hy)) ?_ ?_)))
  ·refine rl aE ?_;show ds.length+1+_≤_;exact aD (bM (Nat.add_right_comm _ _ _)) hl
  ·refine rl (bC ..) ?_;exact hK
inductive RK where
 |fin | send | get | flip | jump
noncomputable def RK.n:RK→Nat
 |.fin=>0 | .send=>1 | .get=>2 | .flip=>3 | .jump=>4
noncomputable def RK.s:RK→Str
 |.fin=>Str.ofString "end" | .send=>Str.ofString "send" | .get=>Str.ofString "get" | .flip=>Str.ofString "flip" | .jump=>Str.ofString "jump"
inductive Row where
 |fin
 |send (w:Str)
 |get (ws:List (Str×Int))
 |flip (g:Int)
 |jump (g:Int)
noncomputable def Row.k:Row→RK
 |.fin=>.fin | .send _=>.send | .get _=>.get | .flip _=>.flip | .jump _=>.jump
noncomputable def Row.v:Row→V
 |.fin=>.tup [.str RK.fin.s]
 |.send w=>.tup [.str RK.send.s,.str w]
 |.get ws=>.tup [.str RK.get.s,.tup (ws.map wv)]
 |.flip g=>.tup [.str RK.flip.s,.int g]
 |.jump g=>.tup [.str RK.jump.s,.int g]
noncomputable def gV (many at_:Int):Row→Prop
 |.fin=>True
 |.send w=>GoodW w∧at_<many-1
 |.get ws=>eA many ws
 |.flip g=>(0≤g∧g≤many-1)∧at_<many-1
 |.jump g=>0≤g∧g≤many-1
structure gF (rs:List Row):Prop where
 lo:1≤rs.length
 hi:rs.length≤240
 rows:∀(i:Nat) (r:Row),rs[i]? = some r→gV rs.length i r
theorem Ca (a:RK):PyData.strOk a.s=true:=by cases a <;> decide +kernel
section
variable {H:Hp}{r:Row}
theorem eU (a b:RK):fV H .Eq (.str a.s) (.str b.s)=some (a.n == b.n):=(AH (Ca a) (Ca b)).trans (aQ some (by cases a <;> cases b <;> decide +kernel))
theorem rkd:fH H r.v (.int 0)=some (.str r.k.s):=by cases r <;> rfl
theorem Row.ok (n:Nat) (r:Row):r.v.ok n=true:=by
 cases r with
 |get ws=>exact (aF (x:=V.oks n (ws.map wv))).mpr ⟨sU n ws,rfl⟩
 |_=>rfl
theorem mT (n:Nat):∀rs:List Row,V.oks n (rs.map Row.v)=true
 |[]=>rfl
 |r::rs=>aF.mpr ⟨r.ok n,mT n rs⟩
theorem CY:dS H (.isinst .tuple) [r.v]=some (.bool true):=by cases r <;> rfl
noncomputable def RK.len:RK→Int
 |.fin=>1
 |_=>2
theorem qB:dS H .len [r.v]=some (.int r.k.len):=by cases r <;> rfl
theorem mU (r:Row):r=.fin∨(∃w,r=.send w)∨(∃ws,r=.get ws)∨(∃g,r=.flip g)∨∃g,r=.jump g:=by
 cases r with
 |fin=>exact .inl rfl
 |send w=>exact .inr (.inl ⟨w,rfl⟩)
 |get ws=>exact .inr (.inr (.inl ⟨ws,rfl⟩))
 |flip g=>exact .inr (.inr (.inr (.inl ⟨g,rfl⟩)))
 |jump g=>exact .inr (.inr (.inr (.inr ⟨g,rfl⟩)))
theorem sX {w:Str}(h:r=.send w):fH H r.v (.int 1)=some (.str w):=by subst h;rfl
theorem pD {ws:List (Str×Int)}(h:r=.get ws):fH H r.v (.int 1)=some (.tup (ws.map wv)):=by subst h;rfl
theorem Og {g:Int}(h:r=.flip g):fH H r.v (.int 1)=some (.int g):=by subst h;rfl
theorem Oh {g:Int}(h:r=.jump g):fH H r.v (.int 1)=some (.int g):=by subst h;rfl
end
section
variable {P:Nat→Option Fn}(gg:Gen P) (g8:G8 P) {fuel k:Nat}{H:Hp}
include gg g8
theorem Xr {r:Row}{at_ many:Int}(h:gV many at_ r):F P fuel (k+3) 40 [r.v,.int at_,.int many] H=some (.bool true,false,H):=by
 refine eV g8.is_row rfl fun c hF _=>?_
 refine dC CY ?_
 refine dC qB ?_
 have h0:(r.k.len == 0)=false:=by cases r <;> rfl
 refine dR (b:=(r.k.len == 0)) h0 ?_
 refine cX rkd ?_
 refine cX rkd ?_
 refine dN (eU r.k .fin) ?_
 rcases mU r with e | ⟨w,e⟩ | ⟨ws,e⟩ | ⟨g,e⟩ | ⟨g,e⟩
 ·refine eY (b:=(r.k.n == RK.fin.n)) (by refine rl e ?_;rfl) ?_
  refine dC qB ?_
  exact oY (by refine rl e ?_;rfl)
 ·have h':GoodW w∧at_<many-1:=by rw [e] at h;exact h
  refine dR (b:=(r.k.n == RK.fin.n)) (by refine rl e ?_;rfl) ?_
  refine dC qB ?_
  refine dR (b:=!(r.k.len == 2)) (by refine rl e ?_;rfl) ?_
  refine cX rkd ?_
  refine dN (eU r.k .send) ?_
  refine eY (b:=(r.k.n == RK.send.n)) (by refine rl e ?_;rfl) ?_
  refine cX (sX e) ?_
  refine cY ((hF _ _ _).trans (Bu gg h'.1)) ?_
  exact oY (aO h'.2)
 ·have h':eA many ws:=by rw [e] at h;exact h
  refine dR (b:=(r.k.n == RK.fin.n)) (by refine rl e ?_;rfl) ?_
  refine dC qB ?_
  refine dR (b:=!(r.k.len == 2)) (by refine rl e ?_;rfl) ?_
  refine cX rkd ?_
  refine dN (eU r.k .send) ?_
  refine dR (b:=(r.k.n == RK.send.n)) (by refine rl e ?_;rfl) ?_
  refine cX rkd ?_
  refine dN (eU r.k .get) ?_
  refine eY (b:=(r.k.n == RK.get.n)) (by refine rl e ?_;rfl) ?_
  refine cX (pD e) ?_
  refine cY ((hF _ _ _).trans (Bv gg h')) ?_
  exact gE
 ·have h':(0≤g∧g≤many-1)∧at_<many-1:=by rw [e] at h;exact h
  refine dR (b:=(r.k.n == RK.fin.n)) (by refine rl e ?_;rfl) ?_
  refine dC qB ?_
  refine dR (b:=!(r.k.len == 2)) (by refine rl e ?_;rfl) ?_
  refine cX rkd ?_
  refine dN (eU r.k .send) ?_
  refine dR (b:=(r.k.n == RK.send.n)) (by refine rl e ?_;rfl) ?_
  refine cX rkd ?_
  refine dN (eU r.k .get) ?_
  refine dR (b:=(r.k.n == RK.get.n)) (by refine rl e ?_;rfl) ?_
  refine cX rkd ?_
  refine dN (eU r.k .flip) ?_
  refine eY (b:=(r.k.n == RK.flip.n)) (by refine rl e ?_;rfl) ?_
  refine cX (Og e) ?_
  refine cY ((hF _ _ _).trans (rM gg h'.1.1 h'.1.2)) ?_
  exact oY (aO h'.2)
 ·have h':0≤g∧g≤many-1:=by rw [e] at h;exact h
  refine dR (b:=(r.k.n == RK.fin.n)) (by refine rl e ?_;rfl) ?_
  refine dC qB ?_
  refine dR (b:=!(r.k.len == 2)) (by refine rl e ?_;rfl) ?_
  refine cX rkd ?_
  refine dN (eU r.k .send) ?_
  refine dR (b:=(r.k.n == RK.send.n)) (by refine rl e ?_;rfl) ?_
  refine cX rkd ?_
  refine dN (eU r.k .get) ?_
  refine dR (b:=(r.k.n == RK.get.n)) (by refine rl e ?_;rfl) ?_
  refine cX rkd ?_
  refine dN (eU r.k .flip) ?_
  refine dR (b:=(r.k.n == RK.flip.n)) (by refine rl e ?_;rfl) ?_
  refine cX rkd ?_
  refine dN (eU r.k .jump) ?_
  refine eY (b:=(r.k.n == RK.jump.n)) (by refine rl e ?_;rfl) ?_
  refine cX (Oh e) ?_
  refine cY ((hF _ _ _).trans (rM gg h'.1 h'.2)) ?_
  exact gE
theorem enum_rows:∀(rs:List Row) (j:Nat),As j (rs.map Row.v)=(rs.zipIdx j).map fun x=>V.tup [.int x.2,x.1.v]
 |[],_=>rfl
 |r::rs,j=>aQ (_::·) (enum_rows rs (j+1))
theorem Sc {rs:List Row}(h:gF rs) {v:V}(hp:dH H (rs.map Row.v) v):F P fuel (k+4) 41 [v] H=some (.none,false,H):=by
 have h1:=h.lo
 have h2:=h.hi
 have hl:(rs.map Row.v).length≤1100000:=by refine rl (aA ..) ?_;exact L1 h2
 obtain ⟨nI,hnI,hlen⟩:∃nI:Int,nI=rs.length∧dS H .len [v]=some (.int nI):=⟨_,rfl,(hp.len hl).trans (by exact rl (aA ..) rfl)⟩
 refine eV g8.need_program rfl fun c hF _=>?_
 refine dC hp.isi ?_
 refine dC hlen ?_
 refine eY (aO (show (1:Int)≤nI by exact Z2 (bI (Bc h1) (A1 hnI)))) ?_
 refine dR (b:=!decide (nI≤240)) (by refine rl (aO (by exact L2 (bI (cO hnI) (Bc h2)))) ?_;rfl) ?_
 refine jE (b:=.enum) (v:=(rs.zipIdx 0).map fun x=>V.tup [.int x.2,x.1.v]) (cW hp.list (dJ (dP hl) (aQ some (enum_rows gg g8 rs 0)))) ?_
 refine gX (a:=fun x:Row×Nat=>V.tup [.int x.2,x.1.v]) (b:=fun _=>V.bool true) same_self (rs.zipIdx 0) [] (fun x hx K' hK=>?_) (by refine rl List.length_nil (rl List.length_zipIdx ?_);exact L1 (aW (aN _) h2)) ?_
 ·obtain ⟨r,i⟩:=x
  have hx:=(List.mem_zipIdx_iff_getElem?.mp hx)
  refine dC hlen ?_
  refine cY ((hF _ _ _).trans (Xr gg g8 (r:=r) (at_:=(i:Int)) (by refine rl hnI ?_;exact h.rows i r hx))) ?_
  exact hK
 ·rw [List.nil_append]
  refine dC (sT (xs:=rs.zipIdx 0)) ?_
  exact eN (v:=.none) rfl
end
end
section
noncomputable def find:List (Str×Int)→Str→Option Int
 |[],_=>none
 |x::r,w=>br (x.1 == w) (some x.2) (find r w)
section
variable {H:Hp}
theorem lR:∀{xs:List PyData},(∀x∈xs,x.canLay0=true)→PyData.canLayAll0 xs=true
 |[],_=>rfl
 |x::xs,h=>aF.mpr ⟨h x aH,lR fun y hy=>h y (aT _ hy)⟩
theorem kY {n:Nat}:∀{xs:List PyData},(∀x∈xs,x.depth≤n)→PyData.depthAll xs≤n
 |[],_=>aX _
 |x::xs,h=>Nat.max_le.mpr ⟨h x aH,kY fun y hy=>h y (aT _ hy)⟩
theorem qC {k:Nat}:∀{ws:List Str},fF (gO H (k+1)) (ws.map V.str)=some (ws.map PyData.str)
 |[]=>rfl
 |w::ws=>cW rfl (by refine rl qC ?_;rfl)
theorem yO {ws:List Str}(h:∀w∈ws,PyData.strOk w=true):Tt (.list (ws.map PyData.str))=true:=by
 refine aF.mpr ⟨lR fun x hx=>?_,aO (cU (aD (kY (n:=0) fun x hx=>?_) (by decide:0≤63)))⟩
 ·refine dF (aJ.mp hx) fun w hw e_e=>?_;subst e_e;exact h w hw
 ·refine dF (aJ.mp hx) fun w hw e_e=>?_;subst e_e;exact aN _
end
theorem Ec {last:Str}:∀{ys:List (Str×Int)},Rp last ys→∀y∈ys,gN last y.1=true
 |[],_,y,hy=>by cases hy
 |x::ys,h,y,hy=>by
  rcases aZ.mp hy with rfl | hy
  ·exact h.1
  ·have:=Ec h.2 y hy
   exact aO (List.lt_trans (bD h.1) (bD this))
theorem uH:∀{ys:List (Str×Int)}{last:Str},Rp last ys→(ys.map (·.1)).Nodup
 |[],_,_=>cG
 |x::ys,_,h=>by
  refine rl cQ (ri cA ?_)
  refine ⟨fun m=>?_,uH h.2⟩
  refine dF (aJ.mp m) fun y hy e=>?_
  have:=Ec h.2 y hy
  rw [e] at this
  exact absurd (bD this) (List.lt_irrefl _)
theorem yP:∀ws:List (Str×Int),fF Jv (ws.map wv)=some (ws.map fun x=>(V.str x.1,V.int x.2))
 |[]=>rfl
 |x::ws=>cW rfl (by refine rl (yP ws) ?_;rfl)
theorem Sd {ws:List Str}(h:ws.Nodup):(ws.map V.str).Nodup:=by
 refine List.pairwise_map.mpr (h.imp fun hn e=>hn ?_)
 injection e
noncomputable def wD (ws:List (Str×Int)):V:=.dct false ((ws.map (·.1)).map V.str) (ws.map fun x=>V.int x.2)
section
variable {H:Hp}{ws:List (Str×Int)}{w:Str}
theorem Cb {v:V}(hv:v.items H=some (ws.map wv)) (hn:(ws.map (·.1)).Nodup) (hl:ws.length≤64):dictFrom H v=some (wD ws):=by
 refine cW hv (cW (yP ws) ?_)
 have e:(ws.map fun x=>(V.str x.1,V.int x.2)).map (·.1)=(ws.map (·.1)).map V.str:=by refine rl bJ (rl bJ ?_);rfl
 have h1:((ws.map fun x=>(V.str x.1,V.int x.2)).map (·.1)).Nodup:=by refine rl e ?_;exact Sd hn
 refine (hU ⟨h1,by refine rl (aA ..) ?_;exact hl⟩ rfl).trans ?_
 have e2:(ws.map fun x=>(V.str x.1,V.int x.2)).map (·.2)=ws.map fun x=>V.int x.2:=by refine rl bJ ?_;rfl
 rw [e,e2,wD]
theorem Hr {ks:List Str}:fA (ks.map V.str) (.str w)=true:=by
 have:∀ws:List Str,(ws.map V.str).all Cw=true:=fun ws=>bR.mpr fun v hv=>by
  refine dF (aJ.mp hv) fun y _ e_e=>?_;subst e_e
  rfl
 show ((true&&(ks.map V.str).all Cw)||_)=true
 refine rl (this ks) ?_;rfl
theorem uI:∀{ws:List (Str×Int)},decide (V.str w∈(ws.map (·.1)).map V.str)=(find ws w).isSome
 |[]=>rfl
 |y::ws=>by
  show decide (V.str w∈V.str y.1::(ws.map (·.1)).map V.str)=(br (y.1 == w) (some y.2) (find ws w)).isSome
  by_cases e:y.1=w
  ·refine rl (beq_iff_eq.mpr e) (rl e ?_);exact aO aH
  ·refine rl (bY.mpr e) ?_
   show _=(find ws w).isSome
   refine rr uI ?_
   congr 1
   refine ri aZ ?_
   exact propext ⟨fun m=>m.resolve_left fun q=>e (by injection q with q;exact q.symm),.inr⟩
theorem yQ:fV H .NotIn (.str w) (wD ws)=some !(find ws w).isSome:=by
 refine cW (o:=HV H (.str w) (wD ws)) (a:=(find ws w).isSome) (dJ (Hr (ks:=ws.map fun x=>x.1)) (aQ some uI)) rfl
theorem Ed {β:Type}{v d:V}{g:V→Option β}{z:Option β}(h:dictFrom H v=some d) (k:g d=z):(dictFrom H v).bind g=z:=cW h k
end
section
variable {H:Hp}
theorem dX {K:Hp}{j:Nat}:(H++K)[H.length+j]? = K[j]?:=by
 exact rl (bO (bW _ _)) (rl (Nat.add_sub_cancel_left ..) rfl)
theorem fZ {K:Hp}{j:Nat}{v:V}:(H++K).set (H.length+j) v=H++K.set j v:=by
 exact rl (List.set_append_right _ _ (bW _ _)) (rl (Nat.add_sub_cancel_left ..) rfl)
theorem pE {i:Nat}{xs:List V}(e:H[i]? = some (.lst xs)):eC H (.ref i)=some xs:=cW e rfl
theorem jR {i:Nat}{xs:List V}(e:H[i]? = some (.lst xs)) (hl:xs.length≤1100000):dS H .len [.ref i]=some (.int xs.length):=(dH.ref i e).len hl
end
end
noncomputable def dB.ways:dB→List (Str×Int)
 |.fin=>[]
 |.go _ ws=>ws
theorem Se (p:dB):p.turn.ways=p.ways:=by cases p <;> rfl
theorem Sf {ps:List dB}(h:dA ps):dA (ps.map dB.turn):=by
 refine ⟨by refine rl (aA ..) ?_;exact h.lo,by refine rl (aA ..) ?_;exact h.hi,fun p hp=>?_⟩
 refine dF (aJ.mp hp) fun q hq e_e=>?_;subst e_e
 refine rl (aA ..) ?_
 have:=h.stops q hq
 cases q with
 |fin=>trivial
 |go b ws=>exact this
noncomputable def Sg:Nat→List (List Nat)
 |0=>[[]]
 |k+1=>Sg k++(Sg k).map ((5-k)::·)
theorem pF:∀(k:Nat) (rs:List Nat),k≤6→rs.Pairwise (· < ·)→(∀r∈rs,6-k≤r∧r<6)→rs∈Sg k
 |0,rs,_,_,h=>by
  cases rs with
  |nil=>exact aH
  |cons r rs=>have:=h r aH;omega
 |k+1,rs,hk,hp,h=>by
  show rs∈Sg k++(Sg k).map ((5-k)::·)
  cases rs with
  |nil=>exact aY.mpr (.inl (pF k [] (Nat.le_of_succ_le hk) hp fun r hr=>(by cases hr)))
  |cons r rs=>
   rw [List.pairwise_cons] at hp
   by_cases e:r=5-k
   ·subst e
    refine aY.mpr (.inr (aJ.mpr ⟨rs,pF k rs (Nat.le_of_succ_le hk) hp.2 fun s hs=>?_,rfl⟩))
    have h1:=hp.1 s hs
    have h2:=h s (aT _ hs)
    exact ⟨aD (bM (Nat.succ_sub (Nat.le_of_succ_le_succ hk))) h1,h2.2⟩
   ·refine aY.mpr (.inl (pF k (r::rs) (Nat.le_of_succ_le hk) (List.pairwise_cons.mpr hp) fun s hs=>?_))
    have h0:=h r aH
    rcases aZ.mp hs with rfl | hs
    ·exact ⟨aD (bM (Nat.succ_sub (Nat.le_of_succ_le_succ hk))) (Nat.lt_of_le_of_ne (aD (bM (Nat.succ_sub_succ 5 k).symm) h0.1) fun q=>e q.symm),h0.2⟩
    ·have h1:=hp.1 s hs
     have h2:=h s (aT _ hs)
     exact ⟨aD (bM (Nat.succ_sub (Nat.le_of_succ_le_succ hk))) (cR (aD (bM (Nat.succ_sub_succ 5 k).symm) h0.1) h1),h2.2⟩
theorem Oi:(Sg 6).all (fun rs=>(rs.isEmpty||qA rs)&&(List.range 6).all fun r=>rs.contains r||qA (rs++[r]))=true:=by decide +kernel
noncomputable def Lq (ws:List Str) (x:Str×Int):Nat:=ws.idxOf x.1
theorem uJ {ws:List Str}(h:iP ws) {x:Str×Int}(hx:x.1∈ws):Lq ws x<6:=by refine rr h.1 ?_;exact List.idxOf_lt_length_of_mem hx
theorem oA {ws:List Str}{x:Str×Int}(hx:x.1∈ws):ws.getD (Lq ws x) Str.empty=x.1:=by
 unfold Lq
 refine rl (dL (List.idxOf_lt_length_of_mem hx)) ?_
 exact List.getElem_idxOf _
theorem sY:∀{ys:List (Str×Int)}{last:Str},Rp last ys→ys.Pairwise fun a b=>gN a.1 b.1=true
 |[],_,_=>.nil
 |y::ys,_,h=>List.pairwise_cons.mpr ⟨fun b hb=>Ec h.2 b hb,sY h.2⟩
theorem Hs {ws:List Str}(h:iP ws) {ys:List (Str×Int)}(hy:∀x∈ys,x.1∈ws) (hp:ys.Pairwise fun a b=>gN a.1 b.1=true):(ys.map (Lq ws)).Pairwise (· < ·):=by
 refine ri List.pairwise_map ?_
 refine hp.imp_of_mem fun {a b} ha hb hl=>?_
 rw [←oA (hy a ha),←oA (hy b hb),rO h (uJ h (hy a ha)) (uJ h (hy b hb))] at hl
 exact bD hl
theorem pG {ws:List Str}(h:iP ws) {ys:List (Str×Int)}(hy:∀x∈ys,x.1∈ws) (hp:ys.Pairwise fun a b=>gN a.1 b.1=true) (hne:1≤ys.length) (hl:ys.length≤6):rP ys (gQ ys):=by
 have hi:=Hs h hy hp
 have hm:∀r∈ys.map (Lq ws),r<6:=fun r hr=>by refine dF (aJ.mp hr) fun x hx e_e=>?_;subst e_e;exact uJ h (hy x hx)
 have hc:=bR.mp Oi _ (pF 6 _ (aN _) hi fun r hr=>⟨aX _,hm r hr⟩)
 have hc:=(aF.mp hc).1
 refine pA h (rs:=ys.map (Lq ws)) hm (hi.imp fun h=>Nat.ne_of_lt h) ?_ (by refine rl (aA ..) ?_;exact hne) (by refine rl (aA ..) ?_;exact hl) ?_
 ·rcases Bool.or_eq_true_iff.mp hc with q | q
  ·rw [List.isEmpty_iff,List.map_eq_nil_iff] at q
   subst q
   cases hne
  ·exact q
 ·refine rl bJ ?_
  exact List.map_congr_left fun x hx=>(oA (hy x hx)).symm
theorem yR {ws:List Str}(h:iP ws) {ys:List (Str×Int)}(hy:∀x∈ys,x.1∈ws) (hp:ys.Pairwise fun a b=>gN a.1 b.1=true) (hl:ys.length≤5) {z:Str×Int}(hz:z.1∈ws) (hn:z.1∉ys.map (·.1)):rP (ys++[z]) (gQ (ys++[z])):=by
 have hi:=Hs h hy hp
 have hm:∀r∈ys.map (Lq ws),r<6:=fun r hr=>by refine dF (aJ.mp hr) fun x hx e_e=>?_;subst e_e;exact uJ h (hy x hx)
 have hc:=bR.mp Oi _ (pF 6 _ (aN _) hi fun r hr=>⟨aX _,hm r hr⟩)
 have hc:=bR.mp (aF.mp hc).2 (Lq ws z) (List.mem_range.mpr (uJ h hz))
 have hnr:Lq ws z∉ys.map (Lq ws):=fun m=>by
  refine dF (aJ.mp m) fun x hx e=>?_
  refine hn (aJ.mpr ⟨x,hx,?_⟩)
  show x.1=z.1
  exact rr (oA (hy x hx)) (rl e (rl (oA hz) rfl))
 have hc:qA (ys.map (Lq ws)++[Lq ws z])=true:=by
  rcases Bool.or_eq_true_iff.mp hc with q | q
  ·exact absurd (List.contains_iff_mem.mp q) hnr
  ·exact q
 refine pA h (rs:=ys.map (Lq ws)++[Lq ws z]) (fun r hr=>?_) ?_ hc (by refine rl aE ?_;exact Nat.le_add_left _ _) (by refine rl aE (rl (aA ..) ?_);exact cU hl) ?_
 ·rcases aY.mp hr with q | q
  ·exact hm r q
  ·refine rl (aG.mp q) ?_;exact uJ h hz
 ·refine ri cT ?_
  refine ⟨hi.imp fun h=>Nat.ne_of_lt h,cA.mpr ⟨cE,cG⟩,fun a ha b hb e=>?_⟩
  rw [aG] at hb
  exact hnr (hb ▸ e ▸ ha)
 ·refine rl aM (rl aM (rl bJ ?_))
  congr 1
  ·exact List.map_congr_left fun x hx=>(oA (hy x hx)).symm
  ·show [z.1]=[ws.getD (Lq ws z) Str.empty]
   exact rl (oA hz) rfl
structure jY (ws:List Str) (ps:List dB):Prop where
 good:dA ps
 mem:∀p∈ps,∀x∈p.ways,x.1∈ws
theorem JX (c:Int) {ws:List Str}(hw:iP ws):jY ws (nZ c ws):=by
 refine ⟨Sa c hw,fun p hp x hx=>?_⟩
 refine dF (aJ.mp hp) fun j _ e_e=>?_;subst e_e
 unfold pB at hx
 generalize Dy (c.fdiv 56) (20*(j:Int))=mx at hx
 cases hk:JW (mx.fmod 7).toNat with
 |none=>rw [hk] at hx;cases hx
 |some b=>
  rw [hk] at hx
  dsimp only at hx
  split at hx
  ·cases hx
  ·have:=(uG (c:=c) hw (pC c) mx j).mem x hx
   refine dF (aJ.mp this) fun t _ e_e=>?_;subst e_e
   have e2:=dE (mx.fdiv 90+(t:Int)) (d:=6) (by decide)
   dsimp only
   rw [dL (by refine rl hw.1 ?_;exact N1 (A6 (Z5 e2.2)))]
   exact cM _
theorem Xs {ws:List Str}{ps:List dB}(h:jY ws ps):jY ws (ps.map dB.turn):=by
 refine ⟨Sf h.good,fun p hp x hx=>?_⟩
 refine dF (aJ.mp hp) fun q hq e_e=>?_;subst e_e
 rw [Se] at hx
 exact h.mem q hq x hx
section
noncomputable def oi:Option Int→V
 |none=>.none
 |some i=>.int i
theorem Sh {α:Type}{b:Bool}{x y z:α}(h1:b=true→x=z) (h2:b=false→y=z):br b x y=z:=match b,h1,h2 with
 |true,h1,_=>h1 rfl
 |false,_,h2=>h2 rfl
theorem lH {P:Nat→Option Fn}{fuel k:Nat}{H:Hp}(hP:P 17=some nU) {ws:List (Str×Int)}(hg:∀x∈ws,GoodW x.1) {w:Str}(hw:GoodW w):F P fuel (k+1) 17 [.tup (ws.map wv),.str w] H=some (oi (find ws w),false,H):=by
 refine eV hP rfl fun c hF _=>?_
 refine mR (fun xs ρ H'=>H'=H∧∃rest o2 o3,xs=rest.map wv∧find ws w=find rest w∧(∀y∈rest,y∈ws)∧ρ=[some (.tup (ws.map wv)),some (.str w),o2,o3]) ?_ ?_ _ _ _ ⟨rfl,ws,_,_,rfl,rfl,fun _ m=>m,rfl⟩
 ·rintro v xs ρ H' ⟨rfl,rest,o2,o3,e,hf,hm,rfl⟩
  cases rest with
  |nil=>cases e
  |cons y rest=>
   obtain ⟨rfl,rfl⟩:=List.cons.inj e
   obtain ⟨s,i⟩:=y
   refine ⟨rfl,fun K' hK=>?_⟩
   refine dN (AH (kQ (hg _ (hm _ aH))) (kQ hw)) ?_
   refine Sh (fun hs=>?_) (fun hs=>?_)
   ·have hf:find ws w=some i:=hf.trans (eY hs rfl)
    refine rl hf ?_
    exact eN (v:=.int i) rfl
   ·exact hK _ _ ⟨rfl,rest,_,_,rfl,hf.trans (dR hs rfl),fun y hy=>hm y (aT _ hy),rfl⟩
 ·rintro ρ H' ⟨rfl,rest,o2,o3,e,hf,hm,rfl⟩
  cases rest with
  |cons=>cases e
  |nil=>
   refine ⟨rfl,?_⟩
   refine rl hf ?_
   exact eN (v:=.none) rfl
noncomputable def dB.words (p:dB):List Str:=p.ways.map (·.1)
noncomputable def subB (p q:dB):Bool:=p.words.all fun w=>decide (w∈q.words)
noncomputable def dB.kd:dB→Str
 |.fin=>Str.ofString "end"
 |.go b _=>hV b
noncomputable def dB.isSend:dB→Bool
 |.fin=>false
 |.go b _=>b
noncomputable def dB.isGet:dB→Bool
 |.fin=>false
 |.go b _=>!b
noncomputable def dB.isFin:dB→Bool
 |.fin=>true
 |.go _ _=>false
noncomputable def eD (p q:dB):Option Bool:=if (p.isSend&&q.isGet&&subB p q)=true then some false else if (q.isSend&&p.isGet&&subB q p)=true then some true else none
noncomputable def kH (p q:dB):Bool:=(p.isFin&&q.isFin)||(eD p q).isSome
noncomputable def eP (p:dB):Prop:=(∀w∈p.words,GoodW w)∧p.words.length≤6∧p.words.Nodup
theorem JY {many:Int}{p:dB}(h:eI many p):eP p:=by
 cases p with
 |fin=>exact ⟨fun w hw=>(by cases hw),aX _,cG⟩
 |go b ws=>
  refine ⟨fun w hw=>?_,?_,uH h.asc⟩
  ·refine dF (aJ.mp hw) fun x hx e_e=>?_;subst e_e
   exact h.words x hx
  ·show (ws.map (·.1)).length≤6
   refine rl (aA ..) ?_;exact h.hi
theorem pH {w:Str}:∀{ws:List Str},(ws.map PyData.str).any (fun y=>PyData.eqv y (.str w))=decide (w∈ws)
 |[]=>by refine rl (aU cE) ?_;rfl
 |x::ws=>by
  show ((x == w)||(ws.map PyData.str).any _)=_
  refine rl pH ?_
  by_cases h:x=w
  ·subst h
   refine rl (beq_self_eq_true ..) (rl (aO aH) ?_);rfl
  ·refine rl (bY.mpr h) (rl (Bool.false_or ..) ?_)
   congr 1
   refine ri aZ ?_
   exact propext ⟨.inr,fun m=>m.resolve_left fun e=>h e.symm⟩
theorem yS {H:Hp}{w:Str}{ws:List Str}(hw:GoodW w) (h:∀w∈ws,GoodW w):fV H .In (.str w) (.lst (ws.map V.str))=some (decide (w∈ws)):=by
 refine cW (o:=gO H 12 (.lst (ws.map V.str))) (a:=.list (ws.map PyData.str)) (by show (fF (gO H 11) _).map _=_;refine rl qC ?_;rfl) ?_
 exact dJ (lQ (kQ hw)) (dJ (yO fun w hw=>kQ (h w hw)) (by exact rl pH rfl))
theorem Cc {α:Type}(f:α→Bool):∀(xs:List α),fF boolOf (xs.map fun x=>V.bool (f x))=some (xs.map f)
 |[]=>rfl
 |x::xs=>cW rfl (by refine rl (Cc f xs) ?_;rfl)
theorem all_map {α:Type}{f:α→Bool}{xs:List α}{H:Hp}:dS H .all [.lst (xs.map fun x=>.bool (f x))]=some (.bool (xs.all f)):=
 cW (o:=fF boolOf _) (Cc f xs) (by refine rl List.all_map ?_;rfl)
theorem kZ {x:Str×Int}{r:List (Str×Int)}{w:Str}:find (x::r) w=if x.1=w then some x.2 else find r w:=by
 show br (x.1 == w) _ _=_
 by_cases h:x.1=w
 ·refine rl (if_pos h) (rl (beq_iff_eq.mpr h) ?_);rfl
 ·refine rl (if_neg h) (rl (bY.mpr h) ?_);rfl
section
variable {P:Nat→Option Fn}(f:GF P) {fuel k:Nat}{H:Hp}{p q:dB}
include f
theorem gG:F P fuel (k+1) 15 [p.v] H=some (.tup (p.ways.map wv),false,H):=by
 refine eV f.ways_of rfl fun c _ _=>?_
 cases p with
 |fin=>
  refine dN wG ?_
  exact eN (v:=.tup []) rfl
 |go b ws=>
  refine dN (sV b) ?_
  exact eN (v:=.tup (ws.map wv)) (sU _ _)
theorem fG (h:p.words.length≤6):F P fuel (k+2) 16 [p.v] H=some (.lst (p.words.map V.str),false,H):=by
 refine eV f.words_of rfl fun c hF _=>?_
 refine cY ((hF _ _ _).trans (gG f)) ?_
 have hl:p.ways.length≤6:=by unfold dB.words at h;rwa [aA] at h
 refine kX (fun x=>match x with | .tup (a::_)=>a | _=>.none) same_self (fun x hx K' hK=>?_) (by refine rl (aA ..) ?_;exact L1 hl) ?_
 ·refine dF (aJ.mp hx) fun y _ e_e=>?_;subst e_e
  exact hK
 ·refine rl bJ (rl (show p.ways.map ((fun x=>match x with | .tup (a::_)=>a | _=>.none) ∘ wv)=p.words.map V.str by unfold dB.words;rw [bJ];rfl) ?_)
  exact eN (v:=.lst _) (yH _ _)
theorem pI {ws:List (Str×Int)}(hg:∀x∈ws,GoodW x.1) {w:Str}(hw:GoodW w) {x:Int}(h:find ws w=some x):F P fuel (k+1) 17 [.tup (ws.map wv),.str w] H=some (.int x,false,H):=
 (lH f.place_of hg hw).trans (by refine rl h ?_;rfl)
noncomputable def Ht:Option Bool→V
 |none=>.none
 |some false=>.int 0
 |some true=>.int 1
omit f in
theorem Ls {cx:Ctx}{ks kt:Str}{pv qv:V}{wp wq:List Str}{a1 a2 b1 b2:Bool}(s1:fH H pv (.int 0)=some (.str ks)) (s2:fH H qv (.int 0)=some (.str kt)) (h1:fV H .Eq (.str ks) (.str (Str.ofString "send"))=some a1) (h2:fV H .Eq (.str kt) (.str (Str.ofString "send"))=some a2)
  (h3:fV H .Eq (.str ks) (.str (Str.ofString "get"))=some b1) (h4:fV H .Eq (.str kt) (.str (Str.ofString "get"))=some b2) (hp:cx.F 16 [pv] H=some (.lst (wp.map V.str),false,H)) (hq:cx.F 16 [qv] H=some (.lst (wq.map V.str),false,H))
  (gp:∀w∈wp,GoodW w) (gq:∀w∈wq,GoodW w) (lp:wp.length≤6) (lq:wq.length≤6) {R:Type}{K:Loc→Hp→Option R}{L:V→Hp→Option R} :
  dG cx jX.body [some pv,some qv,none,none,none] H K L=L (Ht (if (a1&&b2&&wp.all fun w=>decide (w∈wq))=true then some false else if (a2&&b1&&wq.all fun w=>decide (w∈wp))=true then some true else none)) H:=by
 have hin:∀{wa wb:List Str},(∀w∈wa,GoodW w)→(∀w∈wb,GoodW w)→∀x∈wa.map V.str,∃w,x=.str w∧fV H .In x (.lst (wb.map V.str))=some (decide (w∈wb)):=fun ha hb x hx=>by
  refine dF (aJ.mp hx) fun w hw e_e=>?_;subst e_e
  exact ⟨w,rfl,yS (ha w hw) hb⟩
 have hle:∀{wa:List Str},wa.length≤6→(wa.map V.str).length≤1100000:=fun ha=>by refine rl (aA ..) ?_;exact L1 ha
 have second:∀{z:Option R}(o4:Option V),(if (a2&&b1&&wq.all fun w=>decide (w∈wp))=true then L (.int 1) H=z else L .none H=z)→dG cx jX.body.tl.hd.inner [some pv,some qv,some (.tup [pv,qv]),some (.int 1),o4] H (fun ρ H1=>gd (same H1 H none) (dG cx jX.body.tl.tl ρ H1 K L)) L=z:=by
  intro z o4 hz
  refine cX s2 ?_
  refine dN h2 ?_
  cases a2
  ·exact hz
  ·refine cX s1 ?_
   refine dN h3 ?_
   cases b1
   ·exact hz
   ·refine cY hq ?_
    refine kX (fun x=>match x with | .str u=>.bool (decide (u∈wp)) | _=>.none) same_self (fun x hx K' hK=>?_) (hle lq) ?_
    ·refine cY hp ?_
     refine dF (hin gq gp x hx) fun u e_e=>?_;subst e_e;intro e
     refine dY e ?_
     exact hK
    refine rl bJ ?_
    refine dC (all_map (f:=fun u=>decide (u∈wp)) (xs:=wq)) ?_
    rw [Bool.true_and,Bool.true_and] at hz
    cases hs:wq.all fun u=>decide (u∈wp)
    ·rw [hs] at hz
     exact hz
    ·rw [hs] at hz
     exact hz
 refine cX s1 ?_
 refine dN h1 ?_
 have fin:(if (a2&&b1&&wq.all fun w=>decide (w∈wp))=true then L (.int 1) H=L (Ht (if (a2&&b1&&wq.all fun w=>decide (w∈wp))=true then some true else none)) H else L .none H=L (Ht (if (a2&&b1&&wq.all fun w=>decide (w∈wp))=true then some true else none)) H):=by
  split <;> rfl
 cases a1
 ·exact second none fin
 ·refine cX s2 ?_
  refine dN h4 ?_
  cases b2
  ·exact second none fin
  ·refine cY hp ?_
   refine kX (fun x=>match x with | .str u=>.bool (decide (u∈wq)) | _=>.none) same_self (fun x hx K' hK=>?_) (hle lp) ?_
   ·refine cY hq ?_
    refine dF (hin gp gq x hx) fun u e_e=>?_;subst e_e;intro e
    refine dY e ?_
    exact hK
   refine rl bJ ?_
   refine dC (all_map (f:=fun u=>decide (u∈wq)) (xs:=wp)) ?_
   rw [Bool.true_and,Bool.true_and]
   cases hs:wp.all fun u=>decide (u∈wq)
   ·exact second none fin
   ·rfl
omit f in
theorem jZ:fH H p.v (.int 0)=some (.str p.kd):=by cases p <;> rfl
omit f in
theorem Ee:fV H .Eq (.str p.kd) (.str (Str.ofString "send"))=some p.isSend:=by
 cases p with
 |fin=>exact Ho
 |go b ws=>exact Bw b
omit f in
theorem Ef:fV H .Eq (.str p.kd) (.str (Str.ofString "get"))=some p.isGet:=by
 cases p with
 |fin=>exact CQ
 |go b ws=>exact Xg b
omit f in
theorem kd_end:fV H .Eq (.str p.kd) (.str (Str.ofString "end"))=some p.isFin:=by
 cases p with
 |fin=>exact wG
 |go b ws=>exact sV b
theorem sZ (hp:eP p) (hq:eP q):F P fuel (k+3) 18 [p.v,q.v] H=some (Ht (eD p q),false,H):=by
 refine eV f.sender_of rfl fun c hF _=>?_
 refine (Ls (wp:=p.words) (wq:=q.words) jZ jZ Ee Ee Ef Ef ((hF _ _ _).trans (fG f hp.2.1)) ((hF _ _ _).trans (fG f hq.2.1)) hp.1 hq.1 hp.2.1 hq.2.1).trans ?_
 show finish H H (Ht (eD p q))=_
 refine eN ?_
 generalize eD p q=s
 cases s with
 |none=>rfl
 |some b=>cases b <;> rfl
end
end
section
noncomputable def kv (x:Int×Int):V:=.tup [.int x.1,.int x.2]
noncomputable def lS (ws:List (Str×Int)) (w:Str):Int:=(find ws w).getD 0
theorem iL {w:Str}:∀{ws:List (Str×Int)},w∈ws.map (·.1)→find ws w=some (lS ws w)
 |[],h=>by cases h
 |x::ws,h=>by
  unfold lS
  refine rl kZ ?_
  by_cases e:x.1=w
  ·refine rl (if_pos e) ?_;rfl
  ·refine rl (if_neg e) ?_
   exact iL ((aZ.mp h).resolve_left fun q=>e q.symm)
theorem mV {w:Str}{x:Int}:∀{ws:List (Str×Int)},find ws w=some x→(w,x)∈ws
 |[],h=>by exact nS h
 |y::ws,h=>by
  have h:(if y.1=w then some y.2 else find ws w)=some x:=kZ.symm.trans h
  by_cases e:y.1=w
  ·rw [if_pos e] at h
   obtain rfl:=aB h
   refine rr e ?_;exact aH
  ·rw [if_neg e] at h
   exact aT _ (mV h)
noncomputable def vO (p q:dB) (w:Str):Int×Int:=(lS p.ways w,lS q.ways w)
noncomputable def yT (p q:dB) (h:Int) (w:Str):V:=.tup [.int h,.str w,kv (vO p q w)]
noncomputable def dZ (p q:dB):List Str:=match eD p q with
 |none=>[]
 |some false=>p.words
 |some true=>q.words
noncomputable def lJ (p q:dB):Int:=match eD p q with
 |some true=>1
 |_=>0
theorem Oj {p q:dB}(h:subB p q=true):∀w∈p.words,w∈q.words:=fun w hw=>bD (bR.mp h w hw)
theorem qD {p q:dB}:∀w∈dZ p q,w∈p.words∧w∈q.words:=by
 intro w hw
 unfold dZ at hw
 unfold eD at hw
 by_cases h1:(p.isSend&&q.isGet&&subB p q)=true
 ·rw [if_pos h1] at hw
  exact ⟨hw,Oj (aF.mp h1).2 w hw⟩
 ·rw [if_neg h1] at hw
  by_cases h2:(q.isSend&&p.isGet&&subB q p)=true
  ·rw [if_pos h2] at hw
   exact ⟨Oj (aF.mp h2).2 w hw,hw⟩
  ·rw [if_neg h2] at hw;cases hw
theorem CZ {p q:dB}{w:Str}(h:(eD p q).isSome=true) (h1:w∈p.words) (h2:w∈q.words):w∈dZ p q:=by
 unfold dZ
 cases hs:eD p q with
 |none=>rw [hs] at h;exact fT h
 |some b=>cases b <;> assumption
theorem Cd (n:Nat) (p q:dB) (h:Int):∀ws:List Str,V.oks n (ws.map (yT p q h))=true
 |[]=>rfl
 |w::ws=>(aF (x:=V.ok n (yT p q h w))).mpr ⟨rfl,Cd n p q h ws⟩
section
variable {P:Nat→Option Fn}(f:GF P) {fuel k:Nat}{H:Hp}{p q:dB}{v1 v2:V}{a b:Int}
include f
theorem Si (hp:eP p) (hq:eP q) (h1:fH H v1 (.int a)=some p.v) (h2:fH H v2 (.int b)=some q.v):F P fuel (k+4) 20 [v1,v2,kv (a,b)] H=some (.bool (kH p q),false,H):=by
 refine eV f.are_good rfl fun c hF _=>?_
 refine cX h1 ?_
 refine cX h2 ?_
 refine cX jZ ?_
 refine dN kd_end ?_
 have hsp:=(hF 18 [p.v,q.v] H).trans (sZ f hp hq)
 unfold kH
 generalize eD p q=s at hsp
 cases p.isFin
 ·refine cY hsp ?_
  rcases s with _ | _ | _ <;> exact gE
 ·refine cX jZ ?_
  refine dN kd_end ?_
  cases q.isFin
  ·refine cY hsp ?_
   rcases s with _ | _ | _ <;> exact gE
  ·exact gE
theorem vG (hp:eP p) (hq:eP q) (h1:fH H v1 (.int a)=some p.v) (h2:fH H v2 (.int b)=some q.v):F P fuel (k+4) 19 [v1,v2,kv (a,b)] H=some (.lst ((dZ p q).map (yT p q (lJ p q))),(eD p q).isSome,H):=by
 have hlen:(dZ p q).length≤6:=by
  unfold dZ
  cases eD p q with
  |none=>exact aX _
  |some b=>
   cases b
   ·exact hp.2.1
   ·exact hq.2.1
 refine eV f.pairs_behind rfl fun c hF _=>?_
 have loop:∀ws h,ws=dZ p q→h=lJ p q→rA (gJ (.slot 6) fun ρ H' K=>dG c jD.body.tl.tl.tl.tl.hd.inner ρ H' K (fun v H1=>finish H H1 v)) none (H++[.lst []]) (ws.map V.str) [some v1,some v2,some (kv (a,b)),some (.tup [p.v,q.v]),some (.int h),some (.ref H.length),none] (H++[.lst []]) (fun ρ H'=>dG c jD.body.tl.tl.tl.tl.tl ρ H' (fun _ H1=>finish H H1 .none) (fun v H1=>finish H H1 v))=some (.lst ((dZ p q).map (yT p q (lJ p q))),true,H):=by
  rintro _ h rfl rfl
  have gw:∀{s:dB},eP s→∀y∈s.ways,GoodW y.1:=fun hs y hy=>hs.1 _ (aJ.mpr ⟨y,hy,rfl⟩)
  refine Ro (G:=none) (H0:=H++[V.lst []]) (a:=V.str) (fun (_:List Str) o6=>[some v1,some v2,some (kv (a,b)),some (.tup [p.v,q.v]),some (.int (lJ p q)),some (.ref H.length),o6]) (fun dn _=>H++[.lst (dn.map (yT p q (lJ p q)))]) (fun r dn _=>dn++r=dZ p q) (fun _ _=>by rfl) ?_ ?_ _ [] none rfl
  ·intro w r dn o6 K' hd hK'
   have hw:=qD w (by refine rr hd ?_;exact aY.mpr (.inr aH))
   have hl:dn.length≤6:=by have:=aQ List.length hd;rw [aE] at this;exact aD (aD (bW _ _) (bM this)) hlen
   have hk:=hK' (dn++[w]) (some (.str w)) ((bC _ _ _).trans hd)
   rw [aM] at hk
   refine dJ (eR jF) ?_
   refine cY ((hF _ _ _).trans (gG f)) ?_
   refine cY ((hF _ _ _).trans (pI f (gw hp) (hp.1 w hw.1) (iL hw.1))) ?_
   refine cY ((hF _ _ _).trans (gG f)) ?_
   refine cY ((hF _ _ _).trans (pI f (gw hq) (hp.1 w hw.1) (iL hw.2))) ?_
   refine eH ((fO jF (by refine rl (aA ..) ?_;exact L1 hl)).trans (aQ some (aQ (Prod.mk _) wH))) ?_
   exact hk
  ·intro dn o6 hd
   rw [bV] at hd
   subst hd
   exact wE (Cd _ _ _ _ _) []
 refine cX h1 ?_
 refine cX h2 ?_
 refine cY ((hF _ _ _).trans (sZ f hp hq)) ?_
 have es:∀s,eD p q=some s→(dZ p q=match s with | false=>p.words | true=>q.words)∧lJ p q=(match s with | false=>0 | true=>1):=fun s h=>by
  unfold dZ lJ;refine rl h ?_;cases s <;> exact ⟨rfl,rfl⟩
 have e0:eD p q=none→dZ p q=[]:=fun h=>by unfold dZ;exact rl h rfl
 cases hs:eD p q with
 |none=>
  refine rl (e0 hs) ?_
  exact eN (v:=.lst []) rfl
 |some hb=>
  have e:=es hb hs
  cases hb
  ·refine cY ((hF _ _ _).trans (fG f hp.2.1)) ?_
   exact loop p.words 0 e.1.symm e.2.symm
  ·refine cY ((hF _ _ _).trans (fG f hq.2.1)) ?_
   exact loop q.words 1 e.1.symm e.2.symm
end
end
section
noncomputable def atS (ps:List dB) (a:Int):dB:=ps.getD a.toNat .fin
section
variable (one other:List dB)
inductive Reach:Int×Int→Prop
 |base:Reach (0,0)
 |step {x:Int×Int}{w:Str}:Reach x→(eD (atS one x.1) (atS other x.2)).isSome=true→w∈(atS one x.1).words→w∈(atS other x.2).words→Reach (vO (atS one x.1) (atS other x.2) w)
noncomputable def Sj:Prop:=∀x,Reach one other x→kH (atS one x.1) (atS other x.2)=true
noncomputable def pJ:Bool:=@decide (Sj one other) (Classical.propDecidable _)
noncomputable def Lu (x:Int×Int):Prop:=(0≤x.1∧x.1<one.length)∧0≤x.2∧x.2<other.length
end
section
variable {one other:List dB}
theorem mW:pJ one other=true↔Sj one other:=⟨fun h=>@bD _ (Classical.propDecidable _) h,fun h=>@aO _ (Classical.propDecidable _) h⟩
theorem eQ {a:Int}(h0:0≤a) (h1:a<one.length):atS one a∈one:=by
 unfold atS
 refine rl (dL (by exact A2 h0 h1)) ?_
 exact cM _
theorem lT {p:dB}{many:Int}(hp:eI many p) {w:Str}(hw:w∈p.words):0≤lS p.ways w∧lS p.ways w<many:=by
 have hm:=mV (iL hw)
 cases p with
 |fin=>cases hw
 |go b ws=>
  have:=hp.goals _ hm
  dsimp only at this
  exact TI this.1 this.2
theorem pK (h1:dA one) (h2:dA other) {x:Int×Int}(h:Reach one other x):Lu one other x:=by
 induction h with
 |base=>have:=h1.lo;have:=h2.lo;exact ⟨by constructor <;> (dsimp only;omega),by constructor <;> (dsimp only;omega)⟩
 |@step x w _ _ hw hw2 ih=>exact ⟨lT (h1.stops _ (eQ ih.1.1 ih.1.2)) hw,lT (h2.stops _ (eQ ih.2.1 ih.2.2)) hw2⟩
theorem gA {α:Type}:∀{l m:List α},l.Nodup→(∀x∈l,x∈m)→l.length≤m.length
 |[],_,_,_=>aX _
 |a::l,m,hn,hs=>by
  refine wU (List.append_of_mem (hs a aH)) fun s t e_e=>?_;subst e_e
  rw [cA] at hn
  have:=gA (m:=s++t) hn.2 fun x hx=>by
   have:=hs x (aT _ hx)
   rcases aY.mp this with h | h
   ·exact aY.mpr (.inl h)
   ·rcases aZ.mp h with rfl | h
    ·exact absurd hx hn.1
    ·exact aY.mpr (.inr h)
  rw [aE] at this
  refine rl aE (rl bF (rl bF ?_))
  exact Nat.succ_le_of_lt (cR this (Nat.lt_succ_self _))
noncomputable def Sk (n m:Nat):List (Int×Int):=(List.range n).flatMap fun (i:Nat)=>(List.range m).map fun (j:Nat)=>((i:Int),(j:Int))
theorem Hu (n m:Nat):(Sk n m).length=n*m:=by
 unfold Sk
 refine rl List.length_flatMap ?_
 simp [List.map_const',List.sum_replicate_nat]
theorem Xu {x:Int×Int}(h:Lu one other x):x∈Sk one.length other.length:=by
 unfold Sk
 refine ri List.mem_flatMap ?_
 refine ⟨x.1.toNat,List.mem_range.mpr (by have:=h.1;exact A2 this.1 this.2),aJ.mpr ⟨x.2.toNat,List.mem_range.mpr (by have:=h.2;exact A2 this.1 this.2),?_⟩⟩
 exact rl (bP h.1.1) (rl (bP h.2.1) rfl)
theorem Hv {keys:List (Int×Int)}(hn:keys.Nodup) (h:∀x∈keys,Lu one other x):keys.length≤one.length*other.length:=by
 refine rr (Hu ..) ?_
 exact gA hn fun x hx=>Xu (h x hx)
theorem Hw (h1:dA one) (h2:dA other):one.length*other.length≤144:=aD (Nat.mul_le_mul h1.hi h2.hi) (by decide)
theorem Sl {keys:List (Int×Int)}(h0:(0,0)∈keys) (hc:∀x∈keys,∀w∈dZ (atS one x.1) (atS other x.2),vO (atS one x.1) (atS other x.2) w∈keys) {x:Int×Int}(h:Reach one other x):x∈keys:=by
 induction h with
 |base=>exact h0
 |step _ hs h1 h2 ih=>exact hc _ ih _ (CZ hs h1 h2)
theorem dW {many:Int}{p:dB}(h:eI many p):eP p:=JY h
end
end
section
section
variable {R:Type}{Q:Option R→Prop}{G:Option Nat}{H0:Hp}
end
theorem JZ {P:Nat→Option Fn}{fuel k n:Nat}{fn:Fn}{args:List V}{H:Hp}{Q:Option (V×Bool×Hp)→Prop}(h:P n=some fn) (hl:(args.length == fn.np)=true) (hb:∀c:Ctx,(∀n args H,c.F n args H=F P fuel k n args H)→c.fuel=fuel→Q (dG c fn.body (args.map some++List.replicate fn.ns none) H (fun _ H1=>finish H H1 .none) (fun v H1=>finish H H1 v))) :
  Q (F P fuel (k+1) n args H):=kR (cW h (dJ hl rfl)) (hb ⟨F P fuel k,fuel⟩ (fun _ _ _=>rfl) rfl)
theorem yU {x y:Int×Int}(h:kv x=kv y):x=y:=by
 obtain ⟨a,b⟩:=x
 obtain ⟨c,d⟩:=y
 unfold kv at h
 injection h with h
 injection h with h1 h2
 injection h2 with h2 _
 injection h1 with h1
 injection h2 with h2
 dsimp only at h1 h2
 exact rl h1 (rl h2 rfl)
theorem iD {x:Int×Int}{keys:List (Int×Int)}:kv x∈keys.map kv↔x∈keys:=
 ⟨fun h=>by refine dF (aJ.mp h) fun y hy e=>?_;refine rr (yU e) ?_;exact hy,fun h=>aJ.mpr ⟨x,h,rfl⟩⟩
theorem lK {x:Int×Int}{keys:List (Int×Int)}:fA (keys.map kv) (kv x)=true:=by
 have:∀keys:List (Int×Int),(keys.map kv).all nH=true:=fun keys=>bR.mpr fun v hv=>by
  refine dF (aJ.mp hv) fun y _ e_e=>?_;subst e_e
  rfl
 exact Bool.or_eq_true_iff.mpr (.inr (Bool.or_eq_true_iff.mpr (.inr (this (x::keys)))))
theorem Lv (n:Nat):∀keys:List (Int×Int),V.oks n (keys.map kv)=true
 |[]=>rfl
 |x::keys=>(aF (x:=V.ok n (kv x))).mpr ⟨rfl,Lv n keys⟩
theorem Ce {k:V}:∀{ks vs:List V},k∈ks→ks.length=vs.length→∃v,dfind ks vs k=some v∧v∈vs
 |[],_,h,_=>by cases h
 |k'::ks,[],_,h=>by exact Nat.noConfusion h
 |k'::ks,v::vs,h,hl=>by
  by_cases e:k'=k
  ·exact ⟨v,if_pos e,aH⟩
  ·refine dF (Ce ((aZ.mp h).resolve_left fun q=>e q.symm) (Nat.succ.inj hl)) fun u h1 h2=>?_
   exact ⟨u,(if_neg e).trans h1,aT _ h2⟩
section
variable {H:Hp}{i:Nat}{keys:List (Int×Int)}{vals:List V}{x:Int×Int}{eb:Bool}
theorem Hx (h:H[i]? = some (.dct eb (keys.map kv) vals)):gY H (.ref i)=some (keys.map kv,vals):=cW h rfl
theorem notin_dict (h:H[i]? = some (.dct eb (keys.map kv) vals)):fV H .NotIn (kv x) (.ref i)=some (!decide (kv x∈keys.map kv)):=by
 refine cW (o:=HV H (kv x) (.ref i)) (a:=decide (kv x∈keys.map kv)) ?_ rfl
 show (match gY H (.ref i) with | some q=>gd (fA q.1 (kv x)) (some (decide (kv x∈q.1))) | none=>_)=_
 refine rl (Hx h) ?_
 exact dJ lK rfl
theorem pL {v:V}(h:H[i]? = some (.dct eb (keys.map kv) vals)) (hv:dfind (keys.map kv) vals (kv x)=some v):fH H (.ref i) (kv x)=some v:=by
 show (match gY H (.ref i) with | some q=>gd (fA q.1 (kv x)) (dfind q.1 q.2 (kv x)) | none=>_)=_
 refine rl (Hx h) ?_
 exact dJ lK hv
theorem set_dict {z:V}(h:H[i]? = some (.dct eb (keys.map kv) vals)) (hx:x∉keys) (hl:keys.length≤1100000):jU H z (.ref i) (kv x)=some (H.set i (.dct eb ((keys++[x]).map kv) (vals++[z]))):=by
 refine cW (o:=refOf (.ref i)) rfl (cW h ?_)
 refine dJ lK (dJ (dP (by refine rl (aA ..) ?_;exact hl)) ?_)
 show some (H.set i (wV eb (keys.map kv) vals (kv x) z))=_
 rw [wV,if_neg fun m=>hx (iD.mp m),aM];rfl
theorem KB {v:V}{xs:List V}(h:H[i]? = some (.lst (v::xs))) (hl:(v::xs).length≤1100000):oJ H .popAt (.ref i) [.int 0]=some (v,H.set i (.lst xs)):=cW (pX h hl) rfl
end
theorem DA {H:Hp}{ks vs:List V}(h1:V.oks H.length ks=true) (h2:V.oks H.length vs=true) (K:Hp):finish H (H++.dct false ks vs::K) (.ref H.length)=some (.dct false ks vs,false,H):=by
 have hg:(H++V.dct false ks vs::K)[H.length]? = some (.dct false ks vs):=by refine rl (bO (aN _)) (rl (Nat.sub_self ..) ?_);rfl
 have hno:(V.ref H.length).ok H.length=false:=aU (Nat.lt_irrefl _)
 have hf:mD (H++V.dct false ks vs::K) H.length 6 (.ref H.length)=some (.dct false ks vs):=by
  unfold mD
  refine rl hno ?_
  exact cW hg (dJ h1 (by show (fF _ vs).map (V.dct false ks)=_;refine rl (sS h2) ?_;rfl))
 unfold finish
 refine cW hf (dJ (mQ _ _ _) ?_)
 refine rl List.take_left ?_
 have:mE (H++V.dct false ks vs::K) H.length (.ref H.length)=false:=by
  show (decide (_≤_)&&(match (H++V.dct false ks vs::K)[H.length]? with | some o=>(iZ o).isSome&&o.ok H.length | none=>false))=false
  refine rl hg (rl (aO (aN _)) ?_);rfl
 exact rl this rfl
theorem gR {H:Hp}{x y:V}:(H++[x,y])[H.length]? = some x:=by refine rl (bO (aN _)) (rl (Nat.sub_self ..) ?_);rfl
theorem fP {H:Hp}{x y:V}:(H++[x,y])[H.length+1]? = some y:=by refine rl (bO (bW _ 1)) (rl (Nat.add_sub_cancel_left ..) ?_);rfl
theorem tA {H:Hp}{x y z:V}:(H++[x,y]).set H.length z=H++[z,y]:=by refine rl (List.set_append_right _ _ (aN _)) (rl (Nat.sub_self ..) ?_);rfl
theorem mX {H:Hp}{x y z:V}:(H++[x,y]).set (H.length+1) z=H++[x,z]:=by refine rl (List.set_append_right _ _ (bW _ 1)) (rl (Nat.add_sub_cancel_left ..) ?_);rfl
theorem dH.at {H:Hp}{ps:List dB}{v:V}(h:dH H (ps.map dB.v) v) {a:Int}(h0:0≤a) (h1:a<ps.length) (hl:ps.length≤12):fH H v (.int a)=some (atS ps a).v:=by
 have hx:(ps.map dB.v)[a.toNat]? = some (atS ps a).v:=by
  unfold atS
  refine rl (bG) (rl (dL (by exact A2 h0 h1)) (rl (aP (by exact A2 h0 h1)) ?_));rfl
 have:=h.sub (i:=a.toNat) hx (by refine rl (aA ..) ?_;exact L1 hl)
 rwa [bP h0] at this
noncomputable def hw (x:Int×Str):V:=.tup [.int x.1,.str x.2]
theorem Xv (n:Nat):∀xs:List (Int×Str),V.oks n (xs.map hw)=true
 |[]=>rfl
 |x::xs=>(aF (x:=V.ok n (hw x))).mpr ⟨rfl,Xv n xs⟩
inductive Sm (one other:List dB):List (Int×Str)→Int×Int→Prop
 |nil:Sm one other [] (0,0)
 |snoc {xs:List (Int×Str)}{x:Int×Int}{w:Str}:Sm one other xs x→w∈dZ (atS one x.1) (atS other x.2)→Sm one other (xs++[(lJ (atS one x.1) (atS other x.2),w)]) (vO (atS one x.1) (atS other x.2) w)
theorem Cf {k z a:V}:∀{ks vs:List V},ks.length=vs.length→dfind (ks++[k]) (vs++[z]) a=(dfind ks vs a).or (if k=a then some z else none)
 |[],[],_=>by show (if k=a then some z else dfind [] [] a)=_;rfl
 |[],_::_,h=>by exact Nat.noConfusion h
 |_::_,[],h=>by exact Nat.noConfusion h
 |k'::ks,v::vs,h=>by
  show (if k'=a then some v else dfind (ks++[k]) (vs++[z]) a)=(if k'=a then some v else dfind ks vs a).or _
  by_cases e:k'=a
  ·refine rl (if_pos e) (rl (if_pos e) ?_);rfl
  ·exact rl (if_neg e) (rl (if_neg e) (rl (Cf (Nat.succ.inj h)) rfl))
structure RI (one other:List dB) (keys:List (Int×Int)) (vals:List V):Prop where
 nd:keys.Nodup
 zero:(0,0)∈keys
 rch:∀x∈keys,Reach one other x
 len:vals.length=keys.length
 vl:∀v∈vals,∃xs:List (Int×Str),v=.lst (xs.map hw)∧xs.length<keys.length
 rd:∀x v,dfind (keys.map kv) vals (kv x)=some v→∃xs:List (Int×Str),v=.lst (xs.map hw)∧Sm one other xs x∧xs.length<keys.length
theorem RI.add {one other:List dB}{keys:List (Int×Int)}{vals:List V}(h:RI one other keys vals) {y:Int×Int}(hy:Reach one other y) (hn:y∉keys) {xs:List (Int×Str)}(hl:xs.length<keys.length) {z:Int×Str}(hr:Sm one other (xs++[z]) y):RI one other (keys++[y]) (vals++[.lst ((xs++[z]).map hw)]) where
 nd:=by
  refine ri cT ?_
  refine ⟨h.nd,cA.mpr ⟨cE,cG⟩,fun a ha b hb e=>?_⟩
  rw [aG] at hb
  exact hn (hb ▸ e ▸ ha)
 zero:=aY.mpr (.inl h.zero)
 rch:=fun x hx=>(aY.mp hx).elim (h.rch x) fun q=>by refine rl (aG.mp q) ?_;exact hy
 len:=by refine rl aE (rl aE (rl h.len ?_));rfl
 vl:=fun v hv=>by
  refine rl aE ?_
  rcases aY.mp hv with q | q
  ·refine dF (h.vl v q) fun xs e hl=>?_
   exact ⟨xs,e,aR hl (bW _ _)⟩
  ·rw [aG] at q
   exact ⟨xs++[z],q,by refine rl aE ?_;exact Nat.add_lt_add_right hl 1⟩
 rd:=fun x v e=>by
  rw [aM,cQ,List.map_nil,Cf (by exact rl (aA ..) (rl h.len rfl))] at e
  cases q:dfind (keys.map kv) vals (kv x) with
  |some u=>
   rw [q] at e
   cases e
   refine fU (h.rd x _ q) fun xs e hr hl=>?_
   exact ⟨xs,e,hr,by refine rl aE ?_;exact aR hl (bW _ _)⟩
  |none=>
   rw [q] at e
   have e:(if kv y=kv x then some (V.lst ((xs++[z]).map hw)) else none)=some v:=e
   split at e
   ·next p=>
    obtain rfl:=aB e
    exact ⟨_,rfl,yU p ▸ hr,by refine rl aE (rl aE ?_);exact Nat.add_lt_add_right hl 1⟩
   ·exact nS e
noncomputable def KC (one other:List dB) (keys:List (Int×Int)) (x:Int×Int):Prop:=∀w∈dZ (atS one x.1) (atS other x.2),vO (atS one x.1) (atS other x.2) w∈keys
noncomputable def pM (one other:List dB) (x:Int×Int) (s:List (Int×Int)×List V) (w:Str):List (Int×Int)×List V:=
 if vO (atS one x.1) (atS other x.2) w∈s.1 then s else (s.1++[vO (atS one x.1) (atS other x.2) w],s.2++[match dfind (s.1.map kv) s.2 (kv x) with
  |some (.lst l)=>.lst (l++[hw (lJ (atS one x.1) (atS other x.2),w)])
  |_=>.none])
noncomputable def mY (one other:List dB):Nat→List (Int×Int)×List V
 |0=>([(0,0)],[.lst []])
 |d+1=>(match (mY one other d).1[d]? with
  |some x=>(dZ (atS one x.1) (atS other x.2)).foldl (pM one other x) (mY one other d)
  |none=>mY one other d)
theorem Hy {one other:List dB}{d:Nat}(e:(mY one other d).1[d]? = none):mY one other (d+1)=mY one other d:=by
 show (match (mY one other d).1[d]? with | some x=>_ | none=>_)=_
 exact rl e rfl
theorem Hz {one other:List dB}{d:Nat}{x:Int×Int}(e:(mY one other d).1[d]? = some x):mY one other (d+1)=(dZ (atS one x.1) (atS other x.2)).foldl (pM one other x) (mY one other d):=by
 show (match (mY one other d).1[d]? with | some x=>_ | none=>_)=_
 exact rl e rfl
theorem Ol {one other:List dB}{d:Nat}(h:(mY one other d).1.length≤d):∀n,mY one other (d+n)=mY one other d
 |0=>rfl
 |n+1=>by
  have ih:=Ol h n
  exact (Hy (d:=d+n) (by refine rl ih ?_;exact List.getElem?_eq_none (by exact Nat.le_add_right_of_le h))).trans ih
section
variable {one other:List dB}{x:Int×Int}{s:List (Int×Int)×List V}{w:Str}
theorem Om (h:vO (atS one x.1) (atS other x.2) w∈s.1):pM one other x s w=s:=if_pos h
theorem Ia (h:vO (atS one x.1) (atS other x.2) w∉s.1) {xs:List (Int×Str)}(hd:dfind (s.1.map kv) s.2 (kv x)=some (.lst (xs.map hw))):pM one other x s w=(s.1++[vO (atS one x.1) (atS other x.2) w],s.2++[.lst ((xs++[(lJ (atS one x.1) (atS other x.2),w)]).map hw)]):=by
 unfold pM
 refine rl (if_neg h) (rl hd (rl aM ?_));rfl
theorem RI.dfind (h:RI one other s.1 s.2) (hx:x∈s.1):∃xs:List (Int×Str),dfind (s.1.map kv) s.2 (kv x)=some (.lst (xs.map hw))∧Sm one other xs x∧xs.length<s.1.length:=by
 refine dF (Ce (iD.mpr hx) (show (s.1.map kv).length=s.2.length by rw [aA,h.len])) fun v hv _=>?_
 refine dF (h.rd x v hv) fun xs e_e hr=>?_;subst e_e
 exact ⟨xs,hv,hr⟩
theorem Xw (h:RI one other s.1 s.2) (hx:x∈s.1) (hw:w∈dZ (atS one x.1) (atS other x.2)):RI one other (pM one other x s w).1 (pM one other x s w).2∧s.1 <+: (pM one other x s w).1∧vO (atS one x.1) (atS other x.2) w∈(pM one other x s w).1:=by
 by_cases hy:vO (atS one x.1) (atS other x.2) w∈s.1
 ·refine rl (Om hy) ?_;exact ⟨h,List.prefix_refl _,hy⟩
 ·refine fU (h.dfind hx) fun xs hd hr hl=>?_
  refine rl (Ia hy hd) ?_
  have hsome:(eD (atS one x.1) (atS other x.2)).isSome=true:=by
   cases hs:eD (atS one x.1) (atS other x.2) with
   |none=>unfold dZ at hw;rw [hs] at hw;cases hw
   |some _=>rfl
  have hb:=qD w hw
  exact ⟨h.add (.step (h.rch x hx) hsome hb.1 hb.2) hy hl (.snoc hr hw),List.prefix_append _ _,aY.mpr (.inr aH)⟩
theorem On:∀(ws:List Str) (s:List (Int×Int)×List V),RI one other s.1 s.2→x∈s.1→(∀w∈ws,w∈dZ (atS one x.1) (atS other x.2))→RI one other (ws.foldl (pM one other x) s).1 (ws.foldl (pM one other x) s).2∧s.1 <+: (ws.foldl (pM one other x) s).1∧∀w∈ws,vO (atS one x.1) (atS other x.2) w∈(ws.foldl (pM one other x) s).1
 |[],s,h,_,_=>⟨h,List.prefix_refl _,fun w hw=>by cases hw⟩
 |w::ws,s,h,hx,hw=>by
  refine iE (Xw h hx (hw w aH)) fun h1 h2 h3=>?_
  refine iE (On ws _ h1 (h2.subset hx) fun u hu=>hw u (aT _ hu)) fun k1 k2 k3=>?_
  refine ⟨k1,h2.trans k2,fun u hu=>?_⟩
  rcases aZ.mp hu with rfl | hu
  ·exact k2.subset h3
  ·exact k3 u hu
theorem wI:∀d,RI one other (mY one other d).1 (mY one other d).2∧∀i x,i<d→(mY one other d).1[i]? = some x→KC one other (mY one other d).1 x
 |0=>⟨⟨cA.mpr ⟨cE,cG⟩,aH,fun x hx=>by refine rl (aG.mp hx) ?_;exact .base,rfl,fun v hv=>⟨[],aG.mp hv,Nat.zero_lt_one⟩,fun x v e=>by
   have e:(if kv (0,0)=kv x then some (V.lst []) else none)=some v:=e
   split at e
   ·next p=>obtain rfl:=aB e;exact ⟨[],rfl,yU p ▸ .nil,Nat.zero_lt_one⟩
   ·exact nS e⟩,fun i x h=>absurd h (Nat.not_lt_zero _)⟩
 |d+1=>by
  obtain ⟨h,hc⟩:=wI d
  cases e:(mY one other d).1[d]? with
  |none=>
   refine rl (Hy e) ?_
   refine ⟨h,fun i x hi hx=>hc i x ?_ hx⟩
   rcases Nat.lt_or_ge i d with q | q
   ·exact q
   ·rw [show i=d by exact Nat.le_antisymm (cS hi) q,e] at hx;exact nS hx
  |some y=>
   refine iE (On _ _ h (bT e) fun w hw=>hw) fun k1 k2 k3=>?_
   refine rl (Hz e) ?_
   refine ⟨k1,fun i x hi hx=>?_⟩
   have hil:i<(mY one other d).1.length:=cR (cS hi) (aS.mp e).1
   have hx':(mY one other d).1[i]? = some x:=by
    refine wT k2 fun t et=>?_
    exact rr hx (rr et (rl (bH hil) rfl))
   rcases Nat.lt_or_ge i d with q | q
   ·exact fun w hw=>k2.subset (hc i x q hx' w hw)
   ·rw [show i=d by exact Nat.le_antisymm (cS hi) q,e] at hx'
    obtain rfl:=aB hx'
    exact k3
theorem RI.len144 (g1:dA one) (g2:dA other) (h:RI one other s.1 s.2):s.1.length≤144:=aD (Hv h.nd fun x hx=>pK g1 g2 (h.rch x hx)) (Hw g1 g2)
theorem Eg (g1:dA one) (g2:dA other):∃S,S=mY one other 144∧RI one other S.1 S.2∧∀x,x∈S.1↔Reach one other x:=by
 obtain ⟨h,hc⟩:=wI (one:=one) (other:=other) 144
 refine ⟨_,rfl,h,fun x=>⟨h.rch x,Sl h.zero fun y hy=>?_⟩⟩
 obtain ⟨i,hi,e⟩:=List.getElem_of_mem hy
 exact hc i y (aR hi (h.len144 g1 g2)) (by exact rl (aP hi) (rl e rfl))
end
section
variable {H:Hp}
theorem dH.app {K:Hp}{xs:List V}{v:V}(h:dH H xs v):dH (H++K) xs v:=by
 cases h with
 |lst=>exact .lst
 |ref i e=>exact .ref i (by refine rl (bH (aS.mp e).1) ?_;exact e)
end
end
section
theorem Xx {R T:Type}{test:Loc→Hp→(Bool→Hp→Option R)→Option R}{body:Loc→Hp→(Loc→Hp→Option R)→Option R}{K:Loc→Hp→Option R}{z:Option R}(loc:T→Loc) (hp:Nat→Hp) (N:Nat)
  (hs:∀d t K1,d≤N→(d<N→∀t',K1 (loc t') (hp (d+1))=z)→test (loc t) (hp d) (fun b H1=>br b (body (loc t) H1 K1) (K (loc t) H1))=z):∀n d t,d≤N→N-d<n→rB test body n (loc t) (hp d) K=z
 |0,d,t,_,hn=>absurd hn (Nat.not_lt_zero _)
 |n+1,d,t,hd,hn=>hs d t _ hd fun hlt t'=>Xx loc hp N hs n (d+1) t' hlt (aR (Nat.sub_lt_sub_left hlt (Nat.lt_succ_self d)) (cS hn))
noncomputable def KD (v1 v2:V) (H:Hp) (o4 o5 o6 o7:Option V):Loc:=[some v1,some v2,some (.ref H.length),some (.ref (H.length+1)),o4,o5,o6,o7]
noncomputable def AJ (H:Hp) (s:List (Int×Int)×List V) (d:Nat):Hp:=H++[.dct false (s.1.map kv) s.2,.lst ((s.1.drop d).map kv)]
section
variable {P:Nat→Option Fn}{k fuel:Nat}{H:Hp}{one other:List dB}{v1 v2:V}{x:Int×Int}{s:List (Int×Int)×List V}{d:Nat}
theorem DB {c:Ctx}{o5 o6 o7:Option V}{w:Str}{K:Loc→Hp→Option (V×Bool×Hp)}{L:V→Hp→Option (V×Bool×Hp)}{z:Option (V×Bool×Hp)}(h:RI one other s.1 s.2) (hl:s.1.length≤144) (hx:x∈s.1) (hd:d≤s.1.length)
  (hK:∀o5 o6 o7,K (KD v1 v2 H (some (kv x)) o5 o6 o7) (AJ H (pM one other x s w) d)=z):gJ (.tup [5,6,7]) (fun ρ H K=>dG c pW.body.tl.tl.hd.inner.tl.hd.inner ρ H K L) (yT (atS one x.1) (atS other x.2) (lJ (atS one x.1) (atS other x.2)) w) (KD v1 v2 H (some (kv x)) o5 o6 o7) (AJ H s d) K=z:=by
 refine dY (notin_dict gR) ?_
 by_cases hy:vO (atS one x.1) (atS other x.2) w∈s.1
 ·rw [Om hy] at hK
  refine dR (b:=!decide (kv (vO (atS one x.1) (atS other x.2) w)∈s.1.map kv)) (by refine rl (aO (iD.mpr hy)) ?_;rfl) ?_
  exact hK _ _ _
 ·refine fU (h.dfind hx) fun xs hv _ hxl=>?_
  rw [Ia hy hv] at hK
  refine eY (b:=!decide (kv (vO (atS one x.1) (atS other x.2) w)∈s.1.map kv)) (by refine rl (aU fun m=>hy (iD.mp m)) ?_;rfl) ?_
  refine cX (pL gR hv) ?_
  refine nV (v:=.lst ((xs++[(lJ (atS one x.1) (atS other x.2),w)]).map hw)) ((hU (p:=(xs.map hw).length+1≤1100000) (by refine rl (aA ..) ?_;exact L1 (aW (aD (cI hxl) hl) (aN _))) rfl).trans (by refine rl aM ?_;rfl)) ?_
  refine lX ((set_dict gR hy (by exact L1 hl)).trans (aQ some tA)) ?_
  refine dJ (eR fP) ?_
  refine eH ((fO fP (by refine rl (aA ..) (rl List.length_drop ?_);exact L1 (N5 hl))).trans (aQ some (aQ (Prod.mk _) mX))) ?_
  have e2:((s.1++[vO (atS one x.1) (atS other x.2) w]).drop d).map kv=(s.1.drop d).map kv++[kv (vO (atS one x.1) (atS other x.2) w)]:=by refine rl (List.drop_append_of_le_length hd) (rl aM ?_);rfl
  have hk:K _ (H++[_,.lst (((s.1++[vO (atS one x.1) (atS other x.2) w]).drop d).map kv)])=z:=hK (some (.int (lJ (atS one x.1) (atS other x.2)))) (some (.str w)) (some (kv (vO (atS one x.1) (atS other x.2) w)))
  rw [e2] at hk
  exact hk
variable (f:GF P) (g1:dA one) (g2:dA other) (p1:dH H (one.map dB.v) v1) (p2:dH H (other.map dB.v) v2)
include f g1 g2 p1 p2
theorem DC {c:Ctx}(hF:∀n args H,c.F n args H=F P fuel (k+4) n args H) {o4 o5 o6 o7:Option V}{K:Loc→Hp→Option (V×Bool×Hp)}{L:V→Hp→Option (V×Bool×Hp)}{z:Option (V×Bool×Hp)}(hx:(mY one other d).1[d]? = some x)
  (hK:∀o4 o5 o6 o7,K (KD v1 v2 H o4 o5 o6 o7) (AJ H (mY one other (d+1)) (d+1))=z):dG c pW.body.tl.tl.hd.inner (KD v1 v2 H o4 o5 o6 o7) (AJ H (mY one other d) d) K L=z:=by
 have ri:=(wI (one:=one) (other:=other) d).1
 have hdl:=(aS.mp hx).1
 have hxk:=bT hx
 have hxg:=pK g1 g2 (ri.rch x hxk)
 have h144:=ri.len144 g1 g2
 have est:mY one other (d+1)=(dZ (atS one x.1) (atS other x.2)).foldl (pM one other x) (mY one other d):=Hz hx
 have edr:((mY one other d).1.drop d).map kv=kv x::((mY one other d).1.drop (d+1)).map kv:=by
  refine rl (List.drop_eq_getElem_cons hdl) ?_
  rw [aP hdl] at hx
  refine rl (aB hx) ?_;rfl
 rw [est] at hK
 generalize mY one other d=s at ri hx hdl hxk h144 hK edr
 have hp:=dW (g1.stops _ (eQ hxg.1.1 hxg.1.2))
 have hq:=dW (g2.stops _ (eQ hxg.2.1 hxg.2.2))
 have hlst:(AJ H s d)[H.length+1]? = some (.lst (kv x::(s.1.drop (d+1)).map kv)):=by refine rr edr ?_;exact fP
 refine dJ (eR hlst) ?_
 refine eH (v:=(kv x,AJ H s (d+1))) ((KB hlst (by refine rl bF (rl (aA ..) (rl List.length_drop ?_));exact L1 (aW (N5 h144) (aN _)))).trans (aQ some (aQ (Prod.mk _) mX))) ?_
 refine cY ((hF _ _ _).trans (vG f (k:=k) (a:=x.1) (b:=x.2) hp hq (p1.app.at hxg.1.1 hxg.1.2 g1.hi) (p2.app.at hxg.2.1 hxg.2.2 g2.hi))) ?_
 refine Xe (fun (_:List (Int×Int)×List V) o5 o6 o7=>KD v1 v2 H (some (kv x)) o5 o6 o7) (fun t _ _ _=>AJ H t (d+1)) (fun r t _ _ _=>r.foldl (pM one other x) t=(dZ (atS one x.1) (atS other x.2)).foldl (pM one other x) s∧(∀w∈r,w∈dZ (atS one x.1) (atS other x.2))∧RI one other t.1 t.2∧s.1 <+: t.1) (fun _ _ _ _=>by rfl) ?_ ?_ _ s o5 o6 o7 ⟨rfl,fun _ h=>h,ri,List.prefix_refl _⟩
 ·intro w r t o5 o6 o7 K' hi hK'
  have hxt:=hi.2.2.2.subset hxk
  have hadd:=Xw hi.2.2.1 hxt (hi.2.1 w aH)
  exact DB hi.2.2.1 (hi.2.2.1.len144 g1 g2) hxt (aD hdl hi.2.2.2.length_le) fun o5 o6 o7=>hK' _ o5 o6 o7 ⟨hi.1,fun u hu=>hi.2.1 u (aT _ hu),hadd.1,hi.2.2.2.trans hadd.2.1⟩
 ·intro t o5 o6 o7 hi
  have e:t=_:=hi.1
  refine rl e ?_
  exact hK _ _ _ _
theorem yV (hfu:145≤fuel) {S:List (Int×Int)×List V}(hS:S=mY one other 144):F P fuel (k+5) 21 [v1,v2] H=some (.dct false (S.1.map kv) S.2,false,H):=by
 refine eV f.roads rfl fun c hF hfuel=>?_
 have loop:dG c pW.body.tl.tl (KD v1 v2 H none none none none) (AJ H (mY one other 0) 0) (fun _ H1=>finish H H1 .none) (fun v H1=>finish H H1 v)=some (.dct false (S.1.map kv) S.2,false,H):=by
  refine Xx (T:=Option V×Option V×Option V×Option V) (fun t=>KD v1 v2 H t.1 t.2.1 t.2.2.1 t.2.2.2) (fun d=>AJ H (mY one other d) d) 144 ?_ c.fuel 0 (none,none,none,none) (by decide) (by exact aR (N3 hfu) (A0 hfuel))
  intro d t K1 hd hK1
  have ri:=(wI (one:=one) (other:=other) d).1
  have h144:=ri.len144 g1 g2
  obtain ⟨nI,hnI,hpl⟩:∃nI:Int,nI=((mY one other d).1.drop d).length∧dS (AJ H (mY one other d) d) .len [.ref (H.length+1)]=some (.int nI):=⟨_,rfl,((dH.ref (xs:=((mY one other d).1.drop d).map kv) (H.length+1) fP).len (by refine rl (aA ..) (rl List.length_drop ?_);exact L1 (N5 h144))).trans (by exact rl (aA ..) rfl)⟩
  rw [List.length_drop] at hnI
  refine dC hpl ?_
  cases hx:(mY one other d).1[d]? with
  |none=>
   have hle:=List.getElem?_eq_none_iff.mp hx
   refine dR (b:=decide (0<nI)) (aU (by exact TK hle hnI)) ?_
   have:=Ol hle (144-d)
   rw [Nat.add_sub_cancel' hd] at this
   rw [hS,this]
   refine DA (Lv _ _) ?_ [.lst _]
   have:∀vs:List V,(∀v∈vs,∃xs:List (Int×Str),v=.lst (xs.map hw)∧xs.length<(mY one other d).1.length)→V.oks H.length vs=true:=by
    intro vs
    induction vs with
    |nil=>intro _;rfl
    |cons v vs ih=>
     intro h
     obtain ⟨xs,rfl,_⟩:=h v aH
     exact aF.mpr ⟨Xv _ _,ih fun u hu=>h u (aT _ hu)⟩
   exact this _ ri.vl
  |some x=>
   have hlt:=(aS.mp hx).1
   refine eY (b:=decide (0<nI)) (aO (by exact TJ hnI hlt)) ?_
   exact DC f g1 g2 p1 p2 hF hx fun o4 o5 o6 o7=>hK1 (by exact aR hlt h144) (o4,o5,o6,o7)
 refine Eq.trans ?_ loop
 show dG c pW.body.tl.tl [some v1,some v2,some (.ref H.length),some (.ref (H++[V.dct false ([((0:Int),(0:Int))].map kv) [.lst []]]).length),none,none,none,none] (H++[V.dct false ([((0:Int),(0:Int))].map kv) [.lst []]]++[V.lst ([((0:Int),(0:Int))].map kv)]) (fun _ H1=>finish H H1 .none) (fun v H1=>finish H H1 v)=_
 refine rl (bC ..) (rl aE ?_)
 rfl
end
end
section
theorem So {P:Nat→Option Fn}(g:Gen P) (gx:GX P) {fuel k:Nat}{many:Int}{p:dB}(h:eI many p) {H:Hp}:F P fuel (k+3) 3 [p.v,.int many] H=some (.bool true,false,H):=by
 refine eV gx.is_stop rfl fun c hF _=>?_
 cases p with
 |fin=>
  refine dN wG ?_
  exact gE
 |go b ws=>
  refine dN (sV b) ?_
  refine dY (Xh b H) ?_
  refine cY ((hF _ _ _).trans (Bv g h)) ?_
  exact gE
theorem iV {P:Nat→Option Fn}(g:Gen P) (gx:GX P) {fuel k:Nat}{ps:List dB}(h:dA ps) {H:Hp}{v:V}(hp:dH H (ps.map dB.v) v):F P fuel (k+4) 4 [v] H=some (.none,false,H):=by
 obtain ⟨h1,h2,h3⟩:=h
 have hl:(ps.map dB.v).length≤1100000:=by refine rl (aA ..) ?_;exact L1 h2
 have hlen:=hp.len hl
 rw [aA] at hlen
 refine eV gx.need_plan rfl fun c hF _=>?_
 refine dC hp.isi ?_
 refine dC hlen ?_
 refine eY (aO (show (1:Int)≤ps.length by exact Z2 (Bc h1))) ?_
 refine dR (b:=!decide ((ps.length:Int)≤12)) (by refine rl (aO (by exact L2 (Bc h2))) ?_;rfl) ?_
 refine jE hp.iter ?_
 refine kX (fun _=>.bool true) same_self (fun x hx K' hK=>?_) hl ?_
 ·refine dF (aJ.mp hx) fun p hpm e_e=>?_;subst e_e
  refine dC hlen ?_
  refine cY ((hF _ _ _).trans (So g gx (h3 p hpm))) ?_
  exact hK
 ·refine rl bJ ?_
  refine dC (sT (xs:=ps)) ?_
  exact eN (v:=.none) rfl
section
variable {P:Nat→Option Fn}(g:Gen P) (gx:GX P) (f:GF P) {k:Nat}{H:Hp}{one other:List dB}{v1 v2:V}{p q:dB}{fuel:Nat}
include g gx f in
theorem mZ (hfu:145≤fuel) (g1:dA one) (g2:dA other) (p1:dH H (one.map dB.v) v1) (p2:dH H (other.map dB.v) v2):F P fuel (k+6) 22 [v1,v2] H=some (.bool (pJ one other),false,H):=by
 refine fU (Eg g1 g2) fun S hS ri hk=>?_
 have hl:=ri.len144 g1 g2
 refine eV f.fits rfl fun c hF _=>?_
 refine cY ((hF _ _ _).trans (iV g gx g1 p1)) ?_
 refine cY ((hF _ _ _).trans (iV g gx g2 p2)) ?_
 refine cY ((hF _ _ _).trans (yV f (k:=k) g1 g2 p1 p2 hfu hS)) ?_
 refine gX (a:=kv) (b:=fun y=>.bool (kH (atS one y.1) (atS other y.2))) same_self S.1 [] (fun y hy K' hK=>?_) (by show 0+_≤_;exact L1 (aW (aN _) hl)) ?_
 ·have hg:=pK g1 g2 ((hk y).mp hy)
  refine cY ((hF _ _ _).trans (Si f (dW (g1.stops _ (eQ hg.1.1 hg.1.2))) (dW (g2.stops _ (eQ hg.2.1 hg.2.2))) (p1.at hg.1.1 hg.1.2 g1.hi) (p2.at hg.2.1 hg.2.2 g2.hi))) ?_
  exact hK
 ·refine dC (all_map (f:=fun y:Int×Int=>kH (atS one y.1) (atS other y.2)) (xs:=S.1)) ?_
  have e:(S.1.all fun y:Int×Int=>kH (atS one y.1) (atS other y.2))=pJ one other:=by
   rw [Bool.eq_iff_iff,mW,bR]
   exact ⟨fun h x hx=>h x ((hk x).mpr hx),fun h x hx=>h x ((hk x).mp hx)⟩
  refine rl e ?_
  exact gE
noncomputable def Oo (p:dB):V:=.dct false (p.words.map V.str) (p.ways.map fun x=>V.int x.2)
theorem Op {w:Str}{ws:List Str}:V.str w∈ws.map V.str↔w∈ws:=
 ⟨fun h=>by refine dF (aJ.mp h) fun y hy e=>?_;injection e with e;refine rr e ?_;exact hy,fun h=>aJ.mpr ⟨w,h,rfl⟩⟩
theorem DD {w:Str}:fV H .In (.str w) (Oo p)=some (decide (V.str w∈p.words.map V.str)):=dJ (b:=fA (p.words.map V.str) (.str w)) Hr rfl
theorem Lw {w:Str}:fV H .NotIn (.str w) (Oo p)=some (!decide (V.str w∈p.words.map V.str)):=cW (o:=HV H (.str w) (Oo p)) (DD (H:=H)) rfl
theorem Eh (p:dB) (h:p.isFin=false):p.isGet = !p.isSend:=by
 cases p with
 |fin=>exact tF h
 |go b ws=>rfl
end
end
section
noncomputable def Lx (ps:List dB) (a:Nat) (p:dB):List dB:=ps.take a++[p]++ps.drop (a+1)
theorem OQ {ws:List Str}{ps:List dB}(h:jY ws ps) {a:Nat}(ha:a<ps.length) {p:dB}(hp:eI ps.length p) (hm:∀x∈p.ways,x.1∈ws):jY ws (Lx ps a p):=by
 have hl:(Lx ps a p).length=ps.length:=by
  unfold Lx
  refine rl aE (rl aE (rl List.length_take (rl List.length_drop (rl List.length_singleton (rl (Nat.min_eq_left (cI ha)) ?_)))))
  exact Nat.add_sub_cancel' ha
 have hmem:∀q∈Lx ps a p,q=p∨q∈ps:=fun q hq=>by
  rcases aY.mp hq with q1 | q1
  ·rcases aY.mp q1 with q2 | q2
   ·exact .inr (List.mem_of_mem_take q2)
   ·exact .inl (aG.mp q2)
  ·exact .inr (List.mem_of_mem_drop q1)
 refine ⟨⟨by refine rl hl ?_;exact h.good.lo,by refine rl hl ?_;exact h.good.hi,fun q hq=>?_⟩,fun q hq=>?_⟩
 ·refine rl hl ?_
  rcases hmem q hq with rfl | q1
  ·exact hp
  ·exact h.good.stops q q1
 ·rcases hmem q hq with rfl | q1
  ·exact hm
  ·exact h.mem q q1
theorem Cg {α β:Type}{g:α→β}:∀{l:List α}{i:Nat},(l.map g).eraseIdx i=(l.eraseIdx i).map g
 |[],_=>rfl
 |_::_,0=>rfl
 |_::l,i+1=>aQ (_::·) (Cg (l:=l) (i:=i))
theorem KE {β:Type}{H:Hp}{v:V}{xs:List V}{g:List V→Option β}{z:Option β}(h:eC H v=some xs) (k:g xs=z):(eC H v).bind g=z:=cW h k
theorem Ib {β:Type}{H:Hp}{v l h:V}{xs:V}{g:V→Option β}{z:Option β}(e:lU H v l h=some xs) (k:g xs=z):(lU H v l h).bind g=z:=cW e k
section
variable {H:Hp}{ps:List dB}{a:Int}
theorem Xy (h0:0≤a) (hl:ps.length≤12):lU H (.lst (ps.map dB.v))   .none (.int a)=some (.lst ((ps.take a.toNat).map dB.v)):=by
 refine cW (o:=Px _ _ _) (a:=(ps.take a.toNat).map dB.v) ?_ rfl
 refine dJ (dP (by refine rl (aA ..) ?_;exact aD hl (by decide))) (cW (o:=kD (.int a)) (a:=a.toNat) (hU h0 rfl) ?_)
 exact rl List.map_take rfl
theorem Xz (h0:0≤a) (hl:ps.length≤12):lU H (.lst (ps.map dB.v)) (.int (a+1)) .none=some (.lst ((ps.drop (a.toNat+1)).map dB.v)):=by
 refine cW (o:=Px _ _ _) (a:=(ps.drop (a.toNat+1)).map dB.v) ?_ rfl
 refine dJ (dP (by refine rl (aA ..) ?_;exact aD hl (by decide))) (cW (o:=kD (.int (a+1))) (a:=(a+1).toNat) (hU (Int.add_nonneg h0 (by decide)) rfl) ?_)
 refine rl List.map_drop (rl (show (a+1).toNat=a.toNat+1 from Int.toNat_add h0 (by decide)) ?_);rfl
theorem Yb {β:Type}{xs ys:List V}{g:V→Option β}{z:Option β}(h:xs.length+ys.length≤1100000) (k:g (.lst (xs++ys))=z):(Cz H .Add (.lst xs) (.lst ys)).bind g=z:=nV (v:=.lst (xs++ys)) (hU h rfl) k
theorem kT {p:dB}(h:p.isFin=false):fH H p.v (.int 1)=some (.tup (p.ways.map wv)):=by
 cases p with
 |fin=>exact tF h
 |go b ws=>rfl
theorem KG {H:Hp}{i:Nat}{xs:List V}{v:V}{j:Int}(hg:H[i]? = some (.lst xs)) (hl:xs.length≤1100000) (h0:0≤j) (hx:xs[j.toNat]? = some v):oJ H .popAt (.ref i) [.int j]=some (v,H.set i (.lst (xs.eraseIdx j.toNat))):=
 cW (pX hg hl) (hU h0 (cW hx rfl))
end
theorem RA {p:dB}(h:p.isFin=false) (ys:List (Str×Int)):V.tup [.str p.kd,.tup (ys.map wv)]=(dB.go p.isSend ys).v:=by
 cases p with
 |fin=>exact tF h
 |go b ws=>rfl
section
variable {P:Nat→Option Fn}(f:GN P) {k fuel:Nat}{H:Hp}{ws:List Str}{ps:List dB}{c:Int}
include f
theorem Sp {cx:Ctx}{p:dB}(hfp:p.isFin=false) {ys:List (Str×Int)}(hs:rP ys (gQ ys)) (hyl:ys.length≤6) (hl:ps.length≤12) {a:Int}(h0:0≤a) {o0 o2 o6:Option V}{K:Loc→Hp→Option (V×Bool×Hp)} :
  dG cx jN.body.tl.tl.tl.tl.tl.tl [o0,some (.lst (ps.map dB.v)),o2,some (.int a),some p.v,some (.ref H.length),o6] (H++[.lst (ys.map wv)]) K (fun v H1=>finish H H1 v)=some (.lst ((Lx ps a.toNat (.go p.isSend (gQ ys))).map dB.v),false,H):=by
 refine Ib (Xy h0 hl) ?_
 refine cX jZ ?_
 refine KE (xs:=ys.map wv) (cW jF rfl) ?_
 refine cW (o:=uR (ys.map wv)) hs.run ?_
 have hsl:small ((gQ ys).map wv)=true:=dP (by refine rl (aA ..) (rl hs.len ?_);exact L1 hyl)
 have ht:dS (H++[V.lst (ys.map wv)]) .tuple [.lst ((gQ ys).map wv)]=some (.tup ((gQ ys).map wv)):=dJ hsl rfl
 refine dC ht ?_
 refine Yb (by refine rl (aA ..) (rl List.length_take (rl List.length_singleton ?_));exact aD (Nat.add_le_add_right (aD (Nat.min_le_right _ _) hl) 1) (by decide)) ?_
 refine Ib (Xz h0 hl) ?_
 refine Yb (by refine rl aE (rl (aA ..) (rl (aA ..) (rl List.length_take (rl List.length_drop (rl List.length_singleton ?_)))));exact aD (aW (Nat.add_le_add_right (aD (Nat.min_le_right _ _) hl) 1) (aD (Nat.sub_le _ _) hl)) (by decide)) ?_
 have e:(ps.take a.toNat).map dB.v++[V.tup [.str p.kd,.tup ((gQ ys).map wv)]]++(ps.drop (a.toNat+1)).map dB.v=(Lx ps a.toNat (.go p.isSend (gQ ys))).map dB.v:=by
  unfold Lx
  refine rl aM (rl aM (rl (RA hfp ..) ?_));rfl
 refine rl e ?_
 exact kM (v:=.lst _) (mS _ _)
theorem Sq (hw:iP ws) (hp:jY ws ps):∃ps' fr,jY ws ps'∧F P fuel (k+1) 26 [.int c,.lst (ps.map dB.v),.lst (ws.map V.str)] H=some (.lst (ps'.map dB.v),fr,H):=by
 have key:∀Q:Option (V×Bool×Hp)→Prop,(∀ps' fr,jY ws ps'→Q (some (.lst (ps'.map dB.v),fr,H)))→Q (F P fuel (k+1) 26 [.int c,.lst (ps.map dB.v),.lst (ws.map V.str)] H):=by
  intro Q hQ
  refine JZ f.law_near rfl fun cx hF _=>?_
  have hlo:=hp.good.lo
  have hhi:=hp.good.hi
  have hplen:∀H:Hp,dS H .len [.lst (ps.map dB.v)]=some (.int ps.length):=fun H=>(dH.lst.len (by refine rl (aA ..) ?_;exact L1 hhi)).trans (by exact rl (aA ..) rfl)
  obtain ⟨nI,hnI⟩:∃nI:Int,nI=ps.length:=⟨_,rfl⟩
  rw [←hnI] at hplen
  refine kR (dC (hplen _) rfl) ?_
  refine kR (qV (by exact Z3 (bI (Bc hlo) (A1 hnI))) rfl) ?_
  have ha:=dE c (d:=nI) (by exact Z3 (bI (Bc hlo) (A1 hnI)))
  generalize c.fmod nI=a at ha
  have hat:∀H:Hp,fH H (.lst (ps.map dB.v)) (.int a)=some (atS ps a).v:=fun H=>dH.lst.at ha.1 (by exact cC ha.2 (cO hnI)) hhi
  refine kR (cX (hat _) rfl) ?_
  have hpm:=eQ (one:=ps) ha.1 (by exact cC ha.2 (cO hnI))
  have hgs:=hp.good.stops _ hpm
  have hpw:=hp.mem _ hpm
  have hput:=@OQ ws ps hp a.toNat (by exact A2 ha.1 (cC ha.2 (cO hnI)))
  generalize atS ps a=p at hgs hpw
  have hok:=dW hgs
  refine kR (cX jZ rfl) ?_
  refine kR (dN kd_end rfl) ?_
  cases hfp:p.isFin with
  |true=>exact kR (eN (v:=.lst (ps.map dB.v)) (mS _ _)) (hQ _ _ hp)
  |false=>
   refine kR (cX (kT hfp) rfl) ?_
   have hgw:eA ps.length p.ways:=by
    cases p with
    |fin=>exact tF hfp
    |go b v=>exact hgs
   have hwl:(p.ways.map wv).length≤1100000:=by refine rl (aA ..) ?_;have:=hgw.hi;exact L1 this
   refine kR (dJ (dP hwl) rfl) ?_
   have e6:=dE (c.fdiv 12) (d:=6) (by decide)
   refine kR (cX ((kP e6.1 (by refine rl (aA ..) (rl hw.1 ?_);exact e6.2) (by refine rl (aA ..) (rl hw.1 ?_);decide)).trans (aQ some (iF (d:=Str.empty) (by refine rl hw.1 ?_;exact N1 (A6 (Z5 e6.2)))))) rfl) ?_
   have hzw:ws.getD ((c.fdiv 12).fmod 6).toNat Str.empty∈ws:=by rw [dL (by refine rl hw.1 ?_;exact N1 (A6 (Z5 e6.2)))];exact cM _
   generalize ws.getD ((c.fdiv 12).fmod 6).toNat Str.empty=z at hzw
   have hpair:=sY hgw.asc
   have hlen:dS (H++[.lst (p.ways.map wv)]) .len [.ref H.length]=some (.int p.ways.length):=((dH.ref (xs:=p.ways.map wv) H.length jF).len hwl).trans (by exact rl (aA ..) rfl)
   obtain ⟨lI,hlI⟩:∃lI:Int,lI=p.ways.length:=⟨_,rfl⟩
   rw [←hlI] at hlen
   have hw6:=hgw.hi
   have hw1:=hgw.lo
   have done:∀(ys:List (Str×Int)) (o6:Option V),rP ys (gQ ys)→1≤ys.length→ys.length≤6→(∀x∈ys,GoodW x.1∧(0≤x.2∧x.2≤(ps.length:Int)-1)∧x.1∈ws)→
     Q (dG cx jN.body.tl.tl.tl.tl.tl.tl [some (.int c),some (.lst (ps.map dB.v)),some (.lst (ws.map V.str)),some (.int a),some p.v,some (.ref H.length),o6] (H++[.lst (ys.map wv)]) (fun _ H1=>finish H H1 .none) (fun v H1=>finish H H1 v)):=by
    intro ys o6 hs h1 h6 hx
    refine kR (Sp f hfp hs h6 hhi ha.1) (hQ _ _ (hput ?_ fun x hm=>(hx x (hs.mem x hm)).2.2))
    exact ⟨by refine rl hs.len ?_;exact h1,by refine rl hs.len ?_;exact h6,fun x hm=>(hx x (hs.mem x hm)).1,fun x hm=>(hx x (hs.mem x hm)).2.1,hs.asc⟩
   have hall:∀x∈p.ways,GoodW x.1∧(0≤x.2∧x.2≤(ps.length:Int)-1)∧x.1∈ws:=fun x hx=>⟨hgw.words x hx,hgw.goals x hx,hpw x hx⟩
   have other:Q (dG cx jN.body.tl.tl.tl.tl.tl.hd.els [some (.int c),some (.lst (ps.map dB.v)),some (.lst (ws.map V.str)),some (.int a),some p.v,some (.ref H.length),some (.str z)] (H++[.lst (p.ways.map wv)]) (fun ρ' H'=>dG cx jN.body.tl.tl.tl.tl.tl.tl ρ' H' (fun _ H1=>finish H H1 .none) (fun v H1=>finish H H1 v)) (fun v H1=>finish H H1 v)):=by
    have hd:dictFrom (H++[V.lst (p.ways.map wv)]) (.ref H.length)=some (Oo p):=Cb (cW jF rfl) hok.2.2 (by exact L1 hw6)
    refine kR (Ed hd rfl) ?_
    refine kR (dY Lw rfl) ?_
    by_cases hz:z∈p.words
    ·refine kR (dR (b:=!decide (V.str z∈p.words.map V.str)) (by refine rl (aO (Op.mpr hz)) ?_;rfl) rfl) ?_
     exact done p.ways _ (pG hw hpw hpair hw1 hw6) hw1 hw6 hall
    ·refine kR (eY (b:=!decide (V.str z∈p.words.map V.str)) (by refine rl (aU fun m=>hz (Op.mp m)) ?_;rfl) rfl) ?_
     refine kR (dJ (eR jF) rfl) ?_
     refine kR (dC (hplen _) rfl) ?_
     refine kR (qV (by exact Z3 (bI (Bc hlo) (A1 hnI))) rfl) ?_
     refine kR (eH ((fO jF hwl).trans (aQ some (aQ (Prod.mk _) wH))) rfl) ?_
     have hg:=dE (c.fdiv 144) (d:=nI) (by exact Z3 (bI (Bc hlo) (A1 hnI)))
     generalize (c.fdiv 144).fmod nI=gI at hg
     have h5:p.ways.length≤5:=by
      have hn:=gA (l:=z::p.words) (m:=ws) (cA.mpr ⟨hz,hok.2.2⟩) fun x hx=>by
       rcases aZ.mp hx with rfl | hx
       ·exact hzw
       ·refine dF (aJ.mp hx) fun y hy e_e=>?_;subst e_e;exact hpw y hy
      rw [bF,hw.1] at hn
      unfold dB.words at hn
      rw [aA] at hn
      exact cS (Nat.lt_of_succ_le hn)
     have hfin:=done (p.ways++[(z,gI)]) (some (.str z)) (yR hw hpw hpair h5 hzw hz) (by refine rl aE ?_;exact Nat.le_add_left _ _) (by refine rl aE ?_;exact cU h5) fun x hx=>by
      rcases aY.mp hx with q | q
      ·exact hall x q
      ·refine rl (aG.mp q) ?_
       exact ⟨hw.2.1 z hzw,⟨hg.1,by have:=hg.2;exact Z5 (cC hg.2 (cO hnI))⟩,hzw⟩
     rw [aM] at hfin
     exact hfin
   by_cases h72:(c.fdiv 72).fmod 2=0
   ·refine kR (eY (b:=((c.fdiv 72).fmod 2 == 0)) (by refine rl h72 ?_;rfl) rfl) ?_
    refine kR (dC hlen rfl) ?_
    by_cases hl1:1<lI
    ·refine kR (eY (b:=decide (1<lI)) (aO hl1) rfl) ?_
     refine kR (dJ (eR jF) rfl) ?_
     refine kR (dC hlen rfl) ?_
     refine kR (qV (by exact Z3 (Z6 hl1)) rfl) ?_
     have hi:=dE (c.fdiv 144) (d:=lI) (by exact Z3 (Z6 hl1))
     generalize (c.fdiv 144).fmod lI=iI at hi
     have hil:iI.toNat<p.ways.length:=by exact A2 hi.1 (cC hi.2 (cO hlI))
     refine kR (eH ((KG jF hwl hi.1 (by refine rl (bG) (rl (aP hil) ?_);rfl)).trans (aQ some (aQ (Prod.mk _) wH))) rfl) ?_
     have hsub:(p.ways.eraseIdx iI.toNat).Sublist p.ways:=List.eraseIdx_sublist _ _
     have hel:(p.ways.eraseIdx iI.toNat).length=p.ways.length-1:=List.length_eraseIdx_of_lt hil
     have hfin:=done (p.ways.eraseIdx iI.toNat) (some (.str z)) (pG hw (fun x hx=>hpw x (hsub.subset hx)) (hpair.sublist hsub) (by exact RP hel hlI hl1) (by exact L1 (aD (bM hel) (N5 hw6)))) (by exact RP hel hlI hl1) (by exact L1 (aD (bM hel) (N5 hw6))) fun x hx=>hall x (hsub.subset hx)
     have e:(p.ways.eraseIdx iI.toNat).map wv=(p.ways.map wv).eraseIdx iI.toNat:=Cg.symm
     rw [e] at hfin
     exact hfin
    ·refine kR (dR (b:=decide (1<lI)) (aU hl1) rfl) ?_
     exact other
   ·refine kR (dR (b:=((c.fdiv 72).fmod 2 == 0)) (bY.mpr h72) rfl) ?_
    refine kR (dR (b:=((c.fdiv 72).fmod 2 == 0)) (bY.mpr h72) rfl) ?_
    exact other
 exact key (fun o=>∃ps' fr,jY ws ps'∧o=some (.lst (ps'.map dB.v),fr,H)) fun ps' fr h=>⟨ps',fr,h,rfl⟩
end
end
noncomputable def wd (x:Str×Int):PyData:=.tuple [.str x.1,.int x.2]
noncomputable def dB.d:dB→PyData
 |.fin=>.tuple [.str (Str.ofString "end")]
 |.go b ws=>.tuple [.str (hV b),.tuple (ws.map wd)]
theorem Ch {H:Hp}{k:Nat}:∀ws:List (Str×Int),fF (gO H (k+2)) (ws.map wv)=some (ws.map wd)
 |[]=>rfl
 |x::ws=>cW (a:=wd x) rfl (by refine rl (Ch ws) ?_;rfl)
theorem Yc {H:Hp}{k:Nat}(p:dB):gO H (k+4) p.v=some p.d:=by
 cases p with
 |fin=>rfl
 |go b ws=>
  show (fF (gO H (k+3)) [.str (hV b),.tup (ws.map wv)]).map PyData.tuple=_
  have h:gO H (k+3) (.tup (ws.map wv))=some (.tuple (ws.map wd)):=by
   show (fF (gO H (k+2)) (ws.map wv)).map PyData.tuple=_
   refine rl (Ch ..) ?_;rfl
  rw [show fF (gO H (k+3)) [.str (hV b),.tup (ws.map wv)]=some [.str (hV b),.tuple (ws.map wd)] from cW rfl (by rw [show fF (gO H (k+3)) [.tup (ws.map wv)]=some [.tuple (ws.map wd)] from cW h rfl];rfl)]
  rfl
theorem Ci {H:Hp}{k:Nat}:∀ps:List dB,fF (gO H (k+4)) (ps.map dB.v)=some (ps.map dB.d)
 |[]=>rfl
 |p::ps=>cW (Yc p) (by refine rl (Ci ps) ?_;rfl)
theorem Oq {many:Int}{p:dB}(h:eI many p):p.d.canLay0=true∧p.d.depth≤3:=by
 cases p with
 |fin=>exact ⟨lR fun x hx=>by refine rl (aG.mp hx) ?_;exact uF,cD rfl⟩
 |go b ws=>
  constructor
  ·refine lR fun x hx=>?_
   rcases aZ.mp hx with rfl | hx
   ·exact kN b
   ·refine rl (aG.mp hx) ?_
    refine lR fun y hy=>?_
    refine dF (aJ.mp hy) fun z hz e_e=>?_;subst e_e
    refine lR fun u hu=>?_
    rcases aZ.mp hu with rfl | hu
    ·exact kQ (h.words z hz)
    ·refine rl (aG.mp hu) ?_;rfl
  ·refine cU (kY (n:=2) fun x hx=>?_)
   rcases aZ.mp hx with rfl | hx
   ·exact aX _
   ·refine rl (aG.mp hx) ?_
    refine cU (kY (n:=1) fun y hy=>?_)
    refine dF (aJ.mp hy) fun z hz e_e=>?_;subst e_e
    exact aN 1
theorem Yd {ps:List dB}(h:dA ps):(PyData.list (ps.map dB.d)).canLay0=true∧(PyData.list (ps.map dB.d)).depth≤4:=by
 refine ⟨lR fun x hx=>?_,cU (kY fun x hx=>?_)⟩ <;> (refine dF (aJ.mp hx) fun p hp e_e=>?_;subst e_e)
 ·exact (Oq (h.stops p hp)).1
 ·exact (Oq (h.stops p hp)).2
theorem tB {is:List Int}(h:∀i∈is,intBits i≤1048576) (k:Nat):intBits (is.getD k 0)≤1048576:=by
 refine rl (bA) ?_
 cases e:is[k]? with
 |none=>simp [intBits]
 |some x=>exact h x (bT e)
section
section
variable {H:Hp}
theorem Ic {a b:V}{d:PyData}(ha:gO H 12 a=some d) (hb:gO H 12 b=some d) (hs:Tt d=true):AF H a b=some true:=
 cW ha (cW hb (dJ hs (dJ hs (aQ some (PySem.SeqAt.eqv_refl d (aF.mp hs).1)))))
theorem Ei {a b:V}{d:PyData}(ha:gO H 12 a=some d) (hb:gO H 12 b=some d) (hs:Tt d=true):fV H .NotEq a b=some false:=cW (o:=AF H a b) (Ic ha hb hs) rfl
end
theorem KH {H:Hp}{s:Str}(h:PyData.strOk s=true):fV H .NotEq (.str s) (.str s)=some false:=Ei rfl rfl (lQ h)
noncomputable def Jo (x:Int×List V):V:=.tup [.int x.1,.lst x.2]
noncomputable def tC (x:Int×Int×List V):V:=.tup [.int x.1,.int x.2.1,.lst x.2.2]
theorem pN {H:Hp}{R:List Row}{r:Nat}(h:r<R.length) (hl:R.length≤240):fH H (.lst (R.map Row.v)) (.int r)=some (R.getD r .fin).v:=by
 refine dH.lst.sub ?_ (by refine rl (aA ..) ?_;exact L1 hl)
 refine rl (bG) (rl (aP h) (rl (bA) (rl (aP h) ?_)));rfl
theorem lL {n:Nat}:∀{cs:List V}{v:V},V.oks n cs=true→v.ok n=true→V.oks n (cs++[v])=true
 |[],_,_,h=>aF.mpr ⟨h,rfl⟩
 |_::_,_,h,h2=>aF.mpr ⟨(aF.mp h).1,lL (aF.mp h).2 h2⟩
noncomputable def An (r:Nat) (cs:List V):Row→List (Int×List V)
 |.jump g=>[(g,cs)]
 |.flip g=>[((r:Int)+1,cs++[.int 0]),(g,cs++[.int 1])]
 |_=>[]
section
variable {P:Nat→Option Fn}(f:GF P) (g8:G8 P) (gk:GK P) {fuel k:Nat}{H:Hp}{R:List Row}{r:Nat}{cs:List V}
include gk
theorem Id (h:r<R.length) (hl:R.length≤240) (hc:cs.length≤100000) (ho:V.oks H.length cs=true) (hs:(∃g,R.getD r .fin=.jump g)∨∃g,R.getD r .fin=.flip g) :
  F P fuel (k+1) 65 [.lst (R.map Row.v),.int r,.lst cs] H=some (.lst ((An r cs (R.getD r .fin)).map Jo),true,H):=by
 have hsub:=pN (H:=H) h hl
 refine eV gk.silent_from rfl fun c _ _=>?_
 refine cX hsub ?_
 refine cX rkd ?_
 refine dN (eU _ .jump) ?_
 rcases hs with ⟨g,e⟩ | ⟨g,e⟩
 ·refine eY (b:=((R.getD r .fin).k.n == RK.jump.n)) (by refine rl e ?_;rfl) ?_
  refine cX (Oh e) ?_
  refine rl e ?_
  refine wE (xs:=[Jo (g,cs)]) ?_ []
  show ((true&&(V.oks H.length cs&&true))&&true)=true
  refine rl ho ?_;rfl
 ·refine dR (b:=((R.getD r .fin).k.n == RK.jump.n)) (by refine rl e ?_;rfl) ?_
  refine nV (op:=.Add) (v:=.lst (cs++[.int 0])) (hU (by show _+1≤1100000;exact L1 (aW hc (aN _))) rfl) ?_
  refine cX (Og e) ?_
  refine nV (op:=.Add) (v:=.lst (cs++[.int 1])) (hU (by show _+1≤1100000;exact L1 (aW hc (aN _))) rfl) ?_
  refine rl e ?_
  refine wE (xs:=[Jo ((r:Int)+1,cs++[.int 0]),Jo (g,cs++[.int 1])]) ?_ []
  have h0:V.oks H.length (cs++[V.int 0])=true:=lL ho rfl
  have h1:V.oks H.length (cs++[V.int 1])=true:=lL ho rfl
  show ((true&&(V.oks H.length (cs++[V.int 0])&&true))&&((true&&(V.oks H.length (cs++[V.int 1])&&true))&&true))=true
  refine rl h0 (rl h1 ?_);rfl
end
theorem Ao {p:dB}(h:p.isSend=true):p.isFin=false:=by cases p with | fin=>exact fT h | go b ws=>rfl
noncomputable def Sr (row:Row) (p:dB):Prop:=match row with
 |.fin=>p.isFin=true
 |.send w=>p.isSend=true∧w∈p.words
 |.get ws=>p.isGet=true∧(∀x∈ws,GoodW x.1)∧∀w∈p.words,∃g,find ws w=some g
 |_=>False
noncomputable def lets (r:Nat) (cs:List V) (row:Row) (p:dB):List (Int×Int×List V):=match row with
 |.send w=>[((r:Int)+1,lS p.ways w,cs)]
 |.get ws=>p.ways.map fun x=>(lS ws x.1,x.2,cs++[.str x.1])
 |_=>[]
theorem Ie (p:dB):PyData.strOk p.kd=true:=by
 cases p with
 |fin=>decide +kernel
 |go b ws=>show PyData.strOk (hV b)=true;cases b <;> decide +kernel
theorem KJ {row:Row}{p:dB}(h:Sr row p):row.k.s=p.kd:=by
 cases row with
 |fin=>cases p with | fin=>rfl | go=>cases h
 |send w=>cases p with | fin=>cases h.1 | go b ws=>cases b;cases h.1;rfl
 |get ws=>cases p with | fin=>cases h.1 | go b ws=>cases b;rfl;cases h.1
 |flip g=>exact h.elim
 |jump g=>exact h.elim
section
variable {P:Nat→Option Fn}(f:GF P) (g8:G8 P) (gk:GK P) {fuel k:Nat}{H:Hp}{R:List Row}{r:Nat}{cs:List V}{row:Row}{p:dB}
include f g8 gk
theorem Ye (hp:eP p) (h:Sr row p) (hw:∀w,row=.send w→GoodW w):F P fuel (k+3) 66 [row.v,p.v] H=some (.bool true,false,H):=by
 have hkd:=KJ h
 have hne:fV H .NotEq (.str row.k.s) (.str p.kd)=some false:=by refine rl hkd ?_;exact KH (Ie p)
 refine eV gk.is_let rfl fun c hF _=>?_
 refine cX rkd ?_
 refine cX jZ ?_
 refine dY hne ?_
 refine cX rkd ?_
 refine dN (eU row.k .send) ?_
 rcases mU row with e | ⟨w,e⟩ | ⟨ws,e⟩ | ⟨g,e⟩ | ⟨g,e⟩
 ·have hw0:p.words=[]:=by rw [e] at h;cases p with | fin=>rfl | go=>cases h
  refine dR (b:=(row.k.n == RK.send.n)) (by refine rl e ?_;rfl) ?_
  refine cY ((hF _ _ _).trans (fG f hp.2.1)) ?_
  refine rl hw0 ?_
  exact eN (v:=.bool true) rfl
 ·have h:p.isSend=true∧w∈p.words:=by rw [e] at h;exact h
  refine eY (b:=(row.k.n == RK.send.n)) (by refine rl e ?_;rfl) ?_
  refine cX (sX e) ?_
  refine cY ((hF _ _ _).trans (fG f hp.2.1)) ?_
  refine dY (yS (hw w e) hp.1) ?_
  exact oY (aO h.2)
 ·have h:p.isGet=true∧(∀x∈ws,GoodW x.1)∧∀w∈p.words,∃g,find ws w=some g:=by rw [e] at h;exact h
  have ev:row.v=(dB.go false ws).v:=by refine rl e ?_;rfl
  have hways:F P fuel (k+2) 15 [row.v] H=some (.tup (ws.map wv),false,H):=by refine rl ev ?_;exact gG f (p:=.go false ws)
  refine dR (b:=(row.k.n == RK.send.n)) (by refine rl e ?_;rfl) ?_
  refine cY ((hF _ _ _).trans (fG f hp.2.1)) ?_
  refine gX (a:=V.str) (b:=fun _=>V.bool true) same_self p.words [] (fun w hw K' hK=>?_) (by show 0+_≤_;have:=hp.2.1;exact L1 (aW (aN _) this)) ?_
  ·obtain ⟨g,hg⟩:=h.2.2 w hw
   refine cY ((hF _ _ _).trans hways) ?_
   refine cY ((hF _ _ _).trans (lH g8.place_of h.2.1 (hp.1 w hw))) ?_
   refine rl hg ?_
   exact hK
  ·refine dC (sT (xs:=p.words)) ?_
   exact gE
 ·rw [e] at h;exact h.elim
 ·rw [e] at h;exact h.elim
theorem Ej {ps:List dB}{s:Int}(hg:dA ps) (h0:0≤s) (h1:s<ps.length) (hr:r<R.length) (hl:R.length≤240) (hc:cs.length≤100000) (ho:V.oks H.length cs=true) (h:Sr (R.getD r .fin) (atS ps s)) (hw:∀w,R.getD r .fin=.send w→GoodW w) :
  F P fuel (k+2) 67 [.lst (R.map Row.v),.lst (ps.map dB.v),.int r,.int s,.lst cs] H=some (.lst ((lets r cs (R.getD r .fin) (atS ps s)).map tC),false,H):=by
 have hsub:=pN (H:=H) hr hl
 have hst:fH H (.lst (ps.map dB.v)) (.int s)=some (atS ps s).v:=dH.lst.at h0 h1 hg.hi
 have hp:eP (atS ps s):=dW (hg.stops _ (eQ h0 h1))
 have hgw:∀x∈(atS ps s).ways,GoodW x.1:=fun x hx=>hp.1 _ (aJ.mpr ⟨x,hx,rfl⟩)
 generalize R.getD r .fin=row at hsub h hw
 generalize atS ps s=p at hst hp hgw h
 have hlen:p.ways.length≤6:=by have:=hp.2.1;unfold dB.words at this;rwa [aA] at this
 refine eV gk.letters_from rfl fun c hF _=>?_
 refine cX hsub ?_
 refine cX rkd ?_
 refine dN (eU row.k .send) ?_
 have oks3:∀xs:List (Int×Int×List V),(∀x∈xs,V.oks H.length x.2.2=true)→V.oks H.length (xs.map tC)=true:=by
  intro xs
  induction xs with
  |nil=>intro _;rfl
  |cons x xs ih=>
   intro hx
   refine (aF (x:=V.ok H.length (tC x))).mpr ⟨?_,ih fun y hy=>hx y (aT _ hy)⟩
   show (true&&(true&&(V.oks H.length x.2.2&&true)))=true
   refine rl (hx x aH) ?_;rfl
 rcases mU row with e | ⟨w,e⟩ | ⟨ws,e⟩ | ⟨g,e⟩ | ⟨g,e⟩
 ·have hw0:p=.fin:=by rw [e] at h;cases p with | fin=>rfl | go=>cases h
  refine dR (b:=(row.k.n == RK.send.n)) (by refine rl e ?_;rfl) ?_
  refine cX hst ?_
  refine cY ((hF _ _ _).trans (gG f)) ?_
  refine rl hw0 (rl e ?_)
  exact eN (v:=.lst []) rfl
 ·have h:p.isSend=true∧w∈p.words:=by rw [e] at h;exact h
  refine eY (b:=(row.k.n == RK.send.n)) (by refine rl e ?_;rfl) ?_
  refine cX hst ?_
  refine cX (kT (Ao h.1)) ?_
  refine cX (sX e) ?_
  refine cY ((hF _ _ _).trans (lH g8.place_of hgw (hw w e))) ?_
  refine rl (iL h.2) (rl e ?_)
  refine eN (v:=.lst [tC ((r:Int)+1,lS p.ways w,cs)]) (oks3 [_] fun y hy=>?_)
  refine rl (aG.mp hy) ?_;exact ho
 ·have h:p.isGet=true∧(∀x∈ws,GoodW x.1)∧∀w∈p.words,∃g,find ws w=some g:=by rw [e] at h;exact h
  refine dR (b:=(row.k.n == RK.send.n)) (by refine rl e ?_;rfl) ?_
  refine cX hst ?_
  refine cY ((hF _ _ _).trans (gG f)) ?_
  refine gX (a:=wv) (b:=fun x=>tC (lS ws x.1,x.2,cs++[V.str x.1])) same_self p.ways [] (fun x hx K' hK=>?_) (by show 0+_≤_;exact L1 (aW (aN _) hlen)) ?_
  ·obtain ⟨g,hgf⟩:=h.2.2 x.1 (aJ.mpr ⟨x,hx,rfl⟩)
   have hf:find ws x.1=some (lS ws x.1):=by unfold lS;refine rl hgf ?_;rfl
   refine cX (pD e) ?_
   refine cY ((hF _ _ _).trans (lH g8.place_of h.2.1 (hgw x hx))) ?_
   refine rl hf ?_
   refine nV (op:=.Add) (v:=.lst (cs++[.str x.1])) (hU (by show _+1≤1100000;exact L1 (aW hc (aN _))) rfl) ?_
   exact hK
  ·refine rl (List.nil_append ..) (rl e ?_)
   have o:=oks3 (p.ways.map fun x=>(lS ws x.1,x.2,cs++[V.str x.1])) fun y hy=>by
    refine dF (aJ.mp hy) fun x _ e_e=>?_;subst e_e
    exact lL ho rfl
   rw [bJ] at o
   show finish H H (.lst (p.ways.map fun x=>tC (lS ws x.1,x.2,cs++[V.str x.1])))=some (.lst ((p.ways.map fun x=>(lS ws x.1,x.2,cs++[V.str x.1])).map tC),false,H)
   refine rl bJ ?_
   exact eN (v:=.lst _) o
 ·rw [e] at h;exact h.elim
 ·rw [e] at h;exact h.elim
end
end
section
noncomputable def VK:Option (Int×List V)→V
 |none=>.none
 |some x=>Jo x
noncomputable def fv (H:Hp) (x:Int×Nat):V:=.tup [.int x.1,.ref (H.length+(4+x.2))]
noncomputable def gL (R:List Row) (ps:List dB) (bg:V) (H:Hp) (s:Int) (en:Option (Int×List V)) (o9 o10:Option V):Loc:=[some (.lst (R.map Row.v)),some (.lst (ps.map dB.v)),some bg,some (.ref H.length),some (.ref (H.length+1)),some (.int s),some (VK en),some (.ref (H.length+2)),some (.ref (H.length+3)),o9,o10]
noncomputable def gT (H:Hp) (ks:List (Int×Int)) (ws:List (Int×Int×List V)) (fr:List (Int×Nat)) (inn:List (List (Int×List V))):Hp:=.dct false (ks.map kv) (ks.map fun _=>.bool true)::.lst (ws.map tC)::.lst (fr.map (fv H))::.dct false (fr.map fun f=>.int f.1) (fr.map fun _=>.bool true)::inn.map fun l=>.lst (l.map Jo)
noncomputable def gH (H:Hp) (ks:List (Int×Int)) (ws:List (Int×Int×List V)) (fr:List (Int×Nat)) (inn:List (List (Int×List V))):Hp:=H++gT H ks ws fr inn
section
variable {H:Hp}{ks:List (Int×Int)}{ws:List (Int×Int×List V)}{fr:List (Int×Nat)}{inn:List (List (Int×List V))}
theorem Ly:(gH H ks ws fr inn)[H.length]? = some (.dct false (ks.map kv) (ks.map fun _=>.bool true)):=dX (j:=0)
theorem OT:(gH H ks ws fr inn)[H.length+1]? = some (.lst (ws.map tC)):=dX (j:=1)
theorem Ig:(gH H ks ws fr inn)[H.length+2]? = some (.lst (fr.map (fv H))):=dX (j:=2)
theorem DE:(gH H ks ws fr inn)[H.length+3]? = some (.dct false (fr.map fun f=>.int f.1) (fr.map fun _=>.bool true)):=dX (j:=3)
theorem DF {i:Nat}{l:List (Int×List V)}(h:inn[i]? = some l):(gH H ks ws fr inn)[H.length+(4+i)]? = some (.lst (l.map Jo)):=by
 refine (dX (j:=4+i)).trans ?_
 refine rl (Nat.add_comm 4 i) ?_
 show (inn.map fun l=>V.lst (l.map Jo))[i]? = _
 refine rl (bG) (rl h ?_);rfl
theorem tD {is:List Int}{i:Int}:fA (is.map V.int) (.int i)=true:=by
 have:∀is:List Int,(is.map V.int).all Cy=true:=fun is=>bR.mpr fun v hv=>by
  refine dF (aJ.mp hv) fun y _ e_e=>?_;subst e_e;rfl
 exact Bool.or_eq_true_iff.mpr (.inr (Bool.or_eq_true_iff.mpr (.inl (this (i::is)))))
theorem yW:(fr.map fun f=>V.int f.1)=(fr.map (·.1)).map V.int:=(bJ ..).symm
theorem Ek {is:List Int}{i:Int}:V.int i∈is.map V.int↔i∈is:=
 ⟨fun h=>by refine dF (aJ.mp h) fun y hy e=>?_;cases e;exact hy,fun h=>aJ.mpr ⟨i,h,rfl⟩⟩
theorem Os {r:Int}(h:r∉fr.map (·.1)):fV (gH H ks ws fr inn) .In (.int r) (.ref (H.length+3))=some false:=by
 show (match gY (gH H ks ws fr inn) (.ref (H.length+3)) with | some q=>gd (fA q.1 (.int r)) (some (decide (V.int r∈q.1))) | none=>_)=_
 refine rl (show gY (gH H ks ws fr inn) (.ref (H.length+3))=some ((fr.map fun f=>.int f.1),(fr.map fun _=>.bool true)) from cW DE rfl) ?_
 refine rl yW ?_
 exact dJ tD (aQ some (aU fun m=>h (Ek.mp m)))
end
theorem KL {H:Hp}{i:Nat}{fr:List (Int×Nat)}{r:Int}{z:V}(g:H[i]? = some (.dct false (fr.map fun f=>.int f.1) (fr.map fun _=>.bool true))) (h:r∉fr.map (·.1)) (hl:fr.length≤100000):jU H z (.ref i) (.int r)=some (H.set i (.dct false ((fr.map fun f=>V.int f.1)++[.int r]) ((fr.map fun _=>.bool true)++[z]))):=by
 refine cW (o:=refOf (.ref i)) rfl (cW g ?_)
 refine dJ (b:=fA (fr.map fun f=>V.int f.1) (.int r)) (by refine rl yW ?_;exact tD) (dJ (dP (xs:=fr.map fun f=>V.int f.1) (by refine rl (aA ..) ?_;exact aD hl (by decide))) ?_)
 show some (H.set i (wV false _ _ _ _))=_
 rw [wV,if_neg fun m=>h (by rw [yW] at m;exact Ek.mp m)]
theorem OU {H:Hp}{row:Row}(h:(∃g,row=.jump g)∨∃g,row=.flip g):fV H .In (.str row.k.s) (.tup [.str (Str.ofString "flip"),.str (Str.ofString "jump")])=some true:=by
 have e:row.k.s=RK.jump.s∨row.k.s=RK.flip.s:=by rcases h with ⟨g,rfl⟩ | ⟨g,rfl⟩;exact .inl rfl;exact .inr rfl
 have hs:Tt (.tuple [.str RK.flip.s,.str RK.jump.s])=true:=by decide +kernel
 show oM H (.str row.k.s) (.tup [.str (Str.ofString "flip"),.str (Str.ofString "jump")])=some true
 unfold oM
 refine cW (o:=gO H 12 (.str row.k.s)) (a:=.str row.k.s) rfl ?_
 refine cW (o:=gO H 12 (.tup _)) (a:=.tuple ([RK.flip.s,RK.jump.s].map PyData.str)) rfl ?_
 refine dJ (lQ (Ca _)) (dJ hs (aQ some (pH.trans (aO ?_))))
 rcases e with e | e <;> refine rl e ?_ <;> simp
theorem KM {H:Hp}{row:Row}{p:dB}(h:Sr row p):fV H .In (.str row.k.s) (.tup [.str (Str.ofString "flip"),.str (Str.ofString "jump")])=some false:=by
 have hs:Tt (.tuple [.str RK.flip.s,.str RK.jump.s])=true:=by decide +kernel
 have hn:row.k.s∉[RK.flip.s,RK.jump.s]:=by
  cases row with
  |fin=>show RK.fin.s∉_;decide +kernel
  |send w=>show RK.send.s∉_;decide +kernel
  |get ws=>show RK.get.s∉_;decide +kernel
  |flip g=>exact h.elim
  |jump g=>exact h.elim
 show oM H (.str row.k.s) (.tup [.str (Str.ofString "flip"),.str (Str.ofString "jump")])=some false
 unfold oM
 refine cW (o:=gO H 12 (.str row.k.s)) (a:=.str row.k.s) rfl ?_
 refine cW (o:=gO H 12 (.tup _)) (a:=.tuple ([RK.flip.s,RK.jump.s].map PyData.str)) rfl ?_
 exact dJ (lQ (Ca _)) (dJ hs (aQ some (pH.trans (aU hn))))
section
variable {P:Nat→Option Fn}(f:GF P) (g8:G8 P) (gk:GK P) {fuel k:Nat}{H:Hp}{ks:List (Int×Int)}{ws:List (Int×Int×List V)}{fr:List (Int×Nat)}{inn:List (List (Int×List V))}{R:List Row}{ps:List dB}{bg:V}{s:Int}{o9 o10:Option V}{c:Ctx}{K:Loc→Hp→Option (V×Bool×Hp)}{L:V→Hp→Option (V×Bool×Hp)}
theorem Yg {r:Nat}{cs:List V}(hon:(r:Int)∉fr.map (·.1)) (hk:((r:Int),s)∈ks) :
  dG c eG.body.tl.tl.tl.tl.hd.inner (gL R ps bg H s (some (r,cs)) o9 o10) (gH H ks ws fr inn) K L=K (gL R ps bg H s none (some (.int r)) (some (.lst cs))) (gH H ks ws fr inn):=by
 refine dY (Os hon) ?_
 refine dY (notin_dict (x:=((r:Int),s)) Ly) ?_
 refine dR (b:=!decide (kv ((r:Int),s)∈ks.map kv)) (by refine rl (aO (iD.mpr hk)) ?_;rfl) ?_
 rfl
theorem DG:dG c eG.body.tl.tl.tl.tl.hd.inner (gL R ps bg H s none o9 o10) (gH H ks ws [] inn) K L=L .none (gH H ks ws [] inn):=by
 refine dC (v:=.int 0) (jR Ig (aX _)) ?_
 rfl
include gk in
theorem Ss (hF:∀n args H,c.F n args H=F P fuel (k+3) n args H) {r:Nat}{cs:List V}(hon:(r:Int)∉fr.map (·.1)) (hk:((r:Int),s)∉ks) (hkl:ks.length≤100000) (hfl:fr.length≤100000) (h:r<R.length) (hl:R.length≤240) (hc:cs.length≤100000) (ho:∀n,V.oks n cs=true) (hs:(∃g,R.getD r .fin=.jump g)∨∃g,R.getD r .fin=.flip g) :
  dG c eG.body.tl.tl.tl.tl.hd.inner (gL R ps bg H s (some (r,cs)) o9 o10) (gH H ks ws fr inn) K L=K (gL R ps bg H s none (some (.int r)) (some (.lst cs))) (gH H (ks++[((r:Int),s)]) ws (fr++[((r:Int),inn.length)]) (inn++[An r cs (R.getD r .fin)])):=by
 have hpr:=pN (H:=gH H (ks++[((r:Int),s)]) ws fr inn) h hl
 refine dY (Os hon) ?_
 refine dY (notin_dict (x:=((r:Int),s)) Ly) ?_
 refine eY (b:=!decide (kv ((r:Int),s)∈ks.map kv)) (by refine rl (aU fun m=>hk (iD.mp m)) ?_;rfl) ?_
 refine lX (v:=gH H (ks++[((r:Int),s)]) ws fr inn) ((set_dict Ly hk (by exact L1 hkl)).trans ?_) ?_
 ·refine aQ some ((fZ (j:=0)).trans ?_)
  unfold gH gT
  refine rl (aM (f:=fun _=>V.bool true)) ?_;rfl
 refine cX hpr ?_
 refine cX rkd ?_
 refine dY (v:=true) (OU hs) ?_
 refine lX (v:=H++(.dct false ((ks++[((r:Int),s)]).map kv) ((ks++[((r:Int),s)]).map fun _=>.bool true)::.lst (ws.map tC)::.lst (fr.map (fv H))::.dct false ((fr++[((r:Int),inn.length)]).map fun f=>.int f.1) ((fr++[((r:Int),inn.length)]).map fun _=>.bool true)::inn.map fun l=>.lst (l.map Jo))) ?_ ?_
 ·refine (KL DE hon hfl).trans (aQ some ((fZ (j:=3)).trans ?_))
  refine rl (aM (f:=fun f:Int×Nat=>V.int f.1)) (rl (aM (f:=fun _:Int×Nat=>V.bool true)) ?_);rfl
 refine dJ (eR (dX (j:=2))) ?_
 refine cY ((hF _ _ _).trans (Id gk h hl hc (ho _) hs)) ?_
 refine eH (v:=(.none,gH H (ks++[((r:Int),s)]) ws (fr++[((r:Int),inn.length)]) (inn++[An r cs (R.getD r .fin)]))) ?_ ?_
 ·refine rl (bC ..) ?_
  refine (fO (dX (j:=2)) (by refine rl (aA ..) ?_;exact L1 hfl)).trans (aQ (fun x=>some (V.none,x)) ((fZ (j:=2)).trans ?_))
  unfold gH gT
  refine rl (aM (f:=fv H)) (rl (aM (f:=fun l:List (Int×List V)=>V.lst (l.map Jo))) ?_)
  have hlen:(H++(V.dct false ((ks++[((r:Int),s)]).map kv) ((ks++[((r:Int),s)]).map fun _=>.bool true)::.lst (ws.map tC)::.lst (fr.map (fv H))::.dct false ((fr++[((r:Int),inn.length)]).map fun f=>.int f.1) ((fr++[((r:Int),inn.length)]).map fun _=>.bool true)::inn.map fun l=>V.lst (l.map Jo))).length=H.length+(4+inn.length):=by
   refine rl aE ?_
   simp only [bF,aA]
   exact TM
  show H++(_::_::V.lst (fr.map (fv H)++[.tup [.int r,.ref (H++(_::_::_::_::_)).length]])::_)=_
  refine rl hlen ?_;rfl
 rfl
include f g8 gk in
theorem Su (hF:∀n args H,c.F n args H=F P fuel (k+3) n args H) {r:Nat}{cs:List V}(hg:dA ps) (h0:0≤s) (h1:s<ps.length) (hon:(r:Int)∉fr.map (·.1)) (hk:((r:Int),s)∉ks) (hkl:ks.length≤100000) (hwl:ws.length≤100000) (h:r<R.length) (hl:R.length≤240) (hc:cs.length≤100000) (ho:∀n,V.oks n cs=true) (hlet:Sr (R.getD r .fin) (atS ps s)) (hw:∀w,R.getD r .fin=.send w→GoodW w) :
  dG c eG.body.tl.tl.tl.tl.hd.inner (gL R ps bg H s (some (r,cs)) o9 o10) (gH H ks ws fr inn) K L=K (gL R ps bg H s none (some (.int r)) (some (.lst cs))) (gH H (ks++[((r:Int),s)]) (ws++lets r cs (R.getD r .fin) (atS ps s)) fr inn):=by
 have hpr:=pN (H:=gH H (ks++[((r:Int),s)]) ws fr inn) h hl
 have hst:fH (gH H (ks++[((r:Int),s)]) ws fr inn) (.lst (ps.map dB.v)) (.int s)=some (atS ps s).v:=dH.lst.at h0 h1 hg.hi
 have hp:eP (atS ps s):=dW (hg.stops _ (eQ h0 h1))
 have hll:(lets r cs (R.getD r .fin) (atS ps s)).length≤6:=by
  have h6:=hp.2.1
  unfold dB.words at h6
  rw [aA] at h6
  unfold lets
  split
  ·exact (by decide:1≤6)
  ·refine rl (aA ..) ?_;exact h6
  ·exact aX _
 refine dY (Os hon) ?_
 refine dY (notin_dict (x:=((r:Int),s)) Ly) ?_
 refine eY (b:=!decide (kv ((r:Int),s)∈ks.map kv)) (by refine rl (aU fun m=>hk (iD.mp m)) ?_;rfl) ?_
 refine lX (v:=gH H (ks++[((r:Int),s)]) ws fr inn) ((set_dict Ly hk (by exact L1 hkl)).trans ?_) ?_
 ·refine aQ some ((fZ (j:=0)).trans ?_)
  unfold gH gT
  refine rl (aM (f:=fun _=>V.bool true)) ?_;rfl
 refine cX hpr ?_
 refine cX rkd ?_
 refine dY (v:=false) (KM hlet) ?_
 refine cX hpr ?_
 refine cX hst ?_
 refine cY ((hF _ _ _).trans (Ye f g8 gk hp hlet hw)) ?_
 refine dJ (eR OT) ?_
 refine cY ((hF _ _ _).trans (Ej f g8 gk hg h0 h1 h hl hc (ho _) hlet hw)) ?_
 refine eH (v:=(.none,gH H (ks++[((r:Int),s)]) (ws++lets r cs (R.getD r .fin) (atS ps s)) fr inn)) ?_ ?_
 ·refine cW (pX OT (by refine rl (aA ..) ?_;exact L1 hwl)) (hU (p:=(ws.map tC).length+((lets r cs (R.getD r .fin) (atS ps s)).map tC).length≤1100000) (by refine rl (aA ..) (rl (aA ..) ?_);exact L1 (aW hwl hll)) ?_)
  refine aQ (fun x=>some (V.none,x)) ((fZ (j:=1)).trans ?_)
  unfold gH gT
  refine rl (aM (f:=tC)) ?_;rfl
 rfl
theorem KN {fr':List (Int×Nat)}{r:Int}{i:Nat}(e:fr=fr'++[(r,i)]) (hn:(fr.map (·.1)).Nodup) (hi:inn[i]? = some []) (hfl:fr.length≤100000) :
  dG c eG.body.tl.tl.tl.tl.hd.inner (gL R ps bg H s none o9 o10) (gH H ks ws fr inn) K L=K (gL R ps bg H s none o9 o10) (gH H ks ws fr' inn):=by
 have hlast:(fr.map (fv H))[(fr.map (fv H)).length-1]? = some (fv H (r,i)):=by refine rl e (rl aM (rl aE ?_));show (_++[_])[_+1-1]? = _;refine rl (Nat.add_sub_cancel ..) ?_;exact List.getElem?_concat_length
 obtain ⟨nI,enI,hlen⟩:∃nI:Int,nI=fr.length∧dS (gH H ks ws fr inn) .len [.ref (H.length+2)]=some (.int nI):=⟨_,rfl,(jR Ig (by refine rl (aA ..) ?_;exact L1 hfl)).trans (by exact rl (aA ..) rfl)⟩
 have hpos:0<fr.length:=by refine rl e (rl aE ?_);exact Nat.succ_pos _
 refine dC hlen ?_
 refine dR (b:=(nI == 0)) (bY.mpr (by exact RQ enI hpos)) ?_
 refine cW (o:=eC _ _) (pE Ig) (dJ (dP (by refine rl (aA ..) ?_;exact L1 hfl)) (cW (a:=fv H (r,i)) hlast ?_))
 refine dC (v:=.int 0) (jR (DF hi) (aX _)) ?_
 refine dJ (b:=rW (gH H ks ws fr inn) (.ref (H.length+3))) (by show (((gH H ks ws fr inn)[H.length+3]?).bind oG).isSome=true;refine rl DE ?_;rfl) ?_
 refine dJ (eR Ig) ?_
 have er:(fr.map (fv H)).eraseIdx ((fr.map (fv H)).length-1)=fr'.map (fv H):=by
  refine rl e (rl aM (rl aE ?_))
  show (fr'.map (fv H)++[_]).eraseIdx (_+1-1)=_
  refine rl (Nat.add_sub_cancel ..) (rl (List.eraseIdx_append_of_length_le (aN _) ..) (rl (Nat.sub_self ..) ?_))
  exact bV _
 refine eH (v:=(fv H (r,i),H++(.dct false (ks.map kv) (ks.map fun _=>.bool true)::.lst (ws.map tC)::.lst (fr'.map (fv H))::.dct false (fr.map fun f=>.int f.1) (fr.map fun _=>.bool true)::inn.map fun l=>.lst (l.map Jo)))) ?_ ?_
 ·refine cW (pX Ig (by refine rl (aA ..) ?_;exact L1 hfl)) ?_
  show (((fr.map (fv H))[(fr.map (fv H)).length-1]?).bind fun v=>some (v,(gH H ks ws fr inn).set (H.length+2) (.lst ((fr.map (fv H)).eraseIdx ((fr.map (fv H)).length-1)))))=_
  refine rl hlast (rl er ?_)
  exact aQ (fun x=>some (fv H (r,i),x)) (fZ (j:=2))
 have hidx:(fr.map fun f=>V.int f.1).idxOf (.int r)=fr'.length:=by
  have hr:∀x∈fr'.map (·.1),x≠r:=by
   rw [e,aM] at hn
   exact fun x hx=>(cT.mp hn).2.2 x hx r (aG.mpr rfl)
  rw [e,aM,List.idxOf_append,if_neg]
  ·show List.idxOf (V.int r) [V.int r]+_=_
   exact rl (aA ..) (rl List.idxOf_cons_self (rl (Nat.zero_add ..) rfl))
  ·intro hm
   refine dF (aJ.mp hm) fun y hy q=>?_
   cases q
   exact hr y.1 (aJ.mpr ⟨y,hy,rfl⟩) rfl
 have e1:∀{β:Type}(g:Int×Nat→β),(fr.map g).eraseIdx fr'.length=fr'.map g:=fun g=>by
  refine rl e (rl aM (rl (List.eraseIdx_append_of_length_le (by rw [aA];exact aN _) ..) (rl (aA ..) (rl (Nat.sub_self ..) ?_))))
  exact bV _
 have hf:dfind (fr.map fun f=>V.int f.1) (fr.map fun _=>.bool true) (.int r)=some (.bool true):=by
  have:∀l:List (Int×Nat),r∈l.map (·.1)→dfind (l.map fun f=>V.int f.1) (l.map fun _=>.bool true) (.int r)=some (.bool true):=by
   intro l
   induction l with
   |nil=>intro h;cases h
   |cons y l ih=>
    intro h
    show (if V.int y.1=.int r then some (V.bool true) else dfind _ _ _)=_
    split
    ·rfl
    ·next q=>exact ih ((aZ.mp h).resolve_left fun e=>q (by exact rl e rfl))
  exact this fr (by refine rl e (rl aM ?_);exact aY.mpr (.inr aH))
 refine cW (o:=Mz _ _ _) (a:=(.bool true,gH H ks ws fr' inn)) ?_ ?_
 ·refine cW (o:=refOf _) rfl (cW (dX (j:=3)) ?_)
  show gd (fA (fr.map fun f=>V.int f.1) (.int r)) (gd (small (fr.map fun f=>V.int f.1)) ((dfind (fr.map fun f=>V.int f.1) (fr.map fun _=>.bool true) (.int r)).bind fun v=>some (v,_)))=_
  refine dJ (by refine rl yW ?_;exact tD) (dJ (dP (by refine rl (aA ..) ?_;exact L1 hfl)) ?_)
  refine rl hf (rl hidx (rl (e1 ..) (rl (e1 ..) ?_)))
  exact aQ (fun x=>some (V.bool true,x)) (fZ (j:=3))
 rfl
theorem DH {fr':List (Int×Nat)}{r:Int}{i:Nat}{x:Int×List V}{l:List (Int×List V)}(e:fr=fr'++[(r,i)]) (hi:inn[i]? = some (x::l)) (hll:l.length≤100000) (hfl:fr.length≤100000) :
  dG c eG.body.tl.tl.tl.tl.hd.inner (gL R ps bg H s none o9 o10) (gH H ks ws fr inn) K L=K (gL R ps bg H s (some x) o9 o10) (gH H ks ws fr (inn.set i l)):=by
 have hlast:(fr.map (fv H))[(fr.map (fv H)).length-1]? = some (fv H (r,i)):=by refine rl e (rl aM (rl aE ?_));show (_++[_])[_+1-1]? = _;refine rl (Nat.add_sub_cancel ..) ?_;exact List.getElem?_concat_length
 obtain ⟨nI,enI,hlen⟩:∃nI:Int,nI=fr.length∧dS (gH H ks ws fr inn) .len [.ref (H.length+2)]=some (.int nI):=⟨_,rfl,(jR Ig (by refine rl (aA ..) ?_;exact L1 hfl)).trans (by exact rl (aA ..) rfl)⟩
 have hpos:0<fr.length:=by refine rl e (rl aE ?_);exact Nat.succ_pos _
 obtain ⟨mI,emI,hlen2⟩:∃mI:Int,mI=(x::l).length∧dS (gH H ks ws fr inn) .len [.ref (H.length+(4+i))]=some (.int mI):=⟨_,rfl,(jR (DF hi) (by refine rl (aA ..) (rl bF ?_);exact L1 (aW hll (aN _)))).trans (by exact rl (aA ..) rfl)⟩
 rw [bF] at emI
 refine dC hlen ?_
 refine dR (b:=(nI == 0)) (bY.mpr (by exact RQ enI hpos)) ?_
 refine cW (o:=eC _ _) (pE Ig) (dJ (dP (by refine rl (aA ..) ?_;exact L1 hfl)) (cW (a:=fv H (r,i)) hlast ?_))
 refine dC hlen2 ?_
 refine dR (b:=(mI == 0)) (bY.mpr (by exact TL emI)) ?_
 refine cW (o:=eC _ _) (pE Ig) (dJ (dP (by refine rl (aA ..) ?_;exact L1 hfl)) (cW (a:=fv H (r,i)) hlast ?_))
 refine dJ (eR (DF hi)) ?_
 refine eH (v:=(Jo x,gH H ks ws fr (inn.set i l))) ?_ ?_
 ·refine (KB (v:=Jo x) (xs:=l.map Jo) (DF hi) (by refine rl bF (rl (aA ..) ?_);exact L1 (aW hll (aN _)))).trans (aQ (fun y=>some (Jo x,y)) ((fZ (j:=4+i)).trans ?_))
  unfold gH gT
  refine rl (Nat.add_comm 4 i) (rl List.map_set ?_)
  rfl
 rfl
end
end
section
noncomputable def Row.sil:Row→Bool
 |.flip _=>true
 |.jump _=>true
 |_=>false
noncomputable def nA (row:Row) (p:dB):Bool:=match row with
 |.fin=>p.isFin
 |.send w=>p.isSend&&decide (w∈p.words)
 |.get ws=>p.isGet&&p.words.all fun w=>(find ws w).isSome
 |_=>false
noncomputable def Ih (row:Row):Prop:=(∀w,row=.send w→GoodW w)∧∀ws,row=.get ws→∀x∈ws,GoodW x.1
theorem Yh {row:Row}{p:dB}(h:Ih row):nA row p=true↔Sr row p:=by
 cases row with
 |fin=>exact Iff.rfl
 |send w=>exact aF.trans (and_congr Iff.rfl decide_eq_true_iff)
 |get ws=>
  refine aF.trans (and_congr Iff.rfl ?_)
  refine bR.trans ⟨fun q=>⟨h.2 ws rfl,fun w hw=>Option.isSome_iff_exists.mp (q w hw)⟩,fun q w hw=>Option.isSome_iff_exists.mpr (q.2 w hw)⟩
 |flip g=>exact ⟨fun q=>(nomatch q),fun q=>q.elim⟩
 |jump g=>exact ⟨fun q=>(nomatch q),fun q=>q.elim⟩
theorem DI {row:Row}{p:dB}(h:(row.k.s == p.kd)=false):nA row p=false:=by
 cases row with
 |fin=>cases p with | fin=>exact absurd h (by decide +kernel) | go b ws=>rfl
 |send w=>cases p with | fin=>rfl | go b ws=>cases b;rfl;exact absurd h (by show ¬((RK.send.s == hV true)=false);decide +kernel)
 |get ws=>cases p with | fin=>rfl | go b ws=>cases b;exact absurd h (by show ¬((RK.get.s == hV false)=false);decide +kernel);rfl
 |flip g=>rfl
 |jump g=>rfl
theorem DJ {row:Row}{p:dB}(h:(row.k.s == p.kd)=true):(row=.fin→p.isFin=true)∧(∀w,row=.send w→p.isSend=true)∧∀ws,row=.get ws→p.isGet=true:=by
 refine ⟨fun e=>?_,fun w e=>?_,fun ws e=>?_⟩ <;> subst e
 ·cases p with | fin=>rfl | go b ws=>cases b;exact absurd h (by show ¬((RK.fin.s == hV false)=true);decide +kernel);exact absurd h (by show ¬((RK.fin.s == hV true)=true);decide +kernel)
 ·cases p with | fin=>exact absurd h (by show ¬((RK.send.s == Str.ofString "end")=true);decide +kernel) | go b ws=>cases b;exact absurd h (by show ¬((RK.send.s == hV false)=true);decide +kernel);rfl
 ·cases p with | fin=>exact absurd h (by show ¬((RK.get.s == Str.ofString "end")=true);decide +kernel) | go b ws=>cases b;rfl;exact absurd h (by show ¬((RK.get.s == hV true)=true);decide +kernel)
section
variable {P:Nat→Option Fn}(f:GF P) (g8:G8 P) (gk:GK P) {fuel k:Nat}{H:Hp}{row:Row}{p:dB}
include f g8 gk
theorem DL (hp:eP p) (hs:row.sil=false) (ho:Ih row):F P fuel (k+3) 66 [row.v,p.v] H=some (.bool (nA row p),false,H):=by
 have hne:fV H .NotEq (.str row.k.s) (.str p.kd)=some (!(row.k.s == p.kd)):=cW (o:=AF H _ _) (AH (Ca _) (Ie p)) rfl
 refine eV gk.is_let rfl fun c hF _=>?_
 refine cX rkd ?_
 refine cX jZ ?_
 refine dY hne ?_
 cases hq:(row.k.s == p.kd) with
 |false=>
  refine rl (DI hq) ?_
  exact eN (v:=.bool false) rfl
 |true=>
  have hk:=DJ hq
  refine cX rkd ?_
  refine dN (eU row.k .send) ?_
  rcases mU row with e | ⟨w,e⟩ | ⟨ws,e⟩ | ⟨g,e⟩ | ⟨g,e⟩
  ·have h1:=hk.1 e
   have hw0:p.words=[]:=by cases p with | fin=>rfl | go=>exact fT h1
   refine dR (b:=(row.k.n == RK.send.n)) (by refine rl e ?_;rfl) ?_
   refine cY ((hF _ _ _).trans (fG f hp.2.1)) ?_
   refine rl hw0 (rl (show nA row p=true by rw [e];exact h1) ?_)
   exact eN (v:=.bool true) rfl
  ·refine eY (b:=(row.k.n == RK.send.n)) (by refine rl e ?_;rfl) ?_
   refine cX (sX e) ?_
   refine cY ((hF _ _ _).trans (fG f hp.2.1)) ?_
   refine dY (yS (ho.1 w e) hp.1) ?_
   rw [show nA row p=decide (w∈p.words) by rw [e];show (p.isSend&&_)=_;rw [hk.2.1 w e,Bool.true_and]]
   exact gE
  ·have ev:row.v=(dB.go false ws).v:=by refine rl e ?_;rfl
   have hways:F P fuel (k+2) 15 [row.v] H=some (.tup (ws.map wv),false,H):=by refine rl ev ?_;exact gG f (p:=.go false ws)
   refine dR (b:=(row.k.n == RK.send.n)) (by refine rl e ?_;rfl) ?_
   refine cY ((hF _ _ _).trans (fG f hp.2.1)) ?_
   refine gX (a:=V.str) (b:=fun w=>V.bool (find ws w).isSome) same_self p.words [] (fun w hw K' hK=>?_) (by show 0+_≤_;have:=hp.2.1;exact L1 (aW (aN _) this)) ?_
   ·refine cY ((hF _ _ _).trans hways) ?_
    refine cY ((hF _ _ _).trans (lH g8.place_of (ho.2 ws e) (hp.1 w hw))) ?_
    cases hg:find ws w with
    |none=>rw [hg] at hK;exact hK
    |some g=>rw [hg] at hK;exact hK
   ·refine dC (all_map (f:=fun w=>(find ws w).isSome) (xs:=p.words)) ?_
    rw [show nA row p=p.words.all fun w=>(find ws w).isSome by rw [e];show (p.isGet&&_)=_;rw [hk.2.2 ws e,Bool.true_and]]
    exact gE
  ·rw [e] at hs;exact tF hs
  ·rw [e] at hs;exact tF hs
end
end
section
theorem DM {H:Hp}{row:Row}(h:row.sil=false):fV H .In (.str row.k.s) (.tup [.str (Str.ofString "flip"),.str (Str.ofString "jump")])=some false:=by
 have hs:Tt (.tuple [.str RK.flip.s,.str RK.jump.s])=true:=by decide +kernel
 have hn:row.k.s∉[RK.flip.s,RK.jump.s]:=by
  cases row with
  |fin=>show RK.fin.s∉_;decide +kernel
  |send w=>show RK.send.s∉_;decide +kernel
  |get ws=>show RK.get.s∉_;decide +kernel
  |flip g=>exact tF h
  |jump g=>exact tF h
 show oM H (.str row.k.s) (.tup [.str (Str.ofString "flip"),.str (Str.ofString "jump")])=some false
 unfold oM
 refine cW (o:=gO H 12 (.str row.k.s)) (a:=.str row.k.s) rfl ?_
 refine cW (o:=gO H 12 (.tup _)) (a:=.tuple ([RK.flip.s,RK.jump.s].map PyData.str)) rfl ?_
 exact dJ (lQ (Ca _)) (dJ hs (aQ some (pH.trans (aU hn))))
section
variable {P:Nat→Option Fn}(f:GF P) (g8:G8 P) (gk:GK P) {fuel k:Nat}{H:Hp}{ks:List (Int×Int)}{ws:List (Int×Int×List V)}{fr:List (Int×Nat)}{inn:List (List (Int×List V))}{R:List Row}{ps:List dB}{bg:V}{s:Int}{o9 o10:Option V}{c:Ctx}{K:Loc→Hp→Option (V×Bool×Hp)}{L:V→Hp→Option (V×Bool×Hp)}
theorem OV {r:Int}(h:r∈fr.map (·.1)):fV (gH H ks ws fr inn) .In (.int r) (.ref (H.length+3))=some true:=by
 show (match gY (gH H ks ws fr inn) (.ref (H.length+3)) with | some q=>gd (fA q.1 (.int r)) (some (decide (V.int r∈q.1))) | none=>_)=_
 refine rl (show gY (gH H ks ws fr inn) (.ref (H.length+3))=some ((fr.map fun f=>.int f.1),(fr.map fun _=>.bool true)) from cW DE rfl) (rl yW ?_)
 exact dJ tD (aQ some (aO (Ek.mpr h)))
theorem Yi {r:Nat}{cs:List V}(hon:(r:Int)∈fr.map (·.1)) :
  dG c eG.body.tl.tl.tl.tl.hd.inner (gL R ps bg H s (some (r,cs)) o9 o10) (gH H ks ws fr inn) K L=L (.lst cs) (gH H ks ws fr inn):=by
 refine dY (OV hon) ?_
 rfl
include f g8 gk
theorem KO (hF:∀n args H,c.F n args H=F P fuel (k+3) n args H) {r:Nat}{cs:List V}(hg:dA ps) (h0:0≤s) (h1:s<ps.length) (hon:(r:Int)∉fr.map (·.1)) (hk:((r:Int),s)∉ks) (hkl:ks.length≤100000) (h:r<R.length) (hl:R.length≤240) (hs:(R.getD r .fin).sil=false) (ho:Ih (R.getD r .fin)) (hn:nA (R.getD r .fin) (atS ps s)=false) :
  dG c eG.body.tl.tl.tl.tl.hd.inner (gL R ps bg H s (some (r,cs)) o9 o10) (gH H ks ws fr inn) K L=L (.lst cs) (gH H (ks++[((r:Int),s)]) ws fr inn):=by
 have hpr:=pN (H:=gH H (ks++[((r:Int),s)]) ws fr inn) h hl
 have hst:fH (gH H (ks++[((r:Int),s)]) ws fr inn) (.lst (ps.map dB.v)) (.int s)=some (atS ps s).v:=dH.lst.at h0 h1 hg.hi
 have hp:eP (atS ps s):=dW (hg.stops _ (eQ h0 h1))
 refine dY (Os hon) ?_
 refine dY (notin_dict (x:=((r:Int),s)) Ly) ?_
 refine eY (b:=!decide (kv ((r:Int),s)∈ks.map kv)) (by refine rl (aU fun m=>hk (iD.mp m)) ?_;rfl) ?_
 refine lX (v:=gH H (ks++[((r:Int),s)]) ws fr inn) ((set_dict Ly hk (by exact L1 hkl)).trans ?_) ?_
 ·refine aQ some ((fZ (j:=0)).trans ?_)
  unfold gH gT
  refine rl (aM (f:=fun _=>V.bool true)) ?_;rfl
 refine cX hpr ?_
 refine cX rkd ?_
 refine dY (v:=false) (DM hs) ?_
 refine cX hpr ?_
 refine cX hst ?_
 refine cY ((hF _ _ _).trans (DL f g8 gk hp hs ho)) ?_
 refine rl hn ?_
 rfl
end
theorem jO {x:Str×Int}:∀{ws:List (Str×Int)},(ws.map (·.1)).Nodup→x∈ws→lS ws x.1=x.2
 |[],_,h=>by cases h
 |y::ws,hn,h=>by
  have hn:=cA.mp hn
  unfold lS
  refine rl kZ ?_
  rcases aZ.mp h with rfl | h
  ·refine rl (if_pos rfl) ?_;rfl
  ·refine rl (if_neg fun e=>hn.1 (aJ.mpr ⟨x,h,e.symm⟩)) ?_
   exact jO hn.2 h
theorem yX {A T:Type}{Z:Option A→Prop}{test:Loc→Hp→(Bool→Hp→Option A)→Option A}{body:Loc→Hp→(Loc→Hp→Option A)→Option A}{K:Loc→Hp→Option A}(loc:T→Loc) (hp:T→Hp) (μ:T→Nat) (Inv:T→Prop)
  (hs:∀t K1,Inv t→(∀t',Inv t'→μ t'<μ t→Z (K1 (loc t') (hp t')))→Z (test (loc t) (hp t) fun b H1=>br b (body (loc t) H1 K1) (K (loc t) H1))):∀n t,Inv t→μ t<n→Z (rB test body n (loc t) (hp t) K)
 |0,_,_,hn=>absurd hn (Nat.not_lt_zero _)
 |n+1,t,hi,hn=>hs t _ hi fun t' hi' hl=>yX loc hp μ Inv hs n t' hi' (aR hl (cS hn))
end
section
noncomputable def fQ (R:List Row) (r:Int):Row:=R.getD r.toNat .fin
noncomputable def uK (r:Int):Row→List Int
 |.jump g=>[g]
 |.flip g=>[r+1,g]
 |_=>[]
noncomputable def LW (r:Int) (row:Row) (p:dB):List (Int×Int):=match row with
 |.send w=>[(r+1,lS p.ways w)]
 |.get ws=>p.ways.map fun x=>(lS ws x.1,x.2)
 |_=>[]
section
variable (R:List Row) (ps:List dB)
inductive qN:Int→Int→Prop
 |zero:qN 0 0
 |sil {r r' s:Int}:qN r s→r'∈uK r (fQ R r)→qN r' s
 |lt {r r' s s':Int}:qN r s→nA (fQ R r) (atS ps s)=true→(r',s')∈LW r (fQ R r) (atS ps s)→qN r' s'
inductive vP:Int→Prop
 |mk {r:Int}:(∀r'∈uK r (fQ R r),vP r')→vP r
structure Keeps:Prop where
 term:∀r s,qN R ps r s→vP R r
 ok:∀r s,qN R ps r s→(fQ R r).sil=true∨nA (fQ R r) (atS ps s)=true
inductive SP:Int→Int→Prop
 |one {r t:Int}:t∈uK r (fQ R r)→SP r t
 |snoc {r q t:Int}:SP r q→t∈uK q (fQ R q)→SP r t
end
section
variable {R:List Row}{ps:List dB}
theorem SP.left {r t:Int}(h:SP R r t):∃q∈uK r (fQ R r),q=t∨SP R q t:=by
 induction h with
 |@one t h=>exact ⟨t,h,.inl rfl⟩
 |@snoc p t _ ht ih=>
  refine dF ih fun q hq e=>?_
  exact ⟨q,hq,.inr (e.elim (fun e=>.one (e ▸ ht)) fun s=>.snoc s ht)⟩
theorem vP.acyc {r:Int}(h:vP R r):¬SP R r r:=by
 induction h with
 |@mk r _ ih=>
  intro h
  refine dF h.left fun q hq e=>?_
  exact ih q hq (e.elim (fun e=>.one (by rw [e] at hq ⊢;exact hq)) fun s=>.snoc s hq)
theorem lM {r:Nat}:fQ R (r:Int)=R.getD r .fin:=by unfold fQ;exact rl (Int.toNat_natCast ..) rfl
theorem KP {row:Row}(h:row.sil=true):(∃g,row=.jump g)∨∃g,row=.flip g:=by
 cases row <;> first | exact .inl ⟨_,rfl⟩ | exact .inr ⟨_,rfl⟩ | exact fT h
theorem Ii {r:Nat}{cs:List V}:∀row:Row,(An r cs row).map (·.1)=uK r row:=fun row=>by cases row <;> rfl
theorem Ij {r:Nat}{cs:List V}{p:dB}:∀row:Row,(lets r cs row p).map (fun e=>(e.1,e.2.1))=LW r row p:=fun row=>by
 cases row with
 |get ws=>exact bJ
 |_=>rfl
variable (hg:dA ps) (hR:gF R)
include hR in
theorem uL {r:Int}(h0:0≤r) (h1:r<R.length):gV R.length r (fQ R r):=by
 obtain ⟨n,rfl⟩:∃n:Nat,r=n:=⟨r.toNat,(bP h0).symm⟩
 have hn:n<R.length:=by exact Bf h1
 refine rl lM ?_
 exact hR.rows n _ (by refine rl (bA) (rl (aP hn) ?_);rfl)
theorem Yj {m r:Int}{row:Row}(h:gV m r row):Ih row:=⟨fun w e=>by rw [e] at h;exact h.1,fun ws e=>by rw [e] at h;exact h.words⟩
include hg hR
theorem Yk {r s:Int}(h:qN R ps r s):(0≤r∧r<R.length)∧0≤s∧s<ps.length:=by
 induction h with
 |zero=>exact ⟨⟨cN 0,by have:=hR.lo;exact Z3 (Bc this)⟩,cN 0,by have:=hg.lo;exact Z3 (Bc this)⟩
 |@sil r r' s _ hr ih=>
  have g:=uL hR ih.1.1 ih.1.2
  refine ⟨?_,ih.2⟩
  have h0:=ih.1.1
  cases e:fQ R r with
  |jump x=>rw [e] at g hr;refine rl (aG.mp hr) ?_;exact ⟨g.1,by have:=g.2;exact PJ this⟩
  |flip x=>
   rw [e] at g hr
   rcases aZ.mp hr with q | q
   ·have:=g.2;refine rl q ?_;exact RR ih.1.1 this
   ·refine rl (aG.mp q) ?_;exact ⟨g.1.1,by have:=g.1.2;exact PJ this⟩
  |fin=>rw [e] at hr;cases hr
  |send w=>rw [e] at hr;cases hr
  |get ws=>rw [e] at hr;cases hr
 |@lt r r' s s' _ hb hr ih=>
  have g:=uL hR ih.1.1 ih.1.2
  have hp:=hg.stops _ (eQ ih.2.1 ih.2.2)
  have h0:=ih.1.1
  cases e:fQ R r with
  |jump x=>rw [e] at hr;cases hr
  |flip x=>rw [e] at hr;cases hr
  |fin=>rw [e] at hr;cases hr
  |send w=>
   rw [e] at g hr hb
   cases aG.mp hr
   exact ⟨by have:=g.2;exact RR ih.1.1 this,lT hp (bD (aF.mp hb).2)⟩
  |get ws=>
   rw [e] at g hr hb
   refine dF (aJ.mp hr) fun y hy q=>?_
   obtain ⟨rfl,rfl⟩:=Prod.mk.inj q
   have hw:y.1∈(atS ps s).words:=aJ.mpr ⟨y,hy,rfl⟩
   obtain ⟨v,hv⟩:=Option.isSome_iff_exists.mp (bR.mp (aF.mp hb).2 _ hw)
   have ef:lS ws y.1=v:=by unfold lS;refine rl hv ?_;rfl
   have gv:=g.goals _ (mV hv)
   have e2:=jO (dW hp).2.2 hy
   have gi:=lT hp hw
   rw [e2] at gi
   dsimp only at gv
   exact ⟨by refine rl ef ?_;exact PX gv.1 gv.2,gi⟩
end
end
section
section
variable (R:List Row) (ps:List dB)
structure EO (n:Nat) (s:Int) (x:Int×List V):Prop where
 q:qN R ps x.1 s
 len:x.2.length≤n
 ok:∀n,V.oks n x.2=true
structure KI (ks:List (Int×Int)) (ws:List (Int×Int×List V)):Prop where
 nd:ks.Nodup
 kq:∀x∈ks,qN R ps x.1 x.2
 wq:∀e∈ws,EO R ps ks.length e.2.1 (e.1,e.2.2)
 wl:ws.length≤6*ks.length+1
noncomputable def Jn (ks:List (Int×Int)) (ws:List (Int×Int×List V)) (s:Int) (en:Option (Int×List V)) (y:Int×Int):Prop:=y∈ks∨y∈ws.map (fun e=>(e.1,e.2.1))∨(y.2=s∧en.map (·.1)=some y.1)
structure Dn (ks:List (Int×Int)) (ws:List (Int×Int×List V)) (s:Int) (en:Option (Int×List V)) (x:Int×Int):Prop where
 t:vP R x.1
 c:∀r∈uK x.1 (fQ R x.1),(r,x.2)∈ks
 l:(fQ R x.1).sil=false→nA (fQ R x.1) (atS ps x.2)=true∧∀y∈LW x.1 (fQ R x.1) (atS ps x.2),Jn ks ws s en y
noncomputable def Cv (s:Int) (ks:List (Int×Int)) (fr:List (Int×Nat)) (inn:List (List (Int×List V))) (en:Option (Int×List V)) (i:Nat) (f:Int×Nat) (r:Int):Prop:=
 (∃l,inn[f.2]? = some l∧r∈l.map (·.1))∨((r,s)∈ks∧vP R r)∨(fr[i+1]?).map (·.1)=some r∨(i+1=fr.length∧en.map (·.1)=some r)
structure GJ (s:Int) (ks:List (Int×Int)) (ws:List (Int×Int×List V)) (fr:List (Int×Nat)) (inn:List (List (Int×List V))) (et:Option (Int×List V)):Prop where
 ki:KI R ps ks ws
 on:(fr.map (·.1)).Nodup
 ix:fr.Pairwise fun a b=>a.2<b.2
 sp:fr.Pairwise fun a b=>SP R a.1 b.1
 fi:∀f∈fr,∃l,inn[f.2]? = some l∧l.length≤2∧∀x∈l,EO R ps ks.length s x∧x.1∈uK f.1 (fQ R f.1)
 fk:∀f∈fr,(f.1,s)∈ks∧(fQ R f.1).sil=true
 fl:fr.length≤ks.length
 en:∀x,et=some x→EO R ps ks.length s x∧∀f∈fr,SP R f.1 x.1
 cov:∀i f,fr[i]? = some f→∀r∈uK f.1 (fQ R f.1),Cv R s ks fr inn et i f r
 cl:∀x∈ks,(x.2=s∧x.1∈fr.map (·.1))∨Dn R ps ks ws s et x
 zr:Jn ks ws s et (0,0)
structure BJ (ks:List (Int×Int)) (ws:List (Int×Int×List V)):Prop where
 ki:KI R ps ks ws
 cl:∀x∈ks,Dn R ps ks ws 0 none x
 zr:Jn ks ws 0 none (0,0)
end
section
variable {R:List Row}{ps:List dB}{s r:Int}{cs:List V}{ks ks':List (Int×Int)}{ws ws':List (Int×Int×List V)}{fr:List (Int×Nat)}{inn:List (List (Int×List V))}{en en':Option (Int×List V)}
theorem EO.of {n:Nat}{x:Int×List V}(h:qN R ps x.1 s) (k:x.2.length≤n∧∀n,V.oks n x.2=true):EO R ps n s x:=⟨h,k.1,k.2⟩
theorem EO.mono {n m:Nat}{x:Int×List V}(h:EO R ps n s x) (hl:n≤m):EO R ps m s x:=⟨h.q,aD h.len hl,h.ok⟩
theorem Dn.imp {s':Int}{x:Int×Int}(h:Dn R ps ks ws s en x) (hk:∀y∈ks,y∈ks') (hj:∀y,Jn ks ws s en y→Jn ks' ws' s' en' y):Dn R ps ks' ws' s' en' x:=
 ⟨h.t,fun r hr=>hk _ (h.c r hr),fun q=>⟨(h.l q).1,fun y hy=>hj y ((h.l q).2 y hy)⟩⟩
theorem Jn.imp {s':Int}{y:Int×Int}(h:Jn ks ws s en y) (h1:y∈ks→Jn ks' ws' s' en' y) (h2:y∈ws.map (fun e=>(e.1,e.2.1))→Jn ks' ws' s' en' y) (h3:y.2=s→en.map (·.1)=some y.1→Jn ks' ws' s' en' y):Jn ks' ws' s' en' y:=
 h.elim h1 fun h=>h.elim h2 fun h=>h3 h.1 h.2
theorem KI.add (ki:KI R ps ks ws) (hn:(r,s)∉ks) (hq:qN R ps r s) {ns:List (Int×Int×List V)}(hl:ns.length≤6) (hns:∀e∈ns,EO R ps (ks.length+1) e.2.1 (e.1,e.2.2)):KI R ps (ks++[(r,s)]) (ws++ns):=by
 have e1:(ks++[(r,s)]).length=ks.length+1:=aE
 refine ⟨cT.mpr ⟨ki.nd,cA.mpr ⟨cE,cG⟩,fun a ha b hb q=>hn ((aG.mp hb) ▸ q ▸ ha)⟩,fun x hx=>(aY.mp hx).elim (ki.kq x) fun q=>aG.mp q ▸ hq,fun e he=>?_,?_⟩
 ·refine rl e1 ?_
  exact (aY.mp he).elim (fun q=>(ki.wq e q).mono (Nat.le_succ _)) (hns e)
 ·have:=ki.wl
  refine rl e1 (rl aE ?_)
  exact TN hl this
theorem GJ.known (g:GJ R ps s ks ws fr inn (some (r,cs))) (hon:r∉fr.map (·.1)) (hk:(r,s)∈ks):GJ R ps s ks ws fr inn none:=by
 have t:vP R r:=((g.cl _ hk).resolve_left fun q=>hon q.2).t
 have j:∀y,Jn ks ws s (some (r,cs)) y→Jn ks ws s none y:=fun y h=>h.imp .inl (fun q=>.inr (.inl q)) fun q1 q2=>.inl (by
  obtain ⟨a,b⟩:=y
  subst q1;cases q2;exact hk)
 exact ⟨g.ki,g.on,g.ix,g.sp,g.fi,g.fk,g.fl,fun x q=>(nomatch q),fun i f hf r' hr=>(g.cov i f hf r' hr).imp_right (Or.elim · .inl fun h=>h.elim (fun q=>.inr (.inl q)) fun q=>.inl (by cases q.2;exact ⟨hk,t⟩)),
  fun x hx=>(g.cl x hx).imp_right fun d=>d.imp (fun _ q=>q) j,j _ g.zr⟩
theorem Ik {α:Type}{l:List α}{a f:α}{i:Nat}(h:(l++[a])[i]? = some f):l[i]? = some f∨(i=l.length∧f=a):=by
 by_cases q:i<l.length
 ·rw [bH q] at h;exact .inl h
 ·rw [bO (Nat.le_of_not_lt q)] at h
  have:i-l.length=0:=by
   have:=(aS.mp h).1
   rw [List.length_singleton] at this
   exact Nat.le_antisymm (L1 (N4 this)) (N2 (aX _))
  rw [this] at h
  obtain rfl:=aB h
  exact .inr ⟨by exact Nat.le_antisymm (Nat.le_of_sub_eq_zero this) (Nat.le_of_not_lt q),rfl⟩
theorem Yl {α β:Type}{f:α→β}{l:List α}{a:α}{x:β}(h:x∈(l++[a]).map f):x∈l.map f∨x=f a:=by
 rw [aM] at h
 exact (aY.mp h).imp_right aG.mp
theorem GJ.silent {n:Nat}(g:GJ R ps s ks ws fr inn (some ((n:Int),cs))) (hon:(n:Int)∉fr.map (·.1)) (hk:((n:Int),s)∉ks) (hs:(fQ R n).sil=true) :
  GJ R ps s (ks++[((n:Int),s)]) ws (fr++[((n:Int),inn.length)]) (inn++[An n cs (fQ R n)]) none:=by
 have hx:=g.en _ rfl
 have e1:(ks++[((n:Int),s)]).length=ks.length+1:=aE
 have kin:=g.ki.add (ns:=[]) hk hx.1.q (aX _) fun _ q=>(nomatch q)
 rw [bV] at kin
 have old:∀{f:Int×Nat},f∈fr→∀{l},inn[f.2]? = some l→(inn++[An n cs (fQ R n)])[f.2]? = some l:=fun hf l hl=>by refine rl (bH (aS.mp hl).1) ?_;exact hl
 have lt:∀f∈fr,f.2<inn.length:=fun f hf=>(g.fi f hf).elim fun l h=>(aS.mp h.1).1
 have mk:∀{y},y∈ks→y∈ks++[((n:Int),s)]:=fun h=>List.mem_append_left _ h
 have self:((n:Int),s)∈ks++[((n:Int),s)]:=List.mem_append_right _ aH
 have j:∀y,Jn ks ws s (some ((n:Int),cs)) y→Jn (ks++[((n:Int),s)]) ws s none y:=fun y h=>h.imp (fun q=>.inl (mk q)) (fun q=>.inr (.inl q)) fun q1 q2=>.inl (by
  obtain ⟨a,b⟩:=y
  subst q1;cases q2;exact self)
 have pe:∀x∈An n cs (fQ R n),EO R ps (ks.length+1) s x∧x.1∈uK n (fQ R n):=fun x h=>by
  have h1:x.1∈uK n (fQ R n):=Ii (cs:=cs) (fQ R n) ▸ aJ.mpr ⟨x,h,rfl⟩
  refine ⟨.of (hx.1.q.sil h1) ?_,h1⟩
  have hl:=hx.1.len
  have ho:=hx.1.ok
  cases e:fQ R n with
  |jump a=>rw [e] at h;refine rl (aG.mp h) ?_;exact ⟨Nat.le_succ_of_le hl,ho⟩
  |flip a=>
   rw [e] at h
   rcases aZ.mp h with q | q
   ·refine rl q ?_;exact ⟨by refine rl aE ?_;exact cU hl,fun n=>lL (ho n) rfl⟩
   ·refine rl (aG.mp q) ?_;exact ⟨by refine rl aE ?_;exact cU hl,fun n=>lL (ho n) rfl⟩
  |fin=>rw [e] at h;cases h
  |send w=>rw [e] at h;cases h
  |get w=>rw [e] at h;cases h
 have p2:(An n cs (fQ R n)).length≤2:=by
  cases fQ R n with
  |jump a=>exact (by decide:1≤2)
  |flip a=>exact (by decide:2≤2)
  |_=>exact aX 2
 refine ⟨kin,?_,?_,?_,fun f hf=>?_,fun f hf=>?_,?_,fun x q=>(nomatch q),fun i f hf r' hr=>?_,fun x hx=>?_,j _ g.zr⟩
 ·refine rl aM ?_
  exact cT.mpr ⟨g.on,cA.mpr ⟨cE,cG⟩,fun a ha b hb q=>hon (by refine rl (show (n:Int)=a from (q.trans (aG.mp hb)).symm) ?_;exact ha)⟩
 ·exact List.pairwise_append.mpr ⟨g.ix,List.pairwise_singleton _ _,fun a ha b hb=>by refine rl (aG.mp hb) ?_;exact lt a ha⟩
 ·exact List.pairwise_append.mpr ⟨g.sp,List.pairwise_singleton _ _,fun a ha b hb=>by refine rl (aG.mp hb) ?_;exact hx.2 a ha⟩
 ·refine rl e1 ?_
  rcases aY.mp hf with q | q
  ·refine fU (g.fi f q) fun l h1 h2 h3=>?_
   exact ⟨l,old q h1,h2,fun x hx=>⟨(h3 x hx).1.mono (Nat.le_succ _),(h3 x hx).2⟩⟩
  ·refine rl (aG.mp q) ?_
   exact ⟨_,List.getElem?_concat_length,p2,pe⟩
 ·rcases aY.mp hf with q | q
  ·exact ⟨mk (g.fk f q).1,(g.fk f q).2⟩
  ·refine rl (aG.mp q) ?_;exact ⟨self,hs⟩
 ·refine rl e1 (rl aE ?_);exact cU g.fl
 ·rcases Ik hf with hf | ⟨rfl,rfl⟩
  ·have hi:=(aS.mp hf).1
   rcases g.cov i f hf r' hr with ⟨l,h1,h2⟩ | ⟨h1,h2⟩ | h | ⟨h1,h2⟩
   ·exact .inl ⟨l,old (bT hf) h1,h2⟩
   ·exact .inr (.inl ⟨mk h1,h2⟩)
   ·refine .inr (.inr (.inl ?_))
    have:i+1<fr.length:=Nat.lt_of_not_le fun q=>by rw [List.getElem?_eq_none q] at h;exact nS h
    refine rl (bH this) ?_;exact h
   ·refine .inr (.inr (.inl ?_))
    refine rl h1 (rl (List.getElem?_concat_length) ?_)
    exact h2
  ·refine .inl ⟨_,List.getElem?_concat_length,?_⟩
   refine rl (Ii ..) ?_;exact hr
 ·rcases aY.mp hx with q | q
  ·exact (g.cl x q).imp (fun h=>⟨h.1,by refine rl aM ?_;exact List.mem_append_left _ h.2⟩) fun d=>d.imp (fun _=>mk) j
  ·refine rl (aG.mp q) ?_
   exact .inl ⟨rfl,by refine rl aM ?_;exact List.mem_append_right _ aH⟩
theorem GJ.letter {n:Nat}(g:GJ R ps s ks ws fr inn (some ((n:Int),cs))) (hk:((n:Int),s)∉ks) (hs:(fQ R n).sil=false) (hb:nA (fQ R n) (atS ps s)=true) (h6:(lets n cs (fQ R n) (atS ps s)).length≤6) :
  GJ R ps s (ks++[((n:Int),s)]) (ws++lets n cs (fQ R n) (atS ps s)) fr inn none:=by
 have hx:=g.en _ rfl
 have e1:(ks++[((n:Int),s)]).length=ks.length+1:=aE
 have mk:∀{y},y∈ks→y∈ks++[((n:Int),s)]:=fun h=>List.mem_append_left _ h
 have self:((n:Int),s)∈ks++[((n:Int),s)]:=List.mem_append_right _ aH
 have mw:∀{y},y∈ws.map (fun e=>(e.1,e.2.1))→y∈(ws++lets n cs (fQ R n) (atS ps s)).map (fun e=>(e.1,e.2.1)):=fun h=>by refine rl aM ?_;exact List.mem_append_left _ h
 have j:∀y,Jn ks ws s (some ((n:Int),cs)) y→Jn (ks++[((n:Int),s)]) (ws++lets n cs (fQ R n) (atS ps s)) s none y:=fun y h=>h.imp (fun q=>.inl (mk q)) (fun q=>.inr (.inl (mw q))) fun q1 q2=>.inl (by
  obtain ⟨a,b⟩:=y
  subst q1;cases q2;exact self)
 have nos:uK n (fQ R n)=[]:=by cases e:fQ R n <;> first | rfl | (rw [e] at hs;exact tF hs)
 have t:vP R n:=.mk fun r' h=>by rw [nos] at h;cases h
 have le:∀e∈lets n cs (fQ R n) (atS ps s),EO R ps (ks.length+1) e.2.1 (e.1,e.2.2):=fun e he=>by
  have h1:(e.1,e.2.1)∈LW n (fQ R n) (atS ps s):=Ij (cs:=cs) (fQ R n) ▸ aJ.mpr ⟨e,he,rfl⟩
  refine .of (hx.1.q.lt hb h1) ?_
  have hl:=hx.1.len
  have ho:=hx.1.ok
  cases q:fQ R n with
  |send w=>rw [q] at he;refine rl (aG.mp he) ?_;exact ⟨Nat.le_succ_of_le hl,ho⟩
  |get w=>
   rw [q] at he
   refine dF (aJ.mp he) fun y _ e_e=>?_;subst e_e
   exact ⟨by show (cs++[V.str y.1]).length≤_;refine rl aE ?_;exact cU hl,fun n=>lL (ho n) rfl⟩
  |fin=>rw [q] at he;cases he
  |flip a=>rw [q] at he;cases he
  |jump a=>rw [q] at he;cases he
 refine ⟨g.ki.add hk hx.1.q h6 le,g.on,g.ix,g.sp,fun f hf=>?_,fun f hf=>⟨mk (g.fk f hf).1,(g.fk f hf).2⟩,by refine rl e1 ?_;exact Nat.le_succ_of_le g.fl,fun x q=>(nomatch q),fun i f hf r' hr=>?_,fun x hx=>?_,j _ g.zr⟩
 ·refine fU (g.fi f hf) fun l h1 h2 h3=>?_
  exact ⟨l,h1,h2,fun x hx=>⟨(h3 x hx).1.mono (by refine rl e1 ?_;exact Nat.le_succ _),(h3 x hx).2⟩⟩
 ·rcases g.cov i f hf r' hr with h | ⟨h1,h2⟩ | h | ⟨h1,h2⟩
  ·exact .inl h
  ·exact .inr (.inl ⟨mk h1,h2⟩)
  ·exact .inr (.inr (.inl h))
  ·obtain rfl:=aB h2;exact .inr (.inl ⟨self,t⟩)
 ·rcases aY.mp hx with q | q
  ·exact (g.cl x q).imp_right fun d=>d.imp (fun _=>mk) j
  ·refine rl (aG.mp q) ?_
   refine .inr ⟨t,fun r' h=>(by rw [nos] at h;cases h),fun _=>⟨hb,fun y hy=>.inr (.inl ?_)⟩⟩
   refine rl aM (rl (Ij ..) ?_)
   exact List.mem_append_right _ hy
end
end
section
section
variable {R:List Row}{ps:List dB}{s r:Int}{i:Nat}{cs:List V}{ks:List (Int×Int)}{ws:List (Int×Int×List V)}{fr:List (Int×Nat)}{inn:List (List (Int×List V))}{en:Option (Int×List V)}
theorem GJ.pop (g:GJ R ps s ks ws (fr++[(r,i)]) inn none) (hi:inn[i]? = some []):GJ R ps s ks ws fr inn none:=by
 have last:(fr++[(r,i)])[fr.length]? = some (r,i):=List.getElem?_concat_length
 have mem:(r,i)∈fr++[(r,i)]:=List.mem_append_right _ aH
 have all:∀q∈uK r (fQ R r),(q,s)∈ks∧vP R q:=fun q hq=>by
  rcases g.cov _ _ last q hq with ⟨l,h1,h2⟩ | h | h | h
  ·have h1:inn[i]? = some l:=h1
   rw [hi] at h1;obtain rfl:=aB h1;cases h2
  ·exact h
  ·rw [List.getElem?_eq_none (by refine rl aE ?_;exact aN _)] at h;exact nS h
  ·cases h.2
 have t:vP R r:=.mk fun q hq=>(all q hq).2
 have fk:=g.fk _ mem
 refine ⟨g.ki,?_,(List.pairwise_append.mp g.ix).1,(List.pairwise_append.mp g.sp).1,fun f hf=>g.fi f (List.mem_append_left _ hf),fun f hf=>g.fk f (List.mem_append_left _ hf),?_,fun x q=>(nomatch q),fun j f hf q hq=>?_,fun x hx=>?_,g.zr⟩
 ·have:=g.on;rw [aM] at this;exact (cT.mp this).1
 ·have:=g.fl;rw [aE] at this;exact Nat.le_of_succ_le this
 ·have hj:=(aS.mp hf).1
  have hf':(fr++[(r,i)])[j]? = some f:=by refine rl (bH hj) ?_;exact hf
  rcases g.cov j f hf' q hq with h | h | h | h
  ·exact .inl h
  ·exact .inr (.inl h)
  ·by_cases e:j+1<fr.length
   ·rw [bH e] at h;exact .inr (.inr (.inl h))
   ·have e:j+1=fr.length:=by exact Nat.le_antisymm (Nat.succ_le_of_lt hj) (Nat.le_of_not_lt e)
    rw [e,last] at h
    obtain rfl:=aB h
    exact .inr (.inl ⟨fk.1,t⟩)
  ·cases h.2
 ·rcases g.cl x hx with ⟨h1,h2⟩ | h
  ·rcases Yl h2 with q | q
   ·exact .inl ⟨h1,q⟩
   ·refine .inr ?_
    obtain ⟨a,b⟩:=x
    have h1:b=s:=h1
    have q:a=r:=q
    subst h1 q
    exact ⟨t,fun q hq=>(all q hq).1,fun h=>by rw [fk.2] at h;exact tF h⟩
  ·exact .inr h
theorem GJ.next {x:Int×List V}{l:List (Int×List V)}(g:GJ R ps s ks ws (fr++[(r,i)]) inn none) (hi:inn[i]? = some (x::l)):GJ R ps s ks ws (fr++[(r,i)]) (inn.set i l) (some x):=by
 have last:(fr++[(r,i)])[fr.length]? = some (r,i):=List.getElem?_concat_length
 have mem:(r,i)∈fr++[(r,i)]:=List.mem_append_right _ aH
 have hlt:=(aS.mp hi).1
 have ne:∀f∈fr,i≠f.2:=fun f hf q=>Nat.lt_irrefl _ (Nat.lt_of_lt_of_eq ((List.pairwise_append.mp g.ix).2.2 f hf _ aH) q)
 have old:∀f∈fr,(inn.set i l)[f.2]? = inn[f.2]?:=fun f hf=>List.getElem?_set_ne (ne f hf)
 have new:(inn.set i l)[i]? = some l:=List.getElem?_set_self hlt
 refine fU (g.fi _ mem) fun l' h1 h2 h3=>?_
 have h1:inn[i]? = some l':=h1
 rw [hi] at h1
 obtain rfl:=aB h1
 have hx:=h3 x aH
 have j:∀y,Jn ks ws s none y→Jn ks ws s (some x) y:=fun y h=>h.imp .inl (fun q=>.inr (.inl q)) fun _ q=>(nomatch q)
 refine ⟨g.ki,g.on,g.ix,g.sp,fun f hf=>?_,g.fk,g.fl,fun y q=>?_,fun k f hf q hq=>?_,fun y hy=>(g.cl y hy).imp_right fun d=>d.imp (fun _ q=>q) j,j _ g.zr⟩
 ·rcases aY.mp hf with q | q
  ·refine fU (g.fi f hf) fun m e1 e2 e3=>?_
   exact ⟨m,(old f q).trans e1,e2,e3⟩
  ·refine rl (aG.mp q) ?_
   exact ⟨l,new,Nat.le_of_succ_le h2,fun y hy=>h3 y (aT _ hy)⟩
 ·obtain rfl:=aB q
  refine ⟨hx.1,fun f hf=>?_⟩
  rcases aY.mp hf with q | q
  ·exact .snoc ((List.pairwise_append.mp g.sp).2.2 f q _ aH) hx.2
  ·refine rl (aG.mp q) ?_;exact .one hx.2
 ·rcases Ik hf with h | ⟨rfl,rfl⟩
  ·rcases g.cov k f hf q hq with ⟨m,e1,e2⟩ | h' | h' | h'
   ·exact .inl ⟨m,(old f (bT h)).trans e1,e2⟩
   ·exact .inr (.inl h')
   ·exact .inr (.inr (.inl h'))
   ·cases h'.2
  ·rcases g.cov _ _ hf q hq with ⟨m,e1,e2⟩ | h' | h' | h'
   ·have e1:inn[i]? = some m:=e1
    rw [hi] at e1
    obtain rfl:=aB e1
    rcases aZ.mp e2 with q' | q'
    ·exact .inr (.inr (.inr ⟨by refine rl aE ?_;rfl,by refine rl q' ?_;rfl⟩))
    ·exact .inl ⟨l,new,q'⟩
   ·exact .inr (.inl h')
   ·exact .inr (.inr (.inl h'))
   ·cases h'.2
theorem GJ.start {e:Int×Int×List V}(b:BJ R ps ks (e::ws)):GJ R ps e.2.1 ks ws [] [] (some (e.1,e.2.2)):=by
 have j:∀y,Jn ks (e::ws) 0 none y→Jn ks ws e.2.1 (some (e.1,e.2.2)) y:=fun y h=>h.imp .inl (fun q=>(aZ.mp q).elim (fun q=>.inr (.inr (by refine rl q ?_;exact ⟨rfl,rfl⟩))) fun q=>.inr (.inl q)) fun _ q=>(nomatch q)
 refine ⟨⟨b.ki.nd,b.ki.kq,fun x hx=>b.ki.wq x (aT _ hx),Nat.le_of_succ_le b.ki.wl⟩,cG,.nil,.nil,fun f h=>(nomatch h),fun f h=>(nomatch h),aX _,fun x q=>?_,fun i f h=>(nomatch h),fun x hx=>.inr ((b.cl x hx).imp (fun _ q=>q) j),j _ b.zr⟩
 obtain rfl:=aB q
 exact ⟨b.ki.wq e aH,fun f h=>(nomatch h)⟩
theorem GJ.done (g:GJ R ps s ks ws [] inn none):BJ R ps ks ws:=by
 have j:∀y,Jn ks ws s none y→Jn ks ws 0 none y:=fun y h=>h.imp .inl (fun q=>.inr (.inl q)) fun _ q=>(nomatch q)
 exact ⟨g.ki,fun x hx=>((g.cl x hx).resolve_left fun q=>(nomatch q.2)).imp (fun _ q=>q) j,j _ g.zr⟩
theorem BJ.keeps (b:BJ R ps ks []):Keeps R ps:=by
 have all:∀r s,qN R ps r s→(r,s)∈ks:=fun r s h=>by
  have nj:∀y,Jn ks [] 0 none y→y∈ks:=fun y h=>h.elim id fun q=>q.elim (fun q=>(nomatch q)) fun q=>(nomatch q.2)
  induction h with
  |zero=>exact nj _ b.zr
  |sil _ hr ih=>exact (b.cl _ ih).c _ hr
  |@lt r r' s s' _ hb hr ih=>
   refine nj _ (((b.cl _ ih).l ?_).2 _ hr)
   show (fQ R r).sil=false
   cases e:fQ R r <;> first | rfl | (rw [e] at hb;exact fT hb)
 refine ⟨fun r s h=>(b.cl _ (all r s h)).t,fun r s h=>?_⟩
 cases e:(fQ R r).sil with
 |true=>exact .inl rfl
 |false=>exact .inr ((b.cl _ (all r s h)).l e).1
theorem GJ.cycle (g:GJ R ps s ks ws fr inn (some (r,cs))) (hon:r∈fr.map (·.1)):¬Keeps R ps:=fun k=>by
 have hx:=g.en _ rfl
 refine dF (aJ.mp hon) fun f hf e=>?_
 have sp:=hx.2 f hf
 have e:f.1=r:=e
 rw [e] at sp
 exact (k.term _ _ hx.1.q).acyc sp
theorem GJ.bad (g:GJ R ps s ks ws fr inn (some (r,cs))) (hs:(fQ R r).sil=false) (hb:nA (fQ R r) (atS ps s)=false):¬Keeps R ps:=fun k=>by
 rcases k.ok _ _ (g.en _ rfl).1.q with h | h
 ·have h:(fQ R r).sil=true:=h
  rw [hs] at h;exact fT h
 ·have h:nA (fQ R r) (atS ps s)=true:=h
  rw [hb] at h;exact fT h
theorem BJ.zero:BJ R ps [] [(0,0,[])]:=⟨⟨cG,fun x h=>(nomatch h),fun e he=>by refine rl (aG.mp he) ?_;exact ⟨.zero,aN _,fun _=>rfl⟩,aN _⟩,fun x h=>(nomatch h),.inr (.inl aH)⟩
theorem Lz (hg:dA ps) (hR:gF R) (k:KI R ps ks ws):ks.length≤2880:=by
 have h240:=hR.hi
 have h12:=hg.hi
 have:=gA (m:=Sk 240 12) k.nd fun x hx=>by
  have b:=Yk hg hR (k.kq x hx)
  unfold Sk
  refine List.mem_flatMap.mpr ⟨x.1.toNat,List.mem_range.mpr (by exact A2 b.1.1 (cC b.1.2 (L2 (Bc h240)))),aJ.mpr ⟨x.2.toNat,List.mem_range.mpr (by exact A2 b.2.1 (cC b.2.2 (L2 (Bc h12)))),?_⟩⟩
  exact rl (bP b.1.1) (rl (bP b.2.1) rfl)
 rw [Hu] at this
 exact this
end
end
section
theorem sum_set {x:Int×List V}{l:List (Int×List V)}:∀{inn:List (List (Int×List V))}{i:Nat},inn[i]? = some (x::l)→((inn.set i l).map List.length).sum+1=(inn.map List.length).sum
 |[],_,h=>by exact nS h
 |y::inn,0,h=>by
  obtain rfl:=aB h
  show (l.length+(inn.map List.length).sum)+1=(l.length+1)+(inn.map List.length).sum
  exact Nat.add_right_comm _ _ _
 |y::inn,i+1,h=>by
  have:=sum_set (inn:=inn) (i:=i) h
  show (y.length+((inn.set i l).map List.length).sum)+1=y.length+(inn.map List.length).sum
  exact TT this
section
variable {H:Hp}
theorem yY {n:Nat}:∀{H A B:Hp},rX n A B=true→rX n (H++A) (H++B)=true
 |[],_,_,h=>h
 |o::H,A,B,h=>by
  show ((decide (o=o)||_)&&rX n (H++A) (H++B))=true
  refine rl (yY h) (rl (aO rfl) ?_);rfl
end
noncomputable abbrev VL:=List (Int×Int)×List (Int×Int×List V)×List (Int×Nat)×List (List (Int×List V))×Option (Int×List V)×Option V×Option V
noncomputable def DN (ks:List (Int×Int)) (fr:List (Int×Nat)) (inn:List (List (Int×List V))) (en:Option (Int×List V)):Nat:=8*(2880-ks.length)+2*(inn.map List.length).sum+fr.length+en.toList.length
noncomputable def Ot (ks:List (Int×Int)) (ws:List (Int×Int×List V)):Nat:=ws.length+6*(2880-ks.length)
noncomputable def cH (H:Hp) (ks:List (Int×Int)) (ws:List (Int×Int×List V)):Hp:=H++[.dct false (ks.map kv) (ks.map fun _=>.bool true),.lst (ws.map tC)]
theorem Ou {R:List Row}{ps:List dB}{m n:Nat}:∀{ws:List (Int×Int×List V)},(∀e∈ws,EO R ps m e.2.1 (e.1,e.2.2))→V.oks n (ws.map tC)=true
 |[],_=>rfl
 |x::ws,h=>by
  refine (aF (x:=V.ok n (tC x))).mpr ⟨?_,Ou fun y hy=>h y (aT _ hy)⟩
  show (true&&(true&&(V.oks n x.2.2&&true)))=true
  refine rl ((h x aH).ok n) ?_;rfl
theorem Il (n:Nat):∀ks:List (Int×Int),V.oks n (ks.map fun _=>V.bool true)=true
 |[]=>rfl
 |_::ks=>(aF (x:=true)).mpr ⟨rfl,Il n ks⟩
theorem yZ {R:List Row}{ps:List dB}{m:Nat}{H:Hp}{ks ks':List (Int×Int)}{ws ws':List (Int×Int×List V)}{fr:List (Int×Nat)}{inn:List (List (Int×List V))}{v:V}(hv:∀n,v.ok n=true) (h:∀e∈ws',EO R ps m e.2.1 (e.1,e.2.2)):finish (cH H ks ws) (gH H ks' ws' fr inn) v=some (v,false,cH H ks' ws'):=by
 have hl:(cH H ks ws).length=H.length+2:=by unfold cH;refine rl aE ?_;rfl
 unfold finish
 refine cW (wC (v:=v) (hv _) 6) (dJ ?_ ?_)
 ·refine yY ?_
  show ((_||_)&&((_||_)&&true))=true
  have h1:(V.dct false (ks'.map kv) (ks'.map fun _=>V.bool true)).ok (cH H ks ws).length=true:=aF.mpr ⟨Lv _ _,Il _ _⟩
  have h2:(V.lst (ws'.map tC)).ok (cH H ks ws).length=true:=Ou h
  refine rl h1 (rl h2 ?_);simp
 ·refine rl (yB (v:=v) (hv _)) (rl hl ?_)
  refine aQ (fun x=>some (v,false,x)) ?_
  unfold gH cH
  refine rl List.take_append (rl (List.take_of_length_le (bW _ _)) (rl (Nat.add_sub_cancel_left ..) ?_));rfl
theorem Ym {n:Nat}{cs:List V}{row:Row}{p:dB}(hp:eP p):(lets n cs row p).length≤6:=by
 have h6:=hp.2.1
 unfold dB.words at h6
 rw [aA] at h6
 unfold lets
 split
 ·exact (by decide:1≤6)
 ·refine rl (aA ..) ?_;exact h6
 ·exact aX _
noncomputable def GZ (R:List Row) (ps:List dB) (H:Hp) (b:Nat) (o:Option (V×Bool×Hp)):Prop:=
 (∃ks ws,BJ R ps ks ws∧Ot ks ws≤b∧o=some (.none,false,cH H ks ws))∨(∃cs ks ws,¬Keeps R ps∧(∀n,V.oks n cs=true)∧cs.length≤2880∧o=some (.lst cs,false,cH H ks ws))
section
variable {P:Nat→Option Fn}(f:GF P) (g8:G8 P) (gk:GK P) {fuel k:Nat}{H:Hp}{R:List Row}{ps:List dB}(hg:dA ps) (hR:gF R)
include f g8 gk hg hR
theorem DO {c:Ctx}(hF:∀n args H,c.F n args H=F P fuel (k+3) n args H) {s:Int}{bg:V}{ks ks0:List (Int×Int)}{ws ws0:List (Int×Int×List V)}{fr:List (Int×Nat)}{inn:List (List (Int×List V))}{en:Option (Int×List V)}{o9 o10:Option V}{b:Nat}{K1:Loc→Hp→Option (V×Bool×Hp)}
  (g:GJ R ps s ks ws fr inn en) (hm:Ot ks ws≤b)
  (hK:∀ks' ws' fr' inn' en' o o',GJ R ps s ks' ws' fr' inn' en'→Ot ks' ws'≤b→DN ks' fr' inn' en'<DN ks fr inn en→GZ R ps H b (K1 (gL R ps bg H s en' o o') (gH H ks' ws' fr' inn'))) :
  GZ R ps H b (dG c eG.body.tl.tl.tl.tl.hd.inner (gL R ps bg H s en o9 o10) (gH H ks ws fr inn) K1 (fun v H1=>finish (cH H ks0 ws0) H1 v)):=by
 have h240:=hR.hi
 have hkl:=Lz hg hR g.ki
 have hfl:=g.fl
 have hwl:=g.ki.wl
 cases en with
 |some x=>
  obtain ⟨x1,cs⟩:=x
  have hx:=(g.en _ rfl).1
  have bnd:=Yk hg hR hx.q
  obtain ⟨r,rfl⟩:∃r:Nat,x1=r:=⟨x1.toNat,(bP bnd.1.1).symm⟩
  have hr:r<R.length:=Int.ofNat_lt.mp bnd.1.2
  have hcl:cs.length≤ks.length:=hx.len
  have erow:fQ R r=R.getD r .fin:=lM
  by_cases hon:(r:Int)∈fr.map (·.1)
  ·refine kR (Yi hon) (.inr ⟨cs,ks,ws,g.cycle hon,hx.ok,by exact L1 (aD hcl hkl),yZ hx.ok g.ki.wq⟩)
  by_cases hk:((r:Int),s)∈ks
  ·exact kR (Yg hon hk) (hK ks ws fr inn none _ _ (g.known hon hk) hm (Nat.lt_succ_self _))
  have kl':ks.length+1≤2880:=by
   have:=Lz (ws:=ws) hg hR (by have:=g.ki.add (ns:=[]) hk hx.q (aX _) fun _ q=>(nomatch q);rw [bV] at this;exact this)
   rw [aE] at this
   exact this
  cases hs:(R.getD r .fin).sil with
  |true=>
   refine kR (Ss gk hF hon hk (by exact L1 hkl) (by exact L1 (aD hfl hkl)) hr h240 (by exact L1 (aD hcl hkl)) hx.ok (KP hs)) (hK _ _ _ _ none _ _ (erow ▸ g.silent hon hk (erow ▸ hs)) ?_ ?_)
   ·unfold Ot at hm ⊢;refine rl aE ?_;show ws.length+6*(2880-(ks.length+1))≤b;exact TS hm
   ·unfold DN
    have p2:(An r cs (R.getD r .fin)).length≤2:=by
     cases R.getD r .fin with
     |jump a=>exact (by decide:1≤2)
     |flip a=>exact (by decide:2≤2)
     |_=>exact aX 2
    refine rl aE (rl aE (rl aM (rl List.sum_append_nat ?_)))
    show 8*(2880-(ks.length+1))+2*((inn.map List.length).sum+((An r cs (R.getD r .fin)).length+0))+(fr.length+1)+0<8*(2880-ks.length)+2*(inn.map List.length).sum+fr.length+1
    exact TR p2 kl'
  |false=>
   have hro:Ih (R.getD r .fin):=erow ▸ Yj (uL hR bnd.1.1 bnd.1.2)
   cases hb:nA (R.getD r .fin) (atS ps s) with
   |false=>
    refine kR (KO f g8 gk hF hg bnd.2.1 bnd.2.2 hon hk (by exact L1 hkl) hr h240 hs hro hb) (.inr ⟨cs,_,ws,g.bad (erow ▸ hs) (erow ▸ hb),hx.ok,by exact L1 (aD hcl hkl),yZ hx.ok g.ki.wq⟩)
   |true=>
    have hp:eP (atS ps s):=dW (hg.stops _ (eQ bnd.2.1 bnd.2.2))
    have h6:(lets r cs (R.getD r .fin) (atS ps s)).length≤6:=Ym hp
    refine kR (Su f g8 gk hF hg bnd.2.1 bnd.2.2 hon hk (by exact L1 hkl) (by exact L1 (aD hwl (aW (cP _ hkl) (aN _)))) hr h240 (by exact L1 (aD hcl hkl)) hx.ok ((Yh hro).mp hb) hro.1) (hK _ _ _ _ none _ _ (erow ▸ g.letter hk (erow ▸ hs) (erow ▸ hb) (erow ▸ h6)) ?_ ?_)
    ·unfold Ot at hm ⊢;refine rl aE (rl aE ?_);show ws.length+_+6*(2880-(ks.length+1))≤b;exact TQ hm h6 kl'
    ·unfold DN
     refine rl aE ?_
     show 8*(2880-(ks.length+1))+2*(inn.map List.length).sum+fr.length+0<8*(2880-ks.length)+2*(inn.map List.length).sum+fr.length+1
     exact TP
 |none=>
  rcases List.eq_nil_or_concat fr with rfl | ⟨fr',⟨r,i⟩,efr⟩
  ·exact kR DG (.inl ⟨ks,ws,g.done,hm,yZ (v:=.none) (fun _=>rfl) g.ki.wq⟩)
  ·rw [List.concat_eq_append] at efr
   subst efr
   refine fU (g.fi (r,i) (List.mem_append_right _ aH)) fun l hl1 hl2 hl3=>?_
   have hl1:inn[i]? = some l:=hl1
   cases l with
   |nil=>
    refine kR (KN rfl g.on hl1 (by exact L1 (aD hfl hkl))) (hK ks ws fr' inn none _ _ (g.pop hl1) hm ?_)
    unfold DN
    refine rl aE ?_
    show _+fr'.length+0<_+(fr'.length+1)+0
    exact Nat.lt_succ_self _
   |cons x l=>
    have hlen2:l.length+1≤2:=hl2
    have hs:=sum_set hl1
    refine kR (DH rfl hl1 (by exact cS (Nat.lt_of_succ_le (L1 hlen2))) (by exact L1 (aD hfl hkl))) (hK ks ws _ (inn.set i l) (some x) _ _ (g.next hl1) hm ?_)
    unfold DN
    show 8*(2880-ks.length)+2*((inn.set i l).map List.length).sum+_+1<8*(2880-ks.length)+2*(inn.map List.length).sum+_+0
    exact TO hs
theorem Yn (hfu:23100≤fuel) {ks:List (Int×Int)}{ws:List (Int×Int×List V)}{e:Int×Int×List V}(bj:BJ R ps ks (e::ws)) :
  GZ R ps H (Ot ks ws) (F P fuel (k+4) 68 [.lst (R.map Row.v),.lst (ps.map dB.v),tC e,.ref H.length,.ref (H.length+1)] (cH H ks ws)):=by
 have hlen:(cH H ks ws).length=H.length+2:=by unfold cH;refine rl aE ?_;rfl
 refine JZ (Q:=GZ R ps H (Ot ks ws)) gk.gone_along rfl fun c hF hfuel=>?_
 refine kR (y:=dG c eG.body.tl.tl.tl.tl (gL R ps (tC e) H e.2.1 (some (e.1,e.2.2)) none none) (gH H ks ws [] []) (fun _ H1=>finish (cH H ks ws) H1 .none) (fun v H1=>finish (cH H ks ws) H1 v)) ?_ ?_
 ·show dG c eG.body.tl.tl.tl.tl [some (.lst (R.map Row.v)),some (.lst (ps.map dB.v)),some (tC e),some (.ref H.length),some (.ref (H.length+1)),some (.int e.2.1),some (.tup [.int e.1,.lst e.2.2]),some (.ref (cH H ks ws).length),some (.ref (cH H ks ws++[_]).length),none,none] (cH H ks ws++[_]++[_]) _ _=_
  rw [aE,hlen,show cH H ks ws++[V.lst []]++[V.dct false [] []]=gH H ks ws [] [] by unfold cH gH;refine rl (bC ..) (rl (bC ..) ?_);rfl]
  rfl
 refine yX (Z:=GZ R ps H (Ot ks ws)) (T:=VL) (fun t=>gL R ps (tC e) H e.2.1 t.2.2.2.2.1 t.2.2.2.2.2.1 t.2.2.2.2.2.2) (fun t=>gH H t.1 t.2.1 t.2.2.1 t.2.2.2.1) (fun t=>DN t.1 t.2.2.1 t.2.2.2.1 t.2.2.2.2.1) (fun t=>GJ R ps e.2.1 t.1 t.2.1 t.2.2.1 t.2.2.2.1 t.2.2.2.2.1∧Ot t.1 t.2.1≤Ot ks ws) (fun t K1 h hK1=>?_) c.fuel (ks,ws,[],[],some (e.1,e.2.2),none,none) ⟨.start bj,aN _⟩ ?_
 ·exact DO f g8 gk hg hR hF h.1 h.2 fun ks' ws' fr' inn' en' o o' g' m' l'=>hK1 (ks',ws',fr',inn',en',o,o') ⟨g',m'⟩ l'
 ·show DN ks [] [] (some _)<c.fuel
  unfold DN
  show 8*(2880-ks.length)+2*0+0+1<c.fuel
  exact aR (aR (N1 (aW (aW (aW (cP _ (N5 (aN _))) (aN _)) (aN _)) (aN _))) hfu) (A0 hfuel)
end
end
section
noncomputable def bL (R:List Row) (ps:List dB) (H:Hp) (o4 o5:Option V):Loc:=[some (.lst (R.map Row.v)),some (.lst (ps.map dB.v)),some (.ref H.length),some (.ref (H.length+1)),o4,o5]
theorem KQ {H:Hp}{ks:List (Int×Int)}{ws:List (Int×Int×List V)}:(cH H ks ws)[H.length+1]? = some (.lst (ws.map tC)):=dX (j:=1)
noncomputable def pO (R:List Row) (ps:List dB):Bool:=@decide (Keeps R ps) (Classical.propDecidable _)
theorem jP {R:List Row}{ps:List dB}:pO R ps=true↔Keeps R ps:=⟨fun h=>@bD _ (Classical.propDecidable _) h,fun h=>@aO _ (Classical.propDecidable _) h⟩
noncomputable def BZ (R:List Row) (ps:List dB) (H:Hp) (o:Option (V×Bool×Hp)):Prop:=∃v:V,isNone v=pO R ps∧(∀n,v.ok n=true)∧o=some (v,false,H)
section
variable {P:Nat→Option Fn}(gg:Gen P) (gx:GX P) (f:GF P) (g8:G8 P) (gk:GK P) {fuel k:Nat}{H:Hp}{R:List Row}{ps:List dB}(hg:dA ps) (hR:gF R)
include gg gx f g8 gk hg hR
theorem zA (hfu:23100≤fuel):BZ R ps H (F P fuel (k+5) 69 [.lst (R.map Row.v),.lst (ps.map dB.v)] H):=by
 refine JZ (Q:=BZ R ps H) gk.broken rfl fun c hF hfuel=>?_
 refine kR (cY ((hF _ _ _).trans (Sc gg g8 hR .lst)) rfl) ?_
 refine kR (cY ((hF _ _ _).trans (iV gg gx hg .lst)) rfl) ?_
 have loop:BZ R ps H (dG c sQ.body.tl.tl.tl.tl (bL R ps H none none) (cH H [] [(0,0,[])]) (fun _ H1=>finish H H1 .none) (fun v H1=>finish H H1 v)):=by
  refine yX (Z:=BZ R ps H) (T:=List (Int×Int)×List (Int×Int×List V)×Option V×Option V) (fun t=>bL R ps H t.2.2.1 t.2.2.2) (fun t=>cH H t.1 t.2.1) (fun t=>Ot t.1 t.2.1) (fun t=>BJ R ps t.1 t.2.1) ?_ c.fuel ([],[(0,0,[])],none,none) .zero ?_
  ·rintro ⟨ks,ws,o4,o5⟩ K1 bj hK1
   change BJ R ps ks ws at bj
   have hkl:=Lz hg hR bj.ki
   have hwl:=bj.ki.wl
   obtain ⟨nI,enI,hlen⟩:∃nI:Int,nI=ws.length∧dS (cH H ks ws) .len [.ref (H.length+1)]=some (.int nI):=⟨_,rfl,(jR KQ (by refine rl (aA ..) ?_;exact L1 (aD hwl (aW (cP _ hkl) (aN _))))).trans (by exact rl (aA ..) rfl)⟩
   refine kR (dC hlen rfl) ?_
   cases ws with
   |nil=>
    refine kR (dR (b:=decide (0<nI)) (aU (by refine rl enI ?_;decide)) rfl) ?_
    exact ⟨.none,(jP.mpr bj.keeps).symm,fun _=>rfl,kM (v:=.none) rfl⟩
   |cons e ws=>
    rw [bF] at enI hwl
    refine kR (eY (b:=decide (0<nI)) (aO (by exact Z3 (bI (Bc (aW (aX _) (aN _))) (A1 enI)))) rfl) ?_
    refine kR (dJ (eR KQ) rfl) ?_
    refine kR (eH (v:=(tC e,cH H ks ws)) ((KB (v:=tC e) (xs:=ws.map tC) KQ (by refine rl bF (rl (aA ..) ?_);exact L1 (aD hwl (aW (cP _ hkl) (aN _))))).trans (aQ (fun x=>some (tC e,x)) (fZ (j:=1)))) rfl) ?_
    rcases Yn f g8 gk (fuel:=fuel) (k:=k) (H:=H) hg hR hfu bj with ⟨ks',ws',b',m',e'⟩ | ⟨cs,ks',ws',nk,ho,hl,e'⟩
    ·refine kR (cY ((hF _ _ _).trans e') rfl) ?_
     refine hK1 (ks',ws',some (tC e),some .none) b' ?_
     show Ot ks' ws'<Ot ks (e::ws)
     unfold Ot at m' ⊢
     refine rl bF ?_;exact cR m' (Nat.add_lt_add_right (Nat.lt_succ_self _) _)
    ·refine kR (cY ((hF _ _ _).trans e') rfl) ?_
     refine kR (dJ (dP (xs:=cs) (by exact L1 hl)) rfl) ?_
     refine ⟨.lst cs,?_,ho,kM (v:=.lst cs) (ho _)⟩
     cases q:pO R ps with
     |false=>rfl
     |true=>exact absurd (jP.mp q) nk
  ·show 1+6*(2880-0)<c.fuel
   exact aR (N3 hfu) (A0 hfuel)
 refine kR ?_ loop
 show dG c sQ.body.tl.tl.tl.tl [some (.lst (R.map Row.v)),some (.lst (ps.map dB.v)),some (.ref H.length),some (.ref (H++[_]).length),none,none] (H++[V.dct false [] []]++[V.lst [.tup [.int 0,.int 0,.lst []]]]) _ _=_
 refine rl aE (rl (bC ..) ?_)
 rfl
theorem qE (hfu:23100≤fuel):F P fuel (k+6) 70 [.lst (R.map Row.v),.lst (ps.map dB.v)] H=some (.bool (pO R ps),false,H):=by
 refine fU (zA gg gx f g8 gk (k:=k) (H:=H) hg hR hfu) fun v hv _ e=>?_
 refine eV gk.keeps rfl fun c hF _=>?_
 refine cY ((hF _ _ _).trans e) ?_
 refine rr hv ?_
 exact gE
end
theorem Sv {R:List Row}{ps qs:List dB}{E:Int→Int→Prop}(h0:E 0 0) (hl:∀s t row,E s t→nA row (atS ps s)=nA row (atS qs t))
  (hn:∀r s t row,E s t→nA row (atS ps s)=true→∀y∈LW r row (atS ps s),∃z∈LW r row (atS qs t),z.1=y.1∧E y.2 z.2) (k:Keeps R qs):Keeps R ps:=by
 have go:∀r s,qN R ps r s→∃t,E s t∧qN R qs r t:=fun r s h=>by
  induction h with
  |zero=>exact ⟨0,h0,.zero⟩
  |sil _ hr ih=>
   refine dF ih fun t e h=>?_
   exact ⟨t,e,h.sil hr⟩
  |@lt r r' s s' _ hb hr ih=>
   refine dF ih fun t e h=>?_
   refine fU (hn r s t (fQ R r) e hb _ hr) fun z hz z1 z2=>?_
   refine ⟨z.2,z2,h.lt (by refine rr (hl _ _ _ e) ?_;exact hb) ?_⟩
   rw [show (r',z.2)=z by rw [←show z.1=r' from z1]]
   exact hz
 refine ⟨fun r s h=>(go r s h).elim fun t q=>k.term r t q.2,fun r s h=>(go r s h).elim fun t q=>(k.ok r t q.2).imp_right fun b=>?_⟩
 refine rl (hl _ _ _ q.1) ?_;exact b
end
section
theorem Ov {x:Str×Int}:∀{ws:List (Str×Int)},(ws.map (·.1)).Nodup→x∈ws→find ws x.1=some x.2
 |[],_,h=>(nomatch h)
 |y::ws,hn,h=>by
  have hn:=cA.mp hn
  refine rl kZ ?_
  rcases aZ.mp h with rfl | h
  ·exact rl (if_pos rfl) rfl
  ·refine rl (if_neg fun e=>hn.1 (aJ.mpr ⟨x,h,e.symm⟩)) ?_
   exact Ov hn.2 h
section
variable {α β:Type}[DecidableEq α] [DecidableEq β]
noncomputable def qO (ks:List α) (k:α):List α:=if k∈ks then ks else ks++[k]
noncomputable def dM (l:List α):List α:=l.foldl qO []
theorem Yo {ks:List α}{k x:α}:x∈qO ks k↔x∈ks∨x=k:=by
 unfold qO
 split
 ·rename_i h
  exact ⟨.inl,fun q=>q.elim id fun e=>e ▸ h⟩
 ·exact ri aY (ri aG Iff.rfl)
theorem Ma {ks:List α}{k:α}(h:ks.Nodup):(qO ks k).Nodup:=by
 unfold qO
 split
 ·exact h
 ·rename_i hk
  exact cT.mpr ⟨h,cA.mpr ⟨cE,cG⟩,fun a ha b hb e=>hk (by rw [aG.mp hb] at e;exact e ▸ ha)⟩
theorem uM:∀(l ks:List α),ks.Nodup→(l.foldl qO ks).Nodup∧∀x,x∈l.foldl qO ks↔x∈ks∨x∈l
 |[],ks,h=>⟨h,fun x=>⟨.inl,fun q=>q.elim id fun e=>nomatch e⟩⟩
 |k::l,ks,h=>by
  obtain ⟨h1,h2⟩:=uM l (qO ks k) (Ma h)
  refine ⟨h1,fun x=>(h2 x).trans ?_⟩
  exact ri Yo (ri aZ (ri or_assoc Iff.rfl))
theorem oB (l:List α):(dM l).Nodup:=(uM l [] cG).1
theorem iR {l:List α}{x:α}:x∈dM l↔x∈l:=((uM l [] cG).2 x).trans ⟨fun q=>q.elim (fun e=>nomatch e) id,.inr⟩
theorem Im (l:List α) (k:α):dM (l++[k])=qO (dM l) k:=by unfold dM;refine rl List.foldl_append ?_;rfl
theorem DP {l:List α}{x y:α}(hx:x∈l) (h:l.idxOf x=l.idxOf y):x=y:=by
 have h1:l[l.idxOf x]'(List.idxOf_lt_length_of_mem hx)=x:=List.getElem_idxOf _
 have hy:l.idxOf y<l.length:=h ▸ List.idxOf_lt_length_of_mem hx
 have h2:l[l.idxOf y]'hy=y:=List.getElem_idxOf _
 refine rr h1 (rr h2 ?_)
 congr 1
noncomputable def cnt (n:Nat) (f:Nat→α):Nat:=(dM ((List.range n).map f)).length
theorem KR (n:Nat) (f:Nat→α):cnt n f≤n:=by
 have:=gA (oB ((List.range n).map f)) fun x hx=>iR.mp hx
 rwa [aA,bE] at this
theorem El {n:Nat}{f:Nat→α}{x:α}:x∈dM ((List.range n).map f)↔∃i,i<n∧f i=x:=by
 refine ri iR (ri aJ ?_)
 exact ⟨fun ⟨i,h,e⟩=>⟨i,List.mem_range.mp h,e⟩,fun ⟨i,h,e⟩=>⟨i,List.mem_range.mpr h,e⟩⟩
variable {n:Nat}{f:Nat→α}{g:Nat→β}
theorem OW (ref:∀i j,i<n→j<n→f i=f j→g i=g j):∃l:List α,l.Nodup∧l.length=cnt n g∧∀x∈l,∃i,i<n∧f i=x∧∀j,j<n→g j=g i→∀z∈l,f j=z→z=x:=by
 have hr:∀y:β,∃i,y∈dM ((List.range n).map g)→i<n∧g i=y:=fun y=>by
  by_cases h:y∈dM ((List.range n).map g)
  ·obtain ⟨i,q⟩:=El.mp h
   exact ⟨i,fun _=>q⟩
  ·exact ⟨0,fun q=>absurd q h⟩
 have rep:=fun y=>Classical.choose_spec (hr y)
 have h1:((dM ((List.range n).map g)).map fun y=>f (Classical.choose (hr y))).Nodup:=List.pairwise_map.mpr ((oB _).imp_of_mem fun {a b} ha hb hne e=>hne (by
  have:=ref _ _ (rep a ha).1 (rep b hb).1 e
  rw [(rep a ha).2,(rep b hb).2] at this
  exact this))
 refine ⟨_,h1,aA ..,fun x hx=>?_⟩
 refine dF (aJ.mp hx) fun y hy e_e=>?_;subst e_e
 refine ⟨_,(rep y hy).1,rfl,fun j hj hg z hz e=>?_⟩
 refine dF (aJ.mp hz) fun y' hy' e_e=>?_;subst e_e
 have:=ref _ _ hj (rep y' hy').1 e
 rw [hg,(rep y hy).2,(rep y' hy').2] at this
 exact rl this rfl
theorem Yp (ref:∀i j,i<n→j<n→f i=f j→g i=g j):cnt n g≤cnt n f:=by
 refine fU (OW ref) fun l h1 h2 h3=>?_
 refine rr h2 ?_
 exact gA h1 fun x hx=>El.mpr (by refine fU (h3 x hx) fun i a b _=>?_;exact ⟨i,a,b⟩)
theorem DQ (ref:∀i j,i<n→j<n→f i=f j→g i=g j) (hc:cnt n g=cnt n f) {i j:Nat}(hi:i<n) (hj:j<n) (e:g i=g j):f i=f j:=bK fun hne=>by
 refine fU (OW ref) fun l h1 h2 h3=>?_
 have key:∀z,(∃i,i<n∧f i=z)→z∈l:=fun z hz=>bK fun hn=>by
  have:(z::l).length≤cnt n f:=gA (cA.mpr ⟨hn,h1⟩) fun x hx=>El.mpr (by
   rcases aZ.mp hx with rfl | hx
   ·exact hz
   ·refine fU (h3 x hx) fun i a b _=>?_;exact ⟨i,a,b⟩)
  rw [bF] at this
  omega
 refine fU (h3 (f i) (key _ ⟨i,hi,rfl⟩)) fun i0 a b c=>?_
 have q:=ref _ _ a hi b
 exact hne (c j hj (e.symm.trans q.symm) (f j) (key _ ⟨j,hj,rfl⟩) rfl).symm
end
noncomputable def gl (p:dB) (w:Str):Nat:=(lS p.ways w).toNat
noncomputable def kV (g:Nat→Nat) (p:dB):V:=.tup [.str p.kd,.tup (p.ways.map fun x=>.tup [.str x.1,.int (g x.2.toNat)])]
structure RB (g:Nat→Nat) (p q:dB):Prop where
 kd:p.kd=q.kd
 words:p.words=q.words
 go:∀w∈p.words,g (gl p w)=g (gl q w)
theorem Yq {ws:List (Str×Int)}(h:(ws.map (·.1)).Nodup):ws=(ws.map (·.1)).map fun w=>(w,lS ws w):=by
 refine rl bJ ?_
 refine (List.map_id ws).symm.trans (List.map_congr_left fun x hx=>?_)
 show x=(x.1,lS ws x.1)
 unfold lS
 refine rl (Ov h (show (x.1,x.2)∈ws from hx)) ?_
 rfl
theorem HI (g:Nat→Nat) {p:dB}(hp:eP p):kV g p=.tup [.str p.kd,.tup (p.words.map fun w=>.tup [.str w,.int (g (gl p w))])]:=by
 unfold kV
 congr 3
 refine rl (show p.ways.map (fun x=>V.tup [.str x.1,.int (g x.2.toNat)])=((p.ways.map (·.1)).map fun w=>(w,lS p.ways w)).map (fun x=>V.tup [.str x.1,.int (g x.2.toNat)]) from aQ _ (Yq hp.2.2)) (rl bJ ?_)
 rfl
theorem Yr {g:Nat→Nat}{p q:dB}(hp:eP p) (hq:eP q):kV g p=kV g q↔RB g p q:=by
 refine rl (HI g hp) (rl (HI g hq) ?_)
 constructor
 ·intro e
  rw [V.tup.injEq,List.cons.injEq,List.cons.injEq,V.str.injEq,V.tup.injEq] at e
  refine iE e fun e1 e2 _=>?_
  have hw:p.words=q.words:=by
   have:=aQ (List.map fun v=>match v with | .tup [.str s,_]=>s | _=>Str.empty) e2
   rw [bJ,bJ] at this
   exact (List.map_id _).symm.trans (this.trans (List.map_id _))
  refine ⟨e1,hw,fun w hm=>?_⟩
  rw [←hw] at e2
  have:=List.map_inj_left.mp e2 w hm
  rw [V.tup.injEq,List.cons.injEq,List.cons.injEq,V.int.injEq] at this
  exact Int.ofNat_inj.mp this.2.1
 ·intro ⟨h1,h2,h3⟩
  refine rl h1 (rr h2 ?_)
  have e:p.words.map (fun w=>V.tup [.str w,.int (g (gl p w))])=p.words.map (fun w=>V.tup [.str w,.int (g (gl q w))]):=List.map_congr_left fun w hw=>by exact rl (h3 w hw) rfl
  exact rl e rfl
end
section
noncomputable def gU (ps:List dB) (i:Nat):dB:=ps.getD i .fin
noncomputable def tE (ps:List dB) (g:Nat→Nat):List V:=ps.map (kV g)
noncomputable def rd (ps:List dB) (g:Nat→Nat) (i:Nat):Nat:=(dM (tE ps g)).idxOf (kV g (gU ps i))
noncomputable def gK (ps:List dB):Nat→Nat→Nat
 |0=>fun _=>0
 |k+1=>rd ps (gK ps k)
noncomputable def cK (ps:List dB) (k:Nat):Nat:=(dM (tE ps (gK ps k))).length
noncomputable def many (ps:List dB):Nat→Nat
 |0=>0
 |k+1=>cK ps k
section
variable {ps:List dB}
theorem uN:(List.range ps.length).map (gU ps)=ps:=by
 refine List.ext_getElem (by exact rl (aA ..) (rl bE rfl)) fun i h1 h2=>?_
 refine rl (List.getElem_map ..) (rl (List.getElem_range ..) ?_)
 exact dL h2
theorem zB (ps:List dB) (k:Nat):cK ps k=cnt ps.length fun i=>kV (gK ps k) (gU ps i):=by
 have e:tE ps (gK ps k)=(List.range ps.length).map fun i=>kV (gK ps k) (gU ps i):=by
  refine (aQ (List.map (kV (gK ps k))) (uN (ps:=ps)).symm).trans ?_
  refine rl bJ ?_
  rfl
 unfold cK cnt
 exact rl e rfl
theorem jS {i:Nat}(h:i<ps.length):gU ps i∈ps:=by
 unfold gU;refine rl (dL h) ?_;exact cM _
variable (hg:dA ps)
include hg
theorem qF {i:Nat}(h:i<ps.length):eP (gU ps i):=dW (hg.stops _ (jS h))
theorem zC {i:Nat}(h:i<ps.length) {w:Str}(hw:w∈(gU ps i).words):gl (gU ps i) w<ps.length:=by
 have:=lT (hg.stops _ (jS h)) hw
 unfold gl
 exact A2 this.1 this.2
theorem wJ (k:Nat) {i j:Nat}(hi:i<ps.length) (hj:j<ps.length):gK ps (k+1) i=gK ps (k+1) j↔RB (gK ps k) (gU ps i) (gU ps j):=by
 refine rj (Yr (qF hg hi) (qF hg hj)) ?_
 refine ⟨fun h=>DP (iR.mpr (aJ.mpr ⟨_,jS hi,rfl⟩)) h,fun h=>?_⟩
 show (dM _).idxOf _=(dM _).idxOf _
 exact rl h rfl
theorem wK:∀(k:Nat) {i j:Nat},i<ps.length→j<ps.length→gK ps (k+1) i=gK ps (k+1) j→gK ps k i=gK ps k j
 |0,_,_,_,_,_=>rfl
 |k+1,i,j,hi,hj,h=>by
  obtain ⟨h1,h2,h3⟩:=(wJ hg (k+1) hi hj).mp h
  exact (wJ hg k hi hj).mpr ⟨h1,h2,fun w hw=>wK k (zC hg hi hw) (zC hg hj (h2 ▸ hw)) (h3 w hw)⟩
theorem uO (k:Nat) {i j:Nat}(hi:i<ps.length) (hj:j<ps.length):kV (gK ps k) (gU ps i)=kV (gK ps k) (gU ps j)↔gK ps (k+1) i=gK ps (k+1) j:=
 (Yr (qF hg hi) (qF hg hj)).trans (wJ hg k hi hj).symm
theorem Ow (k:Nat):cK ps k≤cK ps (k+1):=by
 refine rl (zB ..) (rl (zB ..) ?_)
 exact Yp fun i j hi hj e=>(uO hg k hi hj).mpr (wK hg (k+1) hi hj ((uO hg (k+1) hi hj).mp e))
theorem DR {k:Nat}(hc:cK ps (k+1)=cK ps k) {i j:Nat}(hi:i<ps.length) (hj:j<ps.length) (e:gK ps (k+1) i=gK ps (k+1) j):gK ps (k+2) i=gK ps (k+2) j:=by
 rw [zB,zB] at hc
 exact (uO hg (k+1) hi hj).mp (DQ (fun i j hi hj e=>(uO hg k hi hj).mpr (wK hg (k+1) hi hj ((uO hg (k+1) hi hj).mp e))) hc.symm hi hj ((uO hg k hi hj).mpr e))
omit hg in
theorem Ys (k:Nat):cK ps k≤ps.length:=by refine rl (zB ..) ?_;exact KR _ _
theorem KS (k:Nat):1≤cK ps k:=by
 have h0:0<ps.length:=hg.lo
 have:kV (gK ps k) (gU ps 0)∈dM (tE ps (gK ps k)):=iR.mpr (aJ.mpr ⟨_,jS h0,rfl⟩)
 exact List.length_pos_of_mem this
theorem stops:∃k,cK ps k=many ps k∧(∀j,j<k→cK ps j≠many ps j)∧k≤ps.length:=by
 have go:∀m k,(∀j,j<k→cK ps j≠many ps j)→k≤many ps k→ps.length-many ps k≤m→∃k,cK ps k=many ps k∧(∀j,j<k→cK ps j≠many ps j)∧k≤ps.length:=by
  intro m
  induction m with
  |zero=>
   intro k hn hk hm
   have h1:=Ys (ps:=ps) k
   have h2:many ps k≤cK ps k:=by
    cases k with
    |zero=>exact aX _
    |succ k=>exact Ow hg k
   exact ⟨k,by exact TW h2 hm h1,hn,by exact aD hk (aD h2 h1)⟩
  |succ m ih=>
   intro k hn hk hm
   have h1:=Ys (ps:=ps) k
   have h2:many ps k≤cK ps k:=by
    cases k with
    |zero=>exact aX _
    |succ k=>exact Ow hg k
   by_cases q:cK ps k=many ps k
   ·exact ⟨k,q,hn,by exact aD hk (aD (A0 q) h1)⟩
   ·have h3:many ps (k+1)=cK ps k:=rfl
    refine ih (k+1) (fun j hj=>?_) (by exact TV q h3 h2 hk) (by exact TU q h3 h2 hm)
    rcases Nat.lt_succ_iff_lt_or_eq.mp hj with h | rfl
    ·exact hn j h
    ·exact q
 exact go ps.length 0 (fun j hj=>absurd hj (Nat.not_lt_zero j)) (aX _) (Nat.sub_le _ _)
end
open Classical in
noncomputable def kS (ps:List dB):Nat:=if h:∃k,cK ps k=many ps k∧(∀j,j<k→cK ps j≠many ps j)∧k≤ps.length then Classical.choose h else 0
noncomputable def wL (ps:List dB):Nat→Nat:=gK ps (kS ps+1)
section
variable {ps:List dB}(hg:dA ps)
include hg
theorem Ox:cK ps (kS ps)=many ps (kS ps)∧(∀j,j<kS ps→cK ps j≠many ps j)∧kS ps≤ps.length:=by
 have h:=stops hg
 unfold kS
 refine rl (dif_pos h) ?_
 exact Classical.choose_spec h
theorem KT:∃k,kS ps=k+1∧cK ps (k+1)=cK ps k:=by
 have h:=(Ox hg).1
 cases q:kS ps with
 |zero=>
  rw [q] at h
  have:=KS hg 0
  have h':cK ps 0=0:=h
  omega
 |succ k=>
  rw [q] at h
  exact ⟨k,rfl,h⟩
theorem Em {i j:Nat}(hi:i<ps.length) (hj:j<ps.length):wL ps i=wL ps j↔RB (wL ps) (gU ps i) (gU ps j):=by
 refine dF (KT hg) fun k e hc=>?_
 unfold wL
 refine rl e ?_
 refine (wJ hg (k+1) hi hj).trans ⟨fun ⟨h1,h2,h3⟩=>⟨h1,h2,fun w hw=>DR hg hc (zC hg hi hw) (zC hg hj (h2 ▸ hw)) (h3 w hw)⟩,fun ⟨h1,h2,h3⟩=>⟨h1,h2,fun w hw=>wK hg (k+1) (zC hg hi hw) (zC hg hj (h2 ▸ hw)) (h3 w hw)⟩⟩
end
end
section
noncomputable def goals (p:dB):List Nat:=p.ways.map (·.2.toNat)
noncomputable def Io (R:Nat→Nat) (o:List Nat) (g:Nat):List Nat:=if R g∈o.map R then o else o++[g]
noncomputable def lY (R:Nat→Nat) (o gs:List Nat):List Nat:=gs.foldl (Io R) o
noncomputable def bf (R:Nat→Nat) (ps:List dB):Nat→List Nat
 |0=>[0]
 |t+1=>lY R (bf R ps t) (goals (gU ps ((bf R ps t).getD t 0)))
theorem OX {P:Nat→Prop}{n:Nat}(h:P n):∃t,P t∧(∀j,j<t→¬P j)∧t≤n:=by
 induction n using Nat.strongRecOn with
 |ind n ih=>
  by_cases q:∃j,j<n∧P j
  ·refine dF q fun j hj hp=>?_
   refine fU (ih j hj hp) fun t a b c=>?_
   exact ⟨t,a,b,by exact aD c (cI hj)⟩
  ·exact ⟨n,h,fun j hj hp=>q ⟨j,hj,hp⟩,aN _⟩
structure DS (R:Nat→Nat) (n:Nat) (o:List Nat):Prop where
 nd:(o.map R).Nodup
 lt:∀i∈o,i<n
theorem DS.len {R:Nat→Nat}{n:Nat}{o:List Nat}(h:DS R n o):o.length≤n:=by
 have h1:o.Nodup:=(List.pairwise_map.mp h.nd).imp fun hne e=>hne (by exact rl e rfl)
 have:=gA h1 fun x hx=>List.mem_range.mpr (h.lt x hx)
 rwa [bE] at this
theorem Cj {R:Nat→Nat}{n:Nat}{o:List Nat}{g:Nat}(h:DS R n o) (hl:g<n):DS R n (Io R o g)∧o <+: Io R o g∧R g∈(Io R o g).map R:=by
 unfold Io
 split
 ·rename_i q;exact ⟨h,List.prefix_refl _,q⟩
 ·rename_i q
  refine ⟨⟨?_,fun i hi=>?_⟩,List.prefix_append _ _,?_⟩
  ·refine rl aM ?_
   exact cT.mpr ⟨h.nd,cA.mpr ⟨cE,cG⟩,fun a ha b hb e=>q (by rw [aG.mp hb] at e;exact e ▸ ha)⟩
  ·rcases aY.mp hi with hi | hi
   ·exact h.lt i hi
   ·refine rl (aG.mp hi) ?_;exact hl
  ·refine rl aM ?_;exact aY.mpr (.inr (aG.mpr rfl))
theorem Oy {R:Nat→Nat}{a b:List Nat}(h:a <+: b) {x:Nat}(hx:x∈a.map R):x∈b.map R:=by
 refine dF (aJ.mp hx) fun y hy e_e=>?_;subst e_e
 exact aJ.mpr ⟨y,h.subset hy,rfl⟩
theorem pP {R:Nat→Nat}{n:Nat}:∀{gs o:List Nat},DS R n o→(∀g∈gs,g<n)→DS R n (lY R o gs)∧o <+: lY R o gs∧∀g∈gs,R g∈(lY R o gs).map R
 |[],o,h,_=>⟨h,List.prefix_refl _,fun _ m=>nomatch m⟩
 |g::gs,o,h,hl=>by
  refine iE (Cj h (hl g aH)) fun h1 h2 h3=>?_
  refine iE (pP (gs:=gs) h1 fun x hx=>hl x (aT _ hx)) fun k1 k2 k3=>?_
  refine ⟨k1,h2.trans k2,fun x hx=>?_⟩
  rcases aZ.mp hx with rfl | hx
  ·exact Oy k2 h3
  ·exact k3 x hx
section
variable {R:Nat→Nat}{ps:List dB}(hg:dA ps)
include hg
theorem Ip {i:Nat}(h:i<ps.length):∀g∈goals (gU ps i),g<ps.length:=fun g m=>by
 refine dF (aJ.mp m) fun x hx e_e=>?_;subst e_e
 have h1:=hg.stops _ (jS h)
 cases q:gU ps i with
 |fin=>rw [q] at hx;cases hx
 |go b ws=>
  rw [q] at hx h1
  have:=h1.goals x hx
  exact TX this.1 this.2
theorem rQ:∀t,DS R ps.length (bf R ps t)∧1≤(bf R ps t).length
 |0=>⟨⟨cA.mpr ⟨cE,cG⟩,fun i hi=>by refine rl (aG.mp hi) ?_;exact hg.lo⟩,aN _⟩
 |t+1=>by
  obtain ⟨h1,h2⟩:=rQ t
  have hi:(bf R ps t).getD t 0<ps.length:=by
   by_cases q:t<(bf R ps t).length
   ·refine rl (dL q) ?_;exact h1.lt _ (cM _)
   ·refine rl (bA) (rl (List.getElem?_eq_none (Nat.le_of_not_lt q)) ?_);exact hg.lo
  refine iE (pP h1 (Ip hg hi)) fun k1 k2 _=>?_
  exact ⟨k1,aD h2 k2.length_le⟩
theorem Oz {t:Nat}(ht:t<(bf R ps t).length):bf R ps t <+: bf R ps (t+1)∧∀g∈goals (gU ps ((bf R ps t).getD t 0)),R g∈(bf R ps (t+1)).map R:=by
 have hi:(bf R ps t).getD t 0<ps.length:=by refine rl (dL ht) ?_;exact (rQ hg t).1.lt _ (cM _)
 exact (pP (rQ hg t).1 (Ip hg hi)).2
theorem KU:∃t,(bf R ps t).length≤t∧(∀j,j<t→¬(bf R ps j).length≤j)∧t≤ps.length:=OX (rQ hg ps.length).1.len
end
open Classical in
noncomputable def tS (R:Nat→Nat) (ps:List dB):Nat:=if h:∃t,(bf R ps t).length≤t∧(∀j,j<t→¬(bf R ps j).length≤j)∧t≤ps.length then Classical.choose h else 0
noncomputable def lA (R:Nat→Nat) (ps:List dB):List Nat:=bf R ps (tS R ps)
noncomputable def nw (R:Nat→Nat) (ps:List dB) (i:Nat):Nat:=((lA R ps).map R).idxOf (R i)
noncomputable def pQ (s:Nat→Nat):dB→dB
 |.fin=>.fin
 |.go b ws=>.go b (ws.map fun x=>(x.1,(s x.2.toNat:Int)))
noncomputable def pR (R:Nat→Nat) (ps:List dB):List dB:=(lA R ps).map fun i=>pQ (nw R ps) (gU ps i)
section
variable {R:Nat→Nat}{ps:List dB}(hg:dA ps)
include hg
theorem qG:(bf R ps (tS R ps)).length≤tS R ps∧(∀j,j<tS R ps→j<(bf R ps j).length)∧tS R ps≤ps.length:=by
 have h:=KU (R:=R) hg
 unfold tS
 refine rl (dif_pos h) ?_
 have s:=Classical.choose_spec h
 exact ⟨s.1,fun j hj=>Nat.lt_of_not_le (s.2.1 j hj),s.2.2⟩
theorem Mb {t u:Nat}(h:t≤u) (hu:u≤tS R ps):bf R ps t <+: bf R ps u:=by
 induction u with
 |zero=>refine rl (Nat.le_zero.mp h) ?_;exact List.prefix_refl _
 |succ u ih=>
  rcases Nat.lt_or_eq_of_le h with q | rfl
  ·exact (ih (cS q) (by exact cI (Nat.lt_of_succ_le hu))).trans (Oz hg ((qG hg).2.1 u (by exact Nat.lt_of_succ_le hu))).1
  ·exact List.prefix_refl _
theorem qH:(lA R ps).length=tS R ps:=by
 refine iE (qG (R:=R) hg) fun h1 h2 h3=>?_
 refine Nat.le_antisymm h1 ?_
 cases q:tS R ps with
 |zero=>exact aX _
 |succ t=>
  have h4:=h2 t (by exact Nat.lt_of_succ_le (A0 q))
  have:=(Mb (R:=R) hg (t:=t) (u:=tS R ps) (by exact cI (Nat.lt_of_succ_le (A0 q))) (aN _)).length_le
  unfold lA
  exact Nat.succ_le_of_lt (aR h4 this)
theorem Pa {t:Nat}(ht:t<tS R ps):(bf R ps t).getD t 0=(lA R ps).getD t 0:=by
 have h:=(qG (R:=R) hg).2.1 t ht
 obtain ⟨r,hr⟩:=Mb (R:=R) hg (t:=t) (u:=tS R ps) (cI ht) (aN _)
 unfold lA
 exact rr hr (rl (bA) (rl (bA) (rl (bH h) rfl)))
theorem zD {t:Nat}(ht:t<tS R ps):∀g∈goals (gU ps ((lA R ps).getD t 0)),R g∈(lA R ps).map R:=fun g m=>by
 rw [←Pa hg ht] at m
 exact Oy (Mb hg (show t+1≤tS R ps from ht) (aN _)) ((Oz hg ((qG hg).2.1 t ht)).2 g m)
theorem En:1≤tS R ps:=by refine rr (qH hg) ?_;exact (rQ hg _).2
theorem Eo {t:Nat}(ht:t<tS R ps):(lA R ps).getD t 0<ps.length:=by
 rw [dL (by refine rl (qH hg) ?_;exact ht)]
 exact (rQ hg _).1.lt _ (cM _)
theorem KV {i:Nat}(h:R i∈(lA R ps).map R):nw R ps i<tS R ps∧R i=R ((lA R ps).getD (nw R ps i) 0):=by
 have h1:nw R ps i<((lA R ps).map R).length:=List.idxOf_lt_length_of_mem h
 have h2:((lA R ps).map R)[nw R ps i]'h1=R i:=List.getElem_idxOf _
 rw [aA] at h1
 rw [List.getElem_map] at h2
 exact ⟨by refine rr (qH hg) ?_;exact h1,by refine rl (dL h1) ?_;exact h2.symm⟩
end
end
section
section
variable {s:Nat→Nat}{p:dB}
theorem DT:(pQ s p).kd=p.kd:=by cases p <;> rfl
theorem Ck:(pQ s p).ways=p.ways.map fun x=>(x.1,(s x.2.toNat:Int)):=by cases p <;> rfl
theorem zE:(pQ s p).words=p.words:=by unfold dB.words;refine rl Ck (rl bJ ?_);rfl
theorem zF {f:Int→Int}{w:Str}:∀ws:List (Str×Int),find (ws.map fun x=>(x.1,f x.2)) w=(find ws w).map f
 |[]=>rfl
 |x::ws=>by
  have ih:=zF (f:=f) (w:=w) ws
  show find ((x.1,f x.2)::ws.map fun x=>(x.1,f x.2)) w=_
  refine rl kZ (rl kZ (rl ih ?_))
  by_cases q:x.1=w
  ·refine rl (if_pos q) (rl (if_pos q) ?_);rfl
  ·exact rl (if_neg q) (rl (if_neg q) rfl)
theorem DU {w:Str}(hw:w∈p.words):gl (pQ s p) w=s (gl p w):=by
 unfold gl lS
 refine rl Ck (rl (zF (f:=fun i=>(s i.toNat:Int)) ..) (rl (iL hw) ?_))
 rfl
theorem Ep {f:Int→Int}:∀{ws:List (Str×Int)}{last:Str},Rp last ws→Rp last (ws.map fun x=>(x.1,f x.2))
 |[],_,_=>trivial
 |_::_,_,h=>⟨h.1,Ep h.2⟩
theorem Sw {n m:Nat}(h:eI n p) (hs:∀g∈goals p,s g<m):eI m (pQ s p):=by
 cases p with
 |fin=>trivial
 |go b ws=>
  have h:eA n ws:=h
  refine ⟨by refine rl (aA ..) ?_;exact h.lo,by refine rl (aA ..) ?_;exact h.hi,fun x hx=>?_,fun x hx=>?_,Ep (f:=fun i=>(s i.toNat:Int)) h.asc⟩
  ·refine dF (aJ.mp hx) fun y hy e_e=>?_;subst e_e
   exact h.words y hy
  ·refine dF (aJ.mp hx) fun y hy e_e=>?_;subst e_e
   have:=hs y.2.toNat (aJ.mpr ⟨y,hy,rfl⟩)
   dsimp only
   exact ⟨(Z2 (Bc (aX _))),(Z5 (FG this))⟩
theorem Yt {w:Str}(hw:w∈p.words):gl p w∈goals p:=aJ.mpr ⟨_,mV (iL hw),rfl⟩
end
section
variable {R:Nat→Nat}{ps:List dB}(hg:dA ps)
include hg
theorem nB:(pR R ps).length=tS R ps:=by unfold pR;exact rl (aA ..) (rl (qH hg) rfl)
theorem Iq {a:Nat}(ha:a<tS R ps):gU (pR R ps) a=pQ (nw R ps) (gU ps ((lA R ps).getD a 0)):=by
 have h1:a<(lA R ps).length:=by refine rl (qH hg) ?_;exact ha
 unfold pR
 rw [gU,dL (by refine rl (aA ..) ?_;exact h1),List.getElem_map,dL h1]
theorem Pb {a:Nat}(ha:a<tS R ps) {g:Nat}(h:g∈goals (gU ps ((lA R ps).getD a 0))):nw R ps g<tS R ps∧R g=R ((lA R ps).getD (nw R ps g) 0):=KV hg (zD hg ha g h)
theorem Mc:dA (pR R ps) where
 lo:=by refine rl (nB hg) ?_;exact En hg
 hi:=by refine rl (nB hg) ?_;exact aD (qG hg).2.2 hg.hi
 stops:=fun p hp=>by
  refine rl (nB hg) ?_
  obtain ⟨a,ha,e⟩:=List.getElem_of_mem hp
  have ha':a<tS R ps:=by rw [nB hg] at ha;exact ha
  have:p=gU (pR R ps) a:=by unfold gU;exact rl (dL ha) (rl e rfl)
  refine rl this (rl (Iq hg ha') ?_)
  exact Sw (hg.stops _ (jS (Eo hg ha'))) fun g hm=>(Pb hg ha' hm).1
end
end
section
noncomputable def iS (ps:List dB):List dB:=pR (wL ps) ps
section
variable {ps:List dB}(hg:dA ps)
include hg
theorem iT:dA (iS ps):=Mc hg
theorem Cl:(iS ps).length=tS (wL ps) ps:=nB hg
theorem tG {a:Nat}(ha:a<tS (wL ps) ps):gU (iS ps) a=pQ (nw (wL ps) ps) (gU ps ((lA (wL ps) ps).getD a 0)):=Iq hg ha
end
end
section
theorem Er {H K:Hp}{i:Nat}{xs:List V}(hi:H.length≤i) (hg:(H++K)[i]? = some (.lst xs)) (h:V.oks H.length xs=true):finish H (H++K) (.ref i)=some (.lst xs,true,H):=by
 have hno:(V.ref i).ok H.length=false:=aU (Nat.not_lt.mpr hi)
 have hf:mD (H++K) H.length 6 (.ref i)=some (.lst xs):=by
  unfold mD
  refine rl hno ?_
  exact cW hg (by show (fF _ xs).map V.lst=_;refine rl (sS h) ?_;rfl)
 unfold finish
 refine cW hf (dJ (mQ _ _ _) ?_)
 refine rl List.take_left ?_
 have:mE (H++K) H.length (.ref i)=true:=by
  show (decide (_≤_)&&(match (H++K)[i]? with | some o=>(iZ o).isSome&&o.ok H.length | none=>false))=true
  refine rl hg (rl (aO hi) ?_)
  exact h
 exact rl this rfl
section
variable {β:Type}{H:Hp}{z:Option β}{i:Nat}{ks vs:List V}{eb:Bool}
theorem wM (h:H[i]? = some (.dct eb ks vs)):gY H (.ref i)=some (ks,vs):=cW h rfl
theorem Es (h:H[i]? = some (.dct eb ks vs)):rW H (.ref i)=true:=by show ((H[i]?).bind oG).isSome=true;refine rl h ?_;rfl
theorem Pc (h:H[i]? = some (.dct eb ks vs)) (hl:ks.length≤1100000):MI H (.ref i)=some (i,eb,ks,vs):=cW (o:=refOf _) rfl (cW h (dJ (dP hl) rfl))
theorem tH (h:H[i]? = some (.dct eb ks vs)) (hl:ks.length≤1100000):dS H .len [.ref i]=some (.int ks.length):=by
 show AR H (.ref i)=_
 unfold AR
 dsimp only
 refine rl (wM h) ?_
 exact dJ (dP hl) rfl
theorem zG {k d v:V}(h:H[i]? = some (.dct eb ks vs)) (hl:ks.length≤1100000) (hk:fA ks k=true) (hf:dfind ks vs k=some v):kJ H (.ref i) k d=some (v,H):=by
 refine cW (Pc h hl) (dJ hk ?_)
 dsimp only
 exact rl hf rfl
theorem zH {k d:V}(h:H[i]? = some (.dct eb ks vs)) (hl:ks.length≤1100000) (hk:fA ks k=true) (hf:dfind ks vs k=none):kJ H (.ref i) k d=some (d,H.set i (.dct eb (ks++[k]) (vs++[d]))):=by
 refine cW (Pc h hl) (dJ hk ?_)
 dsimp only
 exact rl hf rfl
theorem DV {k v:V}(h:H[i]? = some (.dct eb ks vs)) (hk:fA ks k=true) (hf:dfind ks vs k=some v):fH H (.ref i) k=some v:=by
 unfold fH
 dsimp only
 refine rl (wM h) ?_
 exact dJ hk hf
theorem Sx {k:V}(h:H[i]? = some (.dct eb ks vs)) (hk:fA ks k=true):fV H .NotIn k (.ref i)=some (!decide (k∈ks)):=by
 refine cW (o:=HV H k (.ref i)) ?_ rfl
 show (match gY H (.ref i) with | some q=>gd (fA q.1 k) (some (decide (k∈q.1))) | none=>oM H k (.ref i))=_
 refine rl (wM h) ?_
 exact dJ hk rfl
theorem Yu {k:V}(h:H[i]? = some (.dct eb ks vs)) (hk:fA ks k=true):fV H .In k (.ref i)=some (decide (k∈ks)):=by
 show (match gY H (.ref i) with | some q=>gd (fA q.1 k) (some (decide (k∈q.1))) | none=>oM H k (.ref i))=_
 refine rl (wM h) ?_
 exact dJ hk rfl
theorem DW {k d:V}(h:H[i]? = some (.dct eb ks vs)) (hl:ks.length≤1100000) (hk:fA ks k=true):jU H d (.ref i) k=some (H.set i (wV eb ks vs k d)):=by
 refine cW (o:=refOf _) rfl (cW h ?_)
 exact dJ hk (dJ (dP hl) rfl)
end
noncomputable def nv (i:Nat):V:=.int i
theorem uP [BEq V] [LawfulBEq V]:∀{ks:List V}{k:V}(s:Nat),k∈ks→dfind ks ((List.range' s ks.length).map nv) k=some (nv (s+ks.idxOf k))
 |[],_,_,h=>nomatch h
 |k'::ks,k,s,h=>by
  show (if k'=k then _ else dfind ks ((List.range' (s+1) ks.length).map nv) k)=_
  by_cases q:k'=k
  ·refine rl (if_pos q) (rl q (rl List.idxOf_cons_self ?_));rfl
  ·refine rl (if_neg q) (rl (uP (s+1) ((aZ.mp h).resolve_left fun e=>q e.symm)) (rl List.idxOf_cons (rl (bY.mpr q) ?_)))
   show some (nv _)=some (nv (s+(_+1)))
   congr 2
   exact Nat.add_right_comm _ _ _
theorem Yv (n:Nat):∀l:List Nat,V.oks n (l.map nv)=true
 |[]=>rfl
 |_::l=>(aF (x:=true)).mpr ⟨rfl,Yv n l⟩
theorem Yw {g:Nat→Nat}{p:dB}(h:eP p):nH (kV g p)=true:=by
 show ([V.str p.kd,_]:List V).all (iA 3)=true
 refine rl List.all_cons (rl List.all_cons (rl List.all_nil (rl (Bool.and_true ..) (rl (bU ..) ?_))))
 refine ⟨Ie p,?_⟩
 show (p.ways.map _).all (iA 2)=true
 refine rl List.all_map (ri bR ?_)
 intro x hx
 show (PyData.strOk x.1&&(true&&true))=true
 refine rl (kQ (h.1 x.1 (aJ.mpr ⟨x,hx,rfl⟩))) ?_
 rfl
theorem Yx {g:Nat→Nat}{l:List dB}(hl:∀p∈l,eP p) {p:dB}(h:eP p) {ks:List V}(hk:∀k∈ks,k∈l.map (kV g)):fA ks (kV g p)=true:=by
 have:(kV g p::ks).all nH=true:=bR.mpr fun x hx=>by
  rcases aZ.mp hx with rfl | hx
  ·exact Yw h
  ·refine dF (aJ.mp (hk x hx)) fun q hq e_e=>?_;subst e_e
   exact Yw (hl q hq)
 unfold fA
 rw [this,Bool.or_true,Bool.or_true]
section
variable {R:Type}{Q:Option R→Prop}{G:Option Nat}{H0:Hp}
theorem zI {test:Loc→Hp→(Bool→Hp→Option R)→Option R}{body:Loc→Hp→(Loc→Hp→Option R)→Option R}{K:Loc→Hp→Option R}(Inv:Nat→Loc→Hp→Prop)
  (hs:∀m ρ H,Inv m ρ H→∀K1:Loc→Hp→Option R,(∀m' ρ' H',m'<m→Inv m' ρ' H'→Q (K1 ρ' H'))→Q (test ρ H fun b H1=>br b (body ρ H1 K1) (K ρ H1))) :
  ∀n m ρ H,m<n→Inv m ρ H→Q (rB test body n ρ H K)
 |0,m,ρ,H,hm,_=>absurd hm (Nat.not_lt_zero _)
 |n+1,m,ρ,H,hm,hi=>hs m ρ H hi _ fun m' ρ' H' h' hi'=>zI Inv hs n m' ρ' H' (by exact aR h' (cS hm)) hi'
end
theorem kA {H:Hp}{x:V}:(H++[x])[H.length]? = some x:=by refine rl (bO (aN _)) (rl (Nat.sub_self ..) ?_);rfl
theorem tI {H:Hp}{x y:V}:(H++[x]).set H.length y=H++[y]:=by refine rl (List.set_append_right _ _ (aN _)) (rl (Nat.sub_self ..) ?_);rfl
end
section
section
variable {g:Nat→Nat}{pre:List dB}{p:dB}
noncomputable def Aa (g:Nat→Nat) (pre:List dB):List V:=pre.map fun p=>nv ((dM (pre.map (kV g))).idxOf (kV g p))
noncomputable def dk (g:Nat→Nat) (pre:List dB):V:=.dct false (dM (pre.map (kV g))) ((List.range' 0 (dM (pre.map (kV g))).length).map nv)
theorem zJ:dM ((pre++[p]).map (kV g))=qO (dM (pre.map (kV g))) (kV g p):=by refine rl aM ?_;exact Im _ _
theorem KW (h:kV g p∈dM (pre.map (kV g))):dk g (pre++[p])=dk g pre∧Aa g (pre++[p])=Aa g pre++[nv ((dM (pre.map (kV g))).idxOf (kV g p))]:=by
 have e:dM ((pre++[p]).map (kV g))=dM (pre.map (kV g)):=zJ.trans (if_pos h)
 unfold dk Aa
 refine rl e (rl aM ?_)
 exact ⟨rfl,rfl⟩
theorem KX (h:kV g p∉dM (pre.map (kV g))):dk g (pre++[p])=.dct false (dM (pre.map (kV g))++[kV g p]) ((List.range' 0 (dM (pre.map (kV g))).length).map nv++[nv (dM (pre.map (kV g))).length])∧Aa g (pre++[p])=Aa g pre++[nv (dM (pre.map (kV g))).length]:=by
 have e:dM ((pre++[p]).map (kV g))=dM (pre.map (kV g))++[kV g p]:=zJ.trans (if_neg h)
 unfold dk Aa
 refine rl e (rl aE (rl aM ?_))
 constructor
 ·congr 1
  refine rl (show [kV g p].length=1 from rfl) (rl List.range'_concat (rl aM (rl (Nat.zero_add ..) (rl (Nat.one_mul ..) ?_))))
  rfl
 ·congr 1
  ·refine List.map_congr_left fun q hq=>?_
   exact rl List.idxOf_append (rl (if_pos (iR.mpr (aJ.mpr ⟨q,hq,rfl⟩))) rfl)
  ·show [nv _]=_
   exact rl List.idxOf_append (rl (if_neg h) (rl List.idxOf_cons_self (rl (Nat.zero_add ..) rfl)))
end
section
variable {P:Nat→Option Fn}(ff:GF P) (gs:GS P) {k fuel:Nat}{ps:List dB}{v:V}
include ff gs
theorem Me {c:Ctx}(hF:∀n args H,c.F n args H=F P fuel (k+1) n args H) (hg:dA ps) {g:Nat→Nat}{H':Hp}{gv:V}(hp:dH H' (ps.map dB.v) v) (hgv:dH H' ((List.range ps.length).map fun i=>nv (g i)) gv)
  {o1 o3 o6 o7 o8:Option V}{K:Loc→Hp→Option (V×Bool×Hp)}{L:V→Hp→Option (V×Bool×Hp)}{r:Option (V×Bool×Hp)}
  (hK:∀o1 o6 o7 o8,K [some v,o1,some gv,o3,some (.ref H'.length),some (.ref (H'.length+1)),o6,o7,o8] (H'++[dk g ps,.lst (Aa g ps)])=r) :
  dG c jW.body.tl.tl.hd.inner.tl.tl.hd [some v,o1,some gv,o3,some (.ref H'.length),some (.ref (H'.length+1)),o6,o7,o8] (H'++[dk g [],.lst []]) K L=r:=by
 have hn:=hg.hi
 refine jE hp.app.iter ?_
 have hG:∀x y:V,same (H'++[x,y]) (H'++[dk g [],.lst []]) (gP v)=true:=fun x y=>by
  cases hp with
  |lst=>rfl
  |ref i e=>
   have hi:i<H'.length:=(aS.mp e).1
   exact aO (by exact rl (bH hi) (rl (bH hi) rfl))
 refine mR (fun xs ρ H2=>∃pre rest o1 o6 o7 o8,xs=rest.map dB.v∧pre++rest=ps∧ρ=[some v,o1,some gv,o3,some (.ref H'.length),some (.ref (H'.length+1)),o6,o7,o8]∧H2=H'++[dk g pre,.lst (Aa g pre)])
  ?_ ?_ _ _ _ ⟨[],ps,_,_,_,_,rfl,rfl,rfl,rfl⟩
 ·rintro x xs ρ H2 ⟨pre,rest,o1,o6,o7,o8,e,hps,rfl,rfl⟩
  cases rest with
  |nil=>cases e
  |cons p rest=>
   obtain ⟨rfl,rfl⟩:=List.cons.inj e
   refine ⟨hG _ _,fun K' hK'=>?_⟩
   have hpm:p∈ps:=hps ▸ aY.mpr (.inr aH)
   have hgp:=hg.stops p hpm
   have hw:=dW hgp
   have hpl:pre.length≤12:=by have:=aQ List.length hps;rw [aE] at this;exact aD (aD (bW _ _) (bM this)) hn
   have hwl:p.ways.length≤6:=by have:=hw.2.1;unfold dB.words at this;rw [aA] at this;exact this
   have hdl:(dM (pre.map (kV g))).length≤12:=by
    have:=gA (oB (pre.map (kV g))) fun x hx=>iR.mp hx
    rw [aA] at this;exact L1 (aD this hpl)
   have hkey:fA (dM (pre.map (kV g))) (kV g p)=true:=Yx (l:=pre) (fun q hq=>dW (hg.stops q (hps ▸ aY.mpr (.inl hq)))) hw fun x hx=>iR.mp hx
   have hps':(pre++[p])++rest=ps:=by refine rl (bC ..) ?_;exact hps
   refine cX jZ ?_
   refine cY ((hF _ _ _).trans (gG ff)) ?_
   refine gX (a:=wv) (b:=fun x:Str×Int=>V.tup [.str x.1,nv (g x.2.toNat)]) same_self p.ways [] (fun x hx K2 hK2=>?_) (by refine rl List.length_nil ?_;exact L1 (aW (aN _) hwl)) ?_
   ·have hx2:0≤x.2∧x.2.toNat<ps.length:=by
     cases p with
     |fin=>cases hx
     |go b ws=>have:=hgp.goals x hx;exact RS this.1 this.2
    have:=hgv.app (K:=[dk g pre,.lst (Aa g pre)]) |>.sub (i:=x.2.toNat) (x:=nv (g x.2.toNat)) (by refine rl (bG) (rl (List.getElem?_range hx2.2) ?_);rfl) (by refine rl (aA ..) (rl bE ?_);exact L1 hn)
    rw [bP hx2.1] at this
    exact cX this hK2
   refine rl (List.nil_append ..) ?_
   refine dC (v:=.tup (p.ways.map fun x=>V.tup [.str x.1,nv (g x.2.toNat)])) (dJ (dP (by refine rl (aA ..) ?_;exact L1 hwl)) rfl) ?_
   have fin:∀{H3:Hp}{u:V},kJ (H'++[dk g pre,.lst (Aa g pre)]) (.ref H'.length) (kV g p) (.int (dM (pre.map (kV g))).length)=some (u,H3)→H3=H'++[dk g (pre++[p]),.lst (Aa g pre)]→Aa g (pre++[p])=Aa g pre++[u]→
     dG c jW.body.tl.tl.hd.inner.tl.tl.hd.inner.tl [some v,some p.v,some gv,o3,some (.ref H'.length),some (.ref (H'.length+1)),o6,o7,some (kV g p)] (H'++[dk g pre,.lst (Aa g pre)]) K' L=r:=by
    intro H3 u h1 h2 h3
    refine dJ (eR (xs:=Aa g pre) fP) ?_
    refine dJ (Es (ks:=dM (pre.map (kV g))) gR) ?_
    refine dC (tH (ks:=dM (pre.map (kV g))) gR (by exact L1 hdl)) ?_
    refine cW h1 ?_
    refine rl h2 ?_
    refine eH ((fO (xs:=Aa g pre) fP (by unfold Aa;refine rl (aA ..) ?_;exact L1 hpl)).trans (aQ some (aQ (Prod.mk _) mX))) ?_
    refine rr h3 ?_
    exact hK' _ _ ⟨pre++[p],rest,_,_,_,_,rfl,hps',rfl,rfl⟩
   by_cases q:kV g p∈dM (pre.map (kV g))
   ·obtain ⟨e1,e2⟩:=KW q
    refine fin (zG (ks:=dM (pre.map (kV g))) gR (by exact L1 hdl) hkey ((uP 0 q).trans (by exact rl (Nat.zero_add ..) rfl))) (by exact rl e1 rfl) e2
   ·obtain ⟨e1,e2⟩:=KX q
    refine fin ((zH (ks:=dM (pre.map (kV g))) gR (by exact L1 hdl) hkey (lB q)).trans (aQ some (aQ (Prod.mk _) tA))) (by refine rl e1 ?_;rfl) e2
 ·rintro ρ H2 ⟨pre,rest,o1,o6,o7,o8,e,hps,rfl,rfl⟩
  cases rest with
  |cons p rest=>cases e
  |nil=>
   rw [bV] at hps
   subst hps
   exact ⟨hG _ _,hK _ _ _ _⟩
end
end
section
noncomputable def Ap (n:Nat) (g:Nat→Nat):List V:=(List.range n).map fun i=>nv (g i)
theorem KY (n m:Nat) (g:Nat→Nat):V.oks n (Ap m g)=true:=by
 have:=Yv n ((List.range m).map g)
 rw [bJ] at this
 exact this
theorem KZ (ps:List dB) (g:Nat→Nat):Aa g ps=Ap ps.length (rd ps g):=by
 unfold Aa Ap
 refine (aQ (List.map _) (uN (ps:=ps)).symm).trans ?_
 refine rl bJ ?_
 rfl
section
variable {P:Nat→Option Fn}(ff:GF P) (gs:GS P) {k fuel:Nat}{ps:List dB}{v:V}{H:Hp}
include ff gs
theorem Ir (hfu:14≤fuel) (hg:dA ps) (hp:dH H (ps.map dB.v) v):F P fuel (k+2) 34 [v] H=some (.lst (Ap ps.length (wL ps)),true,H):=by
 have hn:=hg.hi
 refine iE (Ox hg) fun s1 s2 s3=>?_
 refine eV gs.groups_of rfl fun c hF hfuel=>?_
 refine jE hp.iter ?_
 refine gX (a:=dB.v) (b:=fun _=>nv 0) same_self ps [] (fun x _ K2 hK2=>hK2) (by refine rl List.length_nil ?_;exact L1 (aW (aN _) hn)) ?_
 rw [List.nil_append,show ps.map (fun _=>nv 0)=Ap ps.length (gK ps 0) from (aQ (List.map _) (uN (ps:=ps)).symm).trans (by refine rl bJ ?_;rfl)]
 refine zI (Q:=fun x=>x=some (V.lst (Ap ps.length (wL ps)),true,H)) (fun m ρ H'=>∃j K gv o1 o4 o5 o6 o7 o8,m=kS ps-j∧j≤kS ps∧H'=H++K∧dH H' (Ap ps.length (gK ps j)) gv∧ρ=[some v,o1,some gv,some (nv (many ps j)),o4,o5,o6,o7,o8])
  ?_ c.fuel (kS ps) _ _ (by exact aR (aR (N1 (aD s3 hn)) hfu) (A0 hfuel)) ⟨0,[],_,_,_,_,_,_,_,rfl,aX _,(bV H).symm,.lst,rfl⟩
 rintro m ρ H' ⟨j,K,gv,o1,o4,o5,o6,o7,o8,rfl,hj,rfl,hgv,rfl⟩ K1 hK1
 have hcl:=Ys (ps:=ps) j
 show dG c jW.body.tl.tl.hd.inner.tl.tl [some v,o1,some gv,some (nv (many ps j)),some (.ref (H++K).length),some (.ref ((H++K)++[V.dct false [] []]).length),o6,o7,o8] (((H++K)++[V.dct false [] []])++[V.lst []]) K1 (fun v H1=>finish H H1 v)=_
 refine rl (aE (bs:=[V.dct false [] []])) (rl (bC (H++K) ..) ?_)
 refine Me ff gs (k:=k) (g:=gK ps j) (H':=H++K) (fun n args H=>hF n args H) hg hp.app hgv fun o1 o6 o7 o8=>?_
 refine dC (tH (ks:=dM (ps.map (kV (gK ps j)))) gR (aD hcl (by exact L1 hn))) ?_
 have e5:((H++K)++[dk (gK ps j) ps,V.lst (Aa (gK ps j) ps)])[(H++K).length+1]? = some (.lst (Ap ps.length (gK ps (j+1)))):=by refine rl (KZ ..) ?_;exact fP
 have hcmp:fV ((H++K)++[dk (gK ps j) ps,V.lst (Aa (gK ps j) ps)]) .Eq (.int (dM (ps.map (kV (gK ps j)))).length) (nv (many ps j))=some (decide (cK ps j=many ps j)):=by
  refine Eq.trans (b:=some ((cK ps j:Int) == (many ps j:Int))) rfl (aQ some ?_)
  refine ri Bool.eq_iff_iff (ri beq_iff_eq (rl bZ ?_))
  exact Int.ofNat_inj
 refine cW (a:=some (nv (many ps j))) rfl (cW (a:=nv (many ps j)) rfl ?_)
 refine dY hcmp ?_
 by_cases q:cK ps j=many ps j
 ·refine eY (aO q) ?_
  have ej:j=kS ps:=Nat.le_antisymm hj (Nat.le_of_not_lt fun h=>s2 j h q)
  subst ej
  rw [bC] at e5 ⊢
  exact Er (by refine rl aE ?_;exact Nat.le_add_right_of_le (bW _ _)) e5 (KY _ _ _)
 ·refine dR (aU q) ?_
  refine dC (tH (ks:=dM (ps.map (kV (gK ps j)))) gR (aD hcl (by exact L1 hn))) ?_
  have hlt:j<kS ps:=Nat.lt_of_le_of_ne hj fun e=>q (e ▸ s1)
  exact hK1 (kS ps-(j+1)) _ _ (by exact RT hlt) ⟨j+1,K++[dk (gK ps j) ps,.lst (Aa (gK ps j) ps)],_,_,_,_,_,_,_,rfl,hlt,bC _ _ _,.ref _ e5,rfl⟩
end
end
section
noncomputable def jG (R:Nat→Nat) (o:List Nat):List V:=o.map fun i=>nv (R i)
noncomputable def qP (o:List Nat):List V:=(List.range' 0 o.length).map nv
theorem Yy {a b:Nat}(h:nv a=nv b):a=b:=Int.ofNat_inj.mp (V.int.inj h)
theorem tJ {R:Nat→Nat}{o:List Nat}{x:Nat}:nv x∈jG R o↔x∈o.map R:=by
 unfold jG
 refine ri aJ (ri aJ ?_)
 exact ⟨fun ⟨i,h,e⟩=>⟨i,h,Yy e⟩,fun ⟨i,h,e⟩=>⟨i,h,aQ nv e⟩⟩
theorem wN {R:Nat→Nat}{o:List Nat}{x:Nat}:fA (jG R o) (nv x)=true:=by
 have:(nv x::jG R o).all Cy=true:=bR.mpr fun y hy=>by
  rcases aZ.mp hy with rfl | hy
  ·rfl
  ·refine dF (aJ.mp hy) fun i _ e_e=>?_;subst e_e;rfl
 unfold fA
 rw [this,Bool.true_or,Bool.or_true]
theorem LA {H:Hp}{xs:List Nat}{v:V}(h:dH H (xs.map nv) v) {i:Nat}(hi:i<xs.length) (hl:xs.length≤1100000):fH H v (nv i)=some (nv (xs.getD i 0)):=
 h.sub (by refine rl (bG) (rl (aP hi) (rl (dL hi) ?_));rfl) (by refine rl (aA ..) ?_;exact hl)
theorem Mf {H:Hp}{n:Nat}{g:Nat→Nat}{v:V}(h:dH H (Ap n g) v) {i:Int}(h0:0≤i) (hi:i.toNat<n) (hl:n≤1100000):fH H v (.int i)=some (nv (g i.toNat)):=by
 have:=h.sub (i:=i.toNat) (x:=nv (g i.toNat)) (by unfold Ap;refine rl (bG) (rl (List.getElem?_range hi) ?_);rfl) (by unfold Ap;refine rl (aA ..) (rl bE ?_);exact hl)
 rwa [bP h0] at this
theorem It {n:Nat}{p:dB}(h:eI n p) {x:Str×Int}(hx:x∈p.ways):0≤x.2∧x.2.toNat<n:=by
 cases p with
 |fin=>cases hx
 |go b ws=>have:=h.goals x hx;exact RS this.1 this.2
theorem zK {H:Hp}{ps:List dB}{v:V}(h:dH H (ps.map dB.v) v) {i:Nat}(hi:i<ps.length) (hl:ps.length≤12):fH H v (nv i)=some (gU ps i).v:=
 h.sub (by refine rl (bG) (rl (aP hi) ?_);unfold gU;refine rl (dL hi) ?_;rfl) (by refine rl (aA ..) ?_;exact L1 hl)
section
variable {P:Nat→Option Fn}(ff:GF P) (gs:GS P) {k fuel:Nat}{ps:List dB}{v:V}{H:Hp}{R:Nat→Nat}
include ff gs
theorem Sy {c:Ctx}(hF:∀n args H,c.F n args H=F P fuel (k+1) n args H) (hg:dA ps) (hp:dH H (ps.map dB.v) v) {o:List Nat}(ho:DS R ps.length o) {t:Nat}(ht:t<o.length)
  {o5 o6 o7 o8 o9:Option V}{K:Loc→Hp→Option (V×Bool×Hp)}{L:V→Hp→Option (V×Bool×Hp)}{r:Option (V×Bool×Hp)}
  (hK:∀o5 o6,let o':=lY R o (goals (gU ps (o.getD t 0)));K [some v,some (.lst (Ap ps.length R)),some (.ref H.length),some (.ref (H.length+1)),some (nv (t+1)),o5,o6,o7,o8,o9] (H++[.dct false (jG R o') (qP o'),.lst (o'.map nv)])=r) :
  dG c wB.body.tl.tl.tl.tl.tl.hd.inner [some v,some (.lst (Ap ps.length R)),some (.ref H.length),some (.ref (H.length+1)),some (nv t),o5,o6,o7,o8,o9] (H++[.dct false (jG R o) (qP o),.lst (o.map nv)]) K L=r:=by
 have hn:=hg.hi
 have hol:=ho.len
 have hi:o.getD t 0<ps.length:=by refine rl (dL ht) ?_;exact ho.lt _ (cM _)
 refine cX (LA (xs:=o) (.ref _ fP) ht (by exact L1 (aD hol hn))) ?_
 refine cX (zK hp.app hi hn) ?_
 refine cY ((hF _ _ _).trans (gG ff)) ?_
 have hgp:=hg.stops _ (jS hi)
 generalize gU ps (o.getD t 0)=p at hK hgp ⊢
 refine mR (fun xs ρ H2=>∃dn rest o' o5 o6,xs=rest.map wv∧dn++rest=p.ways∧o'=lY R o (dn.map (·.2.toNat))∧DS R ps.length o'∧ρ=[some v,some (.lst (Ap ps.length R)),some (.ref H.length),some (.ref (H.length+1)),some (nv t),o5,o6,o7,o8,o9]∧H2=H++[.dct false (jG R o') (qP o'),.lst (o'.map nv)])
  ?_ ?_ _ _ _ ⟨[],p.ways,o,_,_,rfl,rfl,rfl,ho,rfl,rfl⟩
 ·rintro x xs ρ H2 ⟨dn,rest,o',o5,o6,e,hdn,ho',hA,rfl,rfl⟩
  cases rest with
  |nil=>cases e
  |cons x rest=>
   obtain ⟨rfl,rfl⟩:=List.cons.inj e
   refine ⟨rfl,fun K' hK'=>?_⟩
   have hx:=It hgp (x:=x) (hdn ▸ aY.mpr (.inr aH))
   have hol':=hA.len
   have hs:=Mf (H:=H++[.dct false (jG R o') (qP o'),.lst (o'.map nv)]) (g:=R) (n:=ps.length) (v:=.lst (Ap ps.length R)) .lst hx.1 hx.2 (by exact L1 hn)
   have ha:lY R o ((dn++[x]).map (·.2.toNat))=Io R o' x.2.toNat:=by refine rl ho' (rl aM ?_);unfold lY;refine rl List.foldl_append ?_;rfl
   have hA':=Cj hA hx.2
   have hdn':(dn++[x])++rest=p.ways:=by refine rl (bC ..) ?_;exact hdn
   refine cX hs ?_
   refine dY (Sx (ks:=jG R o') gR wN) ?_
   by_cases q:R x.2.toNat∈o'.map R
   ·refine dR (b:=!decide (nv (R x.2.toNat)∈jG R o')) (by refine rl (aO (tJ.mpr q)) ?_;rfl) ?_
    have e:Io R o' x.2.toNat=o':=if_pos q
    exact hK' _ _ ⟨dn++[x],rest,o',_,_,rfl,hdn',(ha.trans e).symm,hA,rfl,rfl⟩
   ·refine eY (b:=!decide (nv (R x.2.toNat)∈jG R o')) (by refine rl (aU fun m=>q (tJ.mp m)) ?_;rfl) ?_
    have e:Io R o' x.2.toNat=o'++[x.2.toNat]:=if_neg q
    rw [e] at hA' ha
    refine dC ((dH.ref (xs:=o'.map nv) (H.length+1) fP).len (by refine rl (aA ..) ?_;exact L1 (aD hol' hn))) ?_
    refine cX hs ?_
    have e1:wV false (jG R o') (qP o') (nv (R x.2.toNat)) (.int (o'.map nv).length)=.dct false (jG R (o'++[x.2.toNat])) (qP (o'++[x.2.toNat])):=by
     unfold wV
     refine rl (if_neg fun m=>q (tJ.mp m)) ?_
     unfold jG qP
     refine rl aM (rl aE (rl (show [x.2.toNat].length=1 from rfl) (rl List.range'_concat (rl aM (rl (aA ..) (rl (Nat.zero_add ..) (rl (Nat.one_mul ..) ?_)))))))
     rfl
    refine lX ((DW (ks:=jG R o') gR (by unfold jG;refine rl (aA ..) ?_;exact L1 (aD hol' hn)) wN).trans (aQ some (tA.trans (by exact rl e1 rfl)))) ?_
    refine dJ (eR (xs:=o'.map nv) fP) ?_
    refine eH ((fO (xs:=o'.map nv) fP (by refine rl (aA ..) ?_;exact L1 (aD hol' hn))).trans (aQ some (aQ (Prod.mk _) mX))) ?_
    have e2:o'.map nv++[V.int x.2]=(o'++[x.2.toNat]).map nv:=by
     refine rl aM (rr (bP hx.1) ?_)
     rfl
    refine rl e2 ?_
    exact hK' _ _ ⟨dn++[x],rest,o'++[x.2.toNat],_,_,rfl,hdn',ha.symm,hA'.1,rfl,rfl⟩
 ·rintro ρ H2 ⟨dn,rest,o',o5,o6,e,hdn,ho',hA,rfl,rfl⟩
  cases rest with
  |cons x rest=>cases e
  |nil=>
   rw [bV] at hdn
   subst hdn
   subst ho'
   exact ⟨rfl,hK _ _⟩
end
end
section
theorem idx_map {R:Nat→Nat}{x:Nat}:∀o:List Nat,(jG R o).idxOf (nv x)=(o.map R).idxOf x
 |[]=>rfl
 |i::o=>by
  show (nv (R i)::jG R o).idxOf (nv x)=(R i::o.map R).idxOf x
  refine rl List.idxOf_cons (rl List.idxOf_cons (rl (idx_map o) ?_))
  by_cases q:R i=x
  ·exact rl q (rl (beq_self_eq_true ..) (rl (beq_self_eq_true ..) rfl))
  ·exact rl (bY.mpr q) (rl (bY.mpr fun e=>q (Yy e)) rfl)
theorem Yz {R:Nat→Nat}{ps:List dB}{g:Nat}(h:R g∈(lA R ps).map R):dfind (jG R (lA R ps)) (qP (lA R ps)) (nv (R g))=some (nv (nw R ps g)):=by
 have:=uP (ks:=jG R (lA R ps)) 0 (tJ.mpr h)
 rw [idx_map,Nat.zero_add] at this
 unfold qP
 unfold jG at this ⊢
 rw [aA] at this
 exact this
section
variable {P:Nat→Option Fn}(gg:Gen P) (gx:GX P) (ff:GF P) (gs:GS P) {k fuel:Nat}{ps:List dB}{v:V}{H:Hp}
include gg gx ff gs
theorem rR (hfu:14≤fuel) (hg:dA ps) (hp:dH H (ps.map dB.v) v):F P fuel (k+5) 35 [v] H=some (.lst ((iS ps).map dB.v),true,H):=by
 have hn:=hg.hi
 obtain ⟨R,hR⟩:∃R,R=wL ps:=⟨_,rfl⟩
 have hgs:=Ir ff gs (k:=k+2) (H:=H) hfu hg hp
 rw [←hR] at hgs
 refine iE (qG (R:=R) hg) fun t1 t2 t3=>?_
 refine eV gs.small rfl fun c hF hfuel=>?_
 refine cY ((hF _ _ _).trans (iV gg gx hg hp)) ?_
 refine cY ((hF _ _ _).trans hgs) ?_
 refine cX (Mf (H:=H) (g:=R) (n:=ps.length) (v:=.lst (Ap ps.length R)) (i:=0) .lst (by decide) hg.lo (by exact L1 hn)) ?_
 refine dJ (b:=fA [] (nv (R 0))) (wN (R:=R) (o:=[]) (x:=R 0)) ?_
 show dG c wB.body.tl.tl.tl.tl.tl [some v,some (.lst (Ap ps.length R)),some (.ref H.length),some (.ref (H++[V.dct false (jG R [0]) (qP [0])]).length),some (nv 0),none,none,none,none,none] ((H++[V.dct false (jG R [0]) (qP [0])])++[V.lst ([0].map nv)]) _ _=_
 refine rl aE (rl (bC ..) ?_)
 refine zI (Q:=fun x=>x=some (V.lst ((iS ps).map dB.v),true,H)) (fun m ρ H'=>∃t o5 o6,m=tS R ps-t∧t≤tS R ps∧ρ=[some v,some (.lst (Ap ps.length R)),some (.ref H.length),some (.ref (H.length+1)),some (nv t),o5,o6,none,none,none]∧H'=H++[.dct false (jG R (bf R ps t)) (qP (bf R ps t)),.lst ((bf R ps t).map nv)])
  ?_ c.fuel (tS R ps) _ _ (by exact aR (aR (N1 (aD t3 hn)) hfu) (A0 hfuel)) ⟨0,_,_,rfl,aX _,rfl,rfl⟩
 rintro m ρ H' ⟨t,o5,o6,rfl,ht,rfl,rfl⟩ K1 hK1
 have hA:=(rQ (R:=R) hg t).1
 have hl:=hA.len
 have hlen:=(dH.ref (xs:=(bf R ps t).map nv) (H.length+1) (fP (H:=H) (x:=.dct false (jG R (bf R ps t)) (qP (bf R ps t))))).len (by refine rl (aA ..) ?_;exact L1 (aD hl hn))
 rw [aA] at hlen
 refine dC hlen ?_
 by_cases q:t<(bf R ps t).length
 ·refine eY (b:=decide ((t:Int)<((bf R ps t).length:Int))) (aO (Int.ofNat_lt.mpr q)) ?_
  have hlt:t<tS R ps:=Nat.lt_of_le_of_ne ht fun e=>by subst e;omega
  refine Sy ff gs (k:=k+3) hF hg hp hA q fun o5 o6=>?_
  exact hK1 (tS R ps-(t+1)) _ _ (by exact RT hlt) ⟨t+1,_,_,rfl,hlt,rfl,rfl⟩
 ·refine dR (b:=decide ((t:Int)<((bf R ps t).length:Int))) (aU fun h=>q (Int.ofNat_lt.mp h)) ?_
  have et:t=tS R ps:=Nat.le_antisymm ht (Nat.le_of_not_lt fun h=>q (t2 t h))
  subst et
  have hord:bf R ps (tS R ps)=lA R ps:=rfl
  rw [hord] at hA hl ⊢
  have hol:=qH (R:=R) hg
  generalize hX:H++[.dct false (jG R (lA R ps)) (qP (lA R ps)),.lst ((lA R ps).map nv)]=X
  have x0:X[H.length]? = some (.dct false (jG R (lA R ps)) (qP (lA R ps))):=by refine rr hX ?_;exact gR
  have x1:X[H.length+1]? = some (.lst ((lA R ps).map nv)):=by refine rr hX ?_;exact fP
  have xp:dH X (ps.map dB.v) v:=by refine rr hX ?_;exact hp.app
  have up:∀{i:Nat}{y:V}(z:V),X[i]? = some y→(X++[z])[i]? = some y:=fun z h=>by refine rl (bH (aS.mp h).1) ?_;exact h
  have fstp:∀i:Nat,(pQ (nw R ps) (gU ps i)).v=(pQ (nw R ps) (gU ps i)).v:=fun _=>rfl
  refine jE (cW (up _ x1) rfl) ?_
  refine mR (fun xs ρ H2=>∃dn rest o5 o6 o8 o9,xs=rest.map nv∧dn++rest=lA R ps∧ρ=[some v,some (.lst (Ap ps.length R)),some (.ref H.length),some (.ref (H.length+1)),some (nv (tS R ps)),o5,o6,some (.ref X.length),o8,o9]∧H2=X++[.lst (dn.map fun i=>(pQ (nw R ps) (gU ps i)).v)])
   ?_ ?_ _ _ _ ⟨[],lA R ps,_,_,_,_,rfl,rfl,rfl,rfl⟩
  ·rintro x xs ρ H2 ⟨dn,rest,o5,o6,o8,o9,e,hdn,rfl,rfl⟩
   cases rest with
   |nil=>cases e
   |cons i rest=>
    obtain ⟨rfl,rfl⟩:=List.cons.inj e
    refine ⟨aO ((up _ x1).trans (up _ x1).symm),fun K' hK'=>?_⟩
    have him:i∈lA R ps:=hdn ▸ aY.mpr (.inr aH)
    have hi:=hA.lt i him
    have hgp:=hg.stops _ (jS hi)
    have hdl:dn.length≤12:=by have:=aQ List.length hdn;rw [aE] at this;exact TY this hol t3 hn
    have hdn':(dn++[i])++rest=lA R ps:=by refine rl (bC ..) ?_;exact hdn
    have hcl:∀g∈goals (gU ps i),R g∈(lA R ps).map R:=by
     obtain ⟨a,ha,e⟩:=List.getElem_of_mem him
     have:=zD (R:=R) hg (t:=a) (by exact aR ha (bM hol))
     rw [dL ha,e] at this
     exact this
    refine cX (zK xp.app hi hn) ?_
    refine cX jZ ?_
    refine dN kd_end ?_
    have done:∀{u:V},u=(pQ (nw R ps) (gU ps i)).v→∀{o5 o9:Option V},(oJ (X++[.lst (dn.map fun i=>(pQ (nw R ps) (gU ps i)).v)]) .append (.ref X.length) [u]).bind (fun q=>K' [some v,some (.lst (Ap ps.length R)),some (.ref H.length),some (.ref (H.length+1)),some (nv (tS R ps)),o5,some (nv i),some (.ref X.length),some (gU ps i).v,o9] q.2)=some (V.lst ((iS ps).map dB.v),true,H):=by
     intro u hu o5 o9
     refine eH ((fO kA (by refine rl (aA ..) ?_;exact L1 hdl)).trans (aQ some (aQ (Prod.mk _) tI))) ?_
     exact hK' _ _ ⟨dn++[i],rest,_,_,_,_,rfl,hdn',rfl,by refine rl hu (rl aM ?_);rfl⟩
    cases hf:(gU ps i).isFin with
    |true=>
     refine dJ (eR kA) ?_
     refine done (u:=.tup [.str (Str.ofString "end")]) ?_
     cases hq:gU ps i with
     |fin=>rfl
     |go b ws=>rw [hq] at hf;exact fT hf
    |false=>
     have hw:=dW hgp
     have hwl:(gU ps i).ways.length≤6:=by have:=hw.2.1;unfold dB.words at this;rw [aA] at this;exact this
     refine dJ (eR kA) ?_
     refine cX jZ ?_
     refine cX (kT hf) ?_
     refine gX (a:=wv) (b:=fun x:Str×Int=>V.tup [.str x.1,nv (nw R ps x.2.toNat)]) same_self (gU ps i).ways [] (fun x hx K2 hK2=>?_) (by refine rl List.length_nil ?_;exact L1 (aW (aN _) hwl)) ?_
     ·have hx2:=It hgp hx
      have hm:=hcl x.2.toNat (aJ.mpr ⟨x,hx,rfl⟩)
      refine cX (Mf (g:=R) (n:=ps.length) (v:=.lst (Ap ps.length R)) .lst hx2.1 hx2.2 (by exact L1 hn)) ?_
      exact cX (DV (ks:=jG R (lA R ps)) (up _ x0) wN (Yz hm)) hK2
     refine rl (List.nil_append ..) ?_
     refine dC (v:=.tup ((gU ps i).ways.map fun x=>V.tup [.str x.1,nv (nw R ps x.2.toNat)])) (dJ (dP (by refine rl (aA ..) ?_;exact L1 hwl)) rfl) ?_
     refine done (u:=.tup [.str (gU ps i).kd,.tup ((gU ps i).ways.map fun x=>V.tup [.str x.1,nv (nw R ps x.2.toNat)])]) ?_
     cases hq:gU ps i with
     |fin=>rw [hq] at hf;exact tF hf
     |go b ws=>
      show _=V.tup [_,.tup ((ws.map _).map wv)]
      refine rl bJ ?_
      rfl
  ·rintro ρ H2 ⟨dn,rest,o5,o6,o8,o9,e,hdn,rfl,rfl⟩
   cases rest with
   |cons i rest=>cases e
   |nil=>
    rw [bV] at hdn
    subst hdn
    refine ⟨aO ((up _ x1).trans (up _ x1).symm),?_⟩
    subst hX
    have e2:(iS ps).map dB.v=(lA R ps).map fun i=>(pQ (nw R ps) (gU ps i)).v:=by
     refine rl hR ?_
     show ((lA (wL ps) ps).map _).map _=_
     refine rl bJ ?_
     rfl
    have ok:=mS H.length (iS ps)
    rw [e2] at ok ⊢
    have g:=kA (H:=H++[V.dct false (jG R (lA R ps)) (qP (lA R ps)),V.lst ((lA R ps).map nv)]) (x:=V.lst ((lA R ps).map fun i=>(pQ (nw R ps) (gU ps i)).v))
    show finish H _ (.ref _)=_
    rw [bC] at g ⊢
    exact Er (by refine rl aE ?_;exact bW _ _) g ok
end
end
section
structure tK (ps qs:List dB) (E:Int→Int→Prop):Prop where
 z:E 0 0
 l:∀s t,E s t→0≤s∧s<ps.length
 r:∀s t,E s t→0≤t∧t<qs.length
 kd:∀s t,E s t→(atS ps s).kd=(atS qs t).kd
 words:∀s t,E s t→(atS ps s).words=(atS qs t).words
 go:∀s t,E s t→∀w∈(atS ps s).words,E (lS (atS ps s).ways w) (lS (atS qs t).ways w)
section
variable {ps qs:List dB}{E:Int→Int→Prop}
theorem tK.flip (h:tK ps qs E):tK qs ps (fun a b=>E b a) where
 z:=h.z
 l s t e:=h.r t s e
 r s t e:=h.l t s e
 kd s t e:=(h.kd t s e).symm
 words s t e:=(h.words t s e).symm
 go s t e w hw:=h.go t s e w (by refine rl (h.words t s e) ?_;exact hw)
theorem tK.refl (hg:dA ps):tK ps ps (fun a b=>a=b∧0≤a∧a<ps.length) where
 z:=⟨rfl,cN _,by have:=hg.lo;exact Z3 (Bc this)⟩
 l s t e:=e.2
 r s t e:=e.1 ▸ e.2
 kd s t e:=by exact rl e.1 rfl
 words s t e:=by exact rl e.1 rfl
 go s t e w hw:=⟨by exact rl e.1 rfl,lT (hg.stops _ (eQ e.2.1 e.2.2)) hw⟩
theorem Et:¬Str.ofString "end"=hV true:=by decide
theorem Eu:¬Str.ofString "end"=hV false:=by decide
theorem Ev:¬hV true=hV false:=by decide
theorem tL {p q:dB}(h:p.kd=q.kd):p.isSend=q.isSend∧p.isGet=q.isGet∧p.isFin=q.isFin:=by
 cases p with
 |fin=>cases q with
  |fin=>exact ⟨rfl,rfl,rfl⟩
  |go b ws=>cases b;exact absurd h Eu;exact absurd h Et
 |go c vs=>cases q with
  |fin=>cases c;exact absurd h.symm Eu;exact absurd h.symm Et
  |go b ws=>cases c <;> cases b <;> first | exact ⟨rfl,rfl,rfl⟩ | exact absurd h Ev | exact absurd h.symm Ev
theorem Sz {p q:dB}(row:Row) (h:p.kd=q.kd) (hw:p.words=q.words):nA row p=nA row q:=by
 refine iE (tL h) fun a b c=>?_
 unfold nA
 exact rl a (rl b (rl c (rl hw rfl)))
theorem kB {p q p' q':dB}(h:p.kd=p'.kd) (hw:p.words=p'.words) (h':q.kd=q'.kd) (hw':q.words=q'.words):eD p q=eD p' q':=by
 refine iE (tL h) fun a b c=>?_
 refine iE (tL h') fun a' b' c'=>?_
 unfold eD subB
 exact rl a (rl a' (rl b (rl b' (rl hw (rl hw' rfl)))))
theorem Ta {p q p' q':dB}(h:p.kd=p'.kd) (hw:p.words=p'.words) (h':q.kd=q'.kd) (hw':q.words=q'.words):kH p q=kH p' q':=by
 unfold kH
 exact rl (kB h hw h' hw') (rl ((tL h).2.2) (rl ((tL h').2.2) rfl))
theorem tK.keeps1 {R:List Row}(h:tK ps qs E) (hp:dA ps) (k:Keeps R qs):Keeps R ps:=
 Sv (E:=E) h.z (fun s t row e=>Sz row (h.kd s t e) (h.words s t e)) (fun r s t row e hb y hy=>by
  cases row with
  |send w=>
   cases aG.mp hy
   exact ⟨_,aG.mpr rfl,rfl,h.go s t e w (bD (aF.mp hb).2)⟩
  |get ws=>
   refine dF (aJ.mp hy) fun x hx e_e=>?_;subst e_e
   have hw:x.1∈(atS ps s).words:=aJ.mpr ⟨x,hx,rfl⟩
   have hw':x.1∈(atS qs t).words:=h.words s t e ▸ hw
   refine ⟨(lS ws x.1,lS (atS qs t).ways x.1),aJ.mpr ⟨(x.1,lS (atS qs t).ways x.1),mV (iL hw'),rfl⟩,rfl,?_⟩
   have:=h.go s t e x.1 hw
   have hr:=h.l s t e
   have nd:=(dW (hp.stops _ (eQ hr.1 hr.2))).2.2
   rw [show lS (atS ps s).ways x.1=x.2 from jO nd hx] at this
   exact this
  |_=>cases hy) k
theorem tK.keeps {R:List Row}(h:tK ps qs E) (hp:dA ps) (hq:dA qs):pO R ps=pO R qs:=
 Bool.eq_iff_iff.mpr (jP.trans ((Iff.intro (h.flip.keeps1 hq) (h.keeps1 hp)).trans jP.symm))
theorem Cm {ps' qs':List dB}{E':Int→Int→Prop}(h:tK ps qs E) (h':tK ps' qs' E') {x:Int×Int}(hx:Reach ps ps' x):∃y,Reach qs qs' y∧E x.1 y.1∧E' x.2 y.2:=by
 induction hx with
 |base=>exact ⟨(0,0),.base,h.z,h'.z⟩
 |@step x w _ hs hw hw' ih=>
  refine fU ih fun y hy e e'=>?_
  refine ⟨_,hy.step (w:=w) ?_ ?_ ?_,h.go _ _ e w hw,h'.go _ _ e' w hw'⟩
  ·refine rr (kB (h.kd _ _ e) (h.words _ _ e) (h'.kd _ _ e') (h'.words _ _ e')) ?_;exact hs
  ·refine rr (h.words _ _ e) ?_;exact hw
  ·refine rr (h'.words _ _ e') ?_;exact hw'
theorem Cn {ps' qs':List dB}{E':Int→Int→Prop}(h:tK ps qs E) (h':tK ps' qs' E') (k:Sj qs qs'):Sj ps ps':=fun x hx=>by
 refine fU (Cm h h' hx) fun y hy e e'=>?_
 refine rl (Ta (h.kd _ _ e) (h.words _ _ e) (h'.kd _ _ e') (h'.words _ _ e')) ?_
 exact k y hy
theorem tM {ps' qs':List dB}{E':Int→Int→Prop}(h:tK ps qs E) (h':tK ps' qs' E'):pJ ps ps'=pJ qs qs':=
 Bool.eq_iff_iff.mpr (mW.trans ((Iff.intro (Cn h.flip h'.flip) (Cn h h')).trans mW.symm))
theorem vH {p q:dB}:(eD p q).isSome=(eD q p).isSome:=by
 unfold eD
 cases (p.isSend&&q.isGet&&subB p q) <;> cases (q.isSend&&p.isGet&&subB q p) <;> rfl
theorem Tb {p q:dB}:kH p q=kH q p:=by
 unfold kH
 exact rl vH (rl (Bool.and_comm ..) rfl)
theorem Mg {x:Int×Int}(h:Reach ps qs x):Reach qs ps (x.2,x.1):=by
 induction h with
 |base=>exact .base
 |@step x w _ hs hw hw' ih=>exact ih.step (w:=w) (by refine rl vH ?_;exact hs) hw' hw
theorem zL (k:Sj qs ps):Sj ps qs:=fun x hx=>Tb.trans (k _ (Mg hx))
theorem Tc:pJ ps qs=pJ qs ps:=Bool.eq_iff_iff.mpr (mW.trans ((Iff.intro zL zL).trans mW.symm))
noncomputable def eS (ps:List dB) (s t:Int):Prop:=∃a b:Nat,s=a∧t=b∧a<ps.length∧b<tS (wL ps) ps∧wL ps a=wL ps ((lA (wL ps) ps).getD b 0)
theorem qI {a:Nat}:atS ps (a:Int)=gU ps a:=rfl
theorem Za (hg:dA ps):(lA (wL ps) ps).getD 0 0=0:=(Pa hg (En hg)).symm.trans rfl
theorem Zb {many:Int}{p:dB}(hp:eI many p) {w:Str}(hw:w∈p.words):lS p.ways w=(gl p w:Int):=by
 have:=lT hp hw
 unfold gl;exact A7 this.1
theorem nD (hg:dA ps):tK ps (iS ps) (eS ps) where
 z:=⟨0,0,rfl,rfl,hg.lo,En hg,by exact rl (Za hg) rfl⟩
 l s t h:=by refine Ts h fun a b e_e=>?_;clear h;subst e_e;intro e_e;subst e_e;intro ha hb e;exact ⟨(Z2 (Bc (aX _))),(FG ha)⟩
 r s t h:=by refine Ts h fun a b e_e=>?_;clear h;subst e_e;intro e_e;subst e_e;intro ha hb e;refine rl (Cl hg) ?_;exact ⟨(Z2 (Bc (aX _))),(FG hb)⟩
 kd s t h:=by
  refine Ts h fun a b e_e=>?_;clear h;subst e_e;intro e_e;subst e_e;intro ha hb e
  refine rl qI (rl qI (rl (tG hg hb) (rl DT ?_)))
  exact ((Em hg ha (Eo hg hb)).mp e).kd
 words s t h:=by
  refine Ts h fun a b e_e=>?_;clear h;subst e_e;intro e_e;subst e_e;intro ha hb e
  refine rl qI (rl qI (rl (tG hg hb) (rl zE ?_)))
  exact ((Em hg ha (Eo hg hb)).mp e).words
 go s t h w hw:=by
  refine Ts h fun a b e_e=>?_;clear h;subst e_e;intro e_e;subst e_e;intro ha hb e
  have sm:=(Em hg ha (Eo hg hb)).mp e
  rw [qI] at hw
  have hw2:w∈(gU ps ((lA (wL ps) ps).getD b 0)).words:=sm.words ▸ hw
  have hb':b<(iS ps).length:=by refine rl (Cl hg) ?_;exact hb
  have gm:=Yt hw2
  have hw3:w∈(gU (iS ps) b).words:=by refine rl (tG hg hb) (rl zE ?_);exact hw2
  obtain ⟨n1,n2⟩:=Pb hg hb gm
  refine ⟨gl (gU ps a) w,nw (wL ps) ps (gl (gU ps ((lA (wL ps) ps).getD b 0)) w),Zb (hg.stops _ (jS ha)) hw,?_,zC hg ha hw,n1,(sm.go w hw).trans n2⟩
  exact rl qI (rl (Zb ((iT hg).stops _ (jS hb')) hw3) (rl (tG hg hb) (rl (DU hw2) rfl)))
end
end
section
section
variable {α β γ:Type}[DecidableEq β] [DecidableEq γ] {f:α→β}{g:α→γ}(h:∀p q,f p=f q↔g p=g q)
include h
theorem Pd {p:α}{m:List α}:f p∈m.map f↔g p∈m.map g:=
 ⟨fun e=>(aJ.mp e).elim fun q hq=>aJ.mpr ⟨q,hq.1,(h _ _).mp hq.2⟩,fun e=>(aJ.mp e).elim fun q hq=>aJ.mpr ⟨q,hq.1,(h _ _).mpr hq.2⟩⟩
theorem Pe {p:α}:∀m:List α,(m.map f).idxOf (f p)=(m.map g).idxOf (g p)
 |[]=>rfl
 |q::m=>by
  exact rl cQ (rl cQ (rl List.idxOf_cons (rl List.idxOf_cons (rl (Pe m) (rl (show (f q == f p)=(g q == g p) from Bool.eq_iff_iff.mpr (beq_iff_eq.trans ((h q p).trans beq_iff_eq.symm))) rfl)))))
theorem tN:∀(l m:List α),∃n:List α,(l.map f).foldl qO (m.map f)=n.map f∧(l.map g).foldl qO (m.map g)=n.map g
 |[],m=>⟨m,rfl,rfl⟩
 |p::l,m=>by
  rw [cQ,cQ,List.foldl_cons,List.foldl_cons]
  by_cases e:f p∈m.map f
  ·refine rl (show qO (m.map f) (f p)=m.map f from if_pos e) (rl (show qO (m.map g) (g p)=m.map g from if_pos ((Pd h).mp e)) ?_)
   exact tN l m
  ·refine rl (show qO (m.map f) (f p)=m.map f++[f p] from if_neg e) (rl (show qO (m.map g) (g p)=m.map g++[g p] from if_neg fun q=>e ((Pd h).mpr q)) ?_)
   refine dF (tN l (m++[p])) fun n a b=>?_
   rw [aM] at a b
   exact ⟨n,a,b⟩
end
theorem zM {P Q:Nat→Prop}{i:Decidable (∃k,P k)}{j:Decidable (∃k,Q k)}(e:P=Q):(@dite _ (∃k,P k) i (fun h=>Classical.choose h) fun _=>0) = @dite _ (∃k,Q k) j (fun h=>Classical.choose h) fun _=>0:=by
 subst e
 cases Subsingleton.elim i j
 rfl
section
variable {ps:List dB}
theorem rS (p:dB):p.turn.ways=p.ways:=by cases p <;> rfl
theorem zN (i:Nat):gU (ps.map dB.turn) i=(gU ps i).turn:=by
 unfold gU
 refine rl (bA) (rl (bG) (rl (bA) ?_))
 cases ps[i]? <;> rfl
theorem Co (p:dB):p.turn.turn=p:=by
 cases p with
 |fin=>rfl
 |go b ws=>cases b <;> rfl
theorem DX {p q:dB}(h:p.kd=q.kd):p.turn.kd=q.turn.kd:=by
 cases p with
 |fin=>cases q with
  |fin=>rfl
  |go b ws=>cases b;exact absurd h Eu;exact absurd h Et
 |go c vs=>cases q with
  |fin=>cases c;exact absurd h.symm Eu;exact absurd h.symm Et
  |go b ws=>cases c <;> cases b <;> first | rfl | exact absurd h Ev | exact absurd h.symm Ev
theorem Iu {g:Nat→Nat}{p q:dB}(h:kV g p=kV g q):kV g p.turn=kV g q.turn:=by
 unfold kV at h
 injection h with h
 injection h with h1 h2
 injection h1 with h1
 unfold kV
 exact rl (DX h1) (rl (rS ..) (rl (rS ..) (rl h2 rfl)))
theorem Ew {g:Nat→Nat}(p q:dB):kV g p.turn=kV g q.turn↔kV g p=kV g q:=
 ⟨fun h=>by have:=Iu h;rwa [Co,Co] at this,Iu⟩
theorem zO (g:Nat→Nat):tE (ps.map dB.turn) g=ps.map fun p=>kV g p.turn:=bJ
theorem DY (g:Nat→Nat):rd (ps.map dB.turn) g=rd ps g:=funext fun i=>by
 refine dF (tN (f:=fun p=>kV g p.turn) (g:=kV g) Ew ps []) fun n a b=>?_
 have a':dM (tE (ps.map dB.turn) g)=n.map fun p=>kV g p.turn:=(aQ dM (zO g)).trans a
 have b':dM (tE ps g)=n.map (kV g):=b
 unfold rd
 refine rl a' (rl b' (rl (zN ..) ?_))
 exact Pe Ew n
theorem Ex:∀k,gK (ps.map dB.turn) k=gK ps k
 |0=>rfl
 |k+1=>by
  show rd (ps.map dB.turn) (gK (ps.map dB.turn) k)=rd ps (gK ps k)
  exact rl (Ex k) (rl (DY ..) rfl)
theorem Pf:cK (ps.map dB.turn)=cK ps:=funext fun k=>by
 refine dF (tN (f:=fun p=>kV (gK ps k) p.turn) (g:=kV (gK ps k)) Ew ps []) fun n a b=>?_
 have a':dM (tE (ps.map dB.turn) (gK ps k))=n.map fun p=>kV (gK ps k) p.turn:=(aQ dM (zO _)).trans a
 have b':dM (tE ps (gK ps k))=n.map (kV (gK ps k)):=b
 unfold cK
 exact rl (Ex ..) (rl a' (rl b' (rl (aA ..) (rl (aA ..) rfl))))
theorem Td:many (ps.map dB.turn)=many ps:=funext fun k=>by
 cases k with
 |zero=>rfl
 |succ k=>exact congrFun Pf k
theorem DZ:kS (ps.map dB.turn)=kS ps:=by
 unfold kS
 exact zM (funext fun k=>by exact rl Pf (rl Td (rl (aA ..) rfl)))
theorem Zc:wL (ps.map dB.turn)=wL ps:=by
 unfold wL
 exact rl DZ (rl (Ex ..) rfl)
theorem Mh (p:dB):goals p.turn=goals p:=by unfold goals;exact rl (rS ..) rfl
theorem Ey (R:Nat→Nat):∀t,bf R (ps.map dB.turn) t=bf R ps t
 |0=>rfl
 |t+1=>by
  show lY R (bf R (ps.map dB.turn) t) _=lY R (bf R ps t) _
  exact rl (Ey R t) (rl (zN ..) (rl (Mh ..) rfl))
theorem EA (R:Nat→Nat):tS R (ps.map dB.turn)=tS R ps:=by
 unfold tS
 exact zM (funext fun k=>by exact rl (show bf R (ps.map dB.turn)=bf R ps from funext (Ey R)) (rl (aA ..) rfl))
theorem Iv (R:Nat→Nat):lA R (ps.map dB.turn)=lA R ps:=by
 unfold lA
 exact rl (EA ..) (rl (Ey ..) rfl)
theorem Te (s:Nat→Nat) (p:dB):pQ s p.turn=(pQ s p).turn:=by cases p <;> rfl
theorem Mi:iS (ps.map dB.turn)=(iS ps).map dB.turn:=by
 unfold iS
 refine rl Zc ?_
 unfold pR
 refine rl (Iv ..) (rl bJ ?_)
 refine List.map_congr_left fun i _=>?_
 refine rl (zN ..) (rl (Te ..) ?_)
 unfold nw
 refine rl (Iv ..) ?_
 rfl
end
end
section
theorem Iw {p:dB}(h:p.isSend=true):p.isFin=false:=by cases p <;> first | exact fT h;done | rfl
theorem EB {p:dB}(h:p.isGet=true):p.isFin=false:=by cases p <;> first | exact fT h;done | rfl
section
variable {P:Nat→Option Fn}(g:Gen P) (gx:GX P) (f:GF P) (ft:GT P) (ga:GA P) {k fuel:Nat}{H:Hp}{one other:List dB}{v1 v2 v:V}{ps:List dB}
include ft in
theorem Mj {p:dB}:F P fuel (k+1) 5 [p.v] H=some (p.turn.v,false,H):=by
 refine eV ft.turned_stop rfl fun c _ _=>?_
 refine cX jZ ?_
 refine dN Ee ?_
 cases hs:p.isSend with
 |true=>
  refine cX (kT (Iw hs)) ?_
  have e:V.tup [.str (Str.ofString "get"),.tup (p.ways.map wv)]=p.turn.v:=by
   cases p with
   |fin=>exact fT hs
   |go b ws=>cases (show b=true from hs);rfl
  refine rr e ?_
  exact eN (v:=.tup [.str (Str.ofString "get"),.tup (p.ways.map wv)]) (e ▸ dB.ok _ _)
 |false=>
  refine cX jZ ?_
  refine dN Ef ?_
  cases hg:p.isGet with
  |true=>
   refine cX (kT (EB hg)) ?_
   have e:V.tup [.str (Str.ofString "send"),.tup (p.ways.map wv)]=p.turn.v:=by
    cases p with
    |fin=>exact fT hg
    |go b ws=>cases (show b=false from hs);rfl
   refine rr e ?_
   exact eN (v:=.tup [.str (Str.ofString "send"),.tup (p.ways.map wv)]) (e ▸ dB.ok _ _)
  |false=>
   have e:p.turn=p:=by
    cases p with
    |fin=>rfl
    |go b ws=>cases (show b=false from hs);exact tF hg
   refine rl e ?_
   exact eN (dB.ok _ _)
include g gx ft in
theorem pS (h:dA ps) (hp:dH H (ps.map dB.v) v):F P fuel (k+5) 6 [v] H=some (.lst ((ps.map dB.turn).map dB.v),false,H):=by
 refine eV ft.turned rfl fun c hF _=>?_
 refine cY ((hF _ _ _).trans (iV g gx h hp)) ?_
 refine jE hp.iter ?_
 refine gX (a:=dB.v) (b:=fun p=>p.turn.v) same_self ps [] (fun p _ K' hK=>?_) (by refine rl List.length_nil ?_;have:=h.hi;exact L1 (aW (aN _) this)) ?_
 ·refine cY ((hF _ _ _).trans (Mj ft)) ?_
  exact hK
 ·refine rl (List.nil_append ..) (rl (show ps.map (fun p=>p.turn.v)=(ps.map dB.turn).map dB.v by rw [bJ];rfl) ?_)
  exact eN (v:=.lst _) (mS _ _)
end
theorem RC {H:Hp}{i:Nat}{xs:List V}{v:V}(h:H[i]? = some (.lst (xs++[v]))) (hl:(xs++[v]).length≤1100000):oJ H .popLast (.ref i) []=some (v,H.set i (.lst xs)):=by
 refine cW (pX h hl) (dJ rfl ?_)
 have e:(xs++[v]).length-1=xs.length:=by refine rl aE ?_;rfl
 show ((xs++[v])[(xs++[v]).length-1]?).bind _=_
 refine rl e ?_
 refine cW (a:=v) (by refine rl (bO (aN _)) (rl (Nat.sub_self ..) ?_);rfl) ?_
 refine rl (List.eraseIdx_append_of_length_le (aN _) ..) (rl (Nat.sub_self ..) ?_)
 show some (v,H.set i (.lst (xs++[])))=_
 exact rl (bV ..) rfl
theorem Ix:∀{a:List Str},PyData.eqvAll (a.map PyData.str) (a.map PyData.str)=true
 |[]=>rfl
 |x::a=>by
  show ((x == x)&&PyData.eqvAll (a.map PyData.str) (a.map PyData.str))=_
  refine rl Ix (rl (beq_self_eq_true ..) ?_);rfl
theorem OY {H:Hp}{p q:dB}(h:p.kd=q.kd):fV H .NotEq (.str p.kd) (.str q.kd)=some false:=by
 refine rl h ?_
 exact cW (o:=AF H (.str q.kd) (.str q.kd)) (a:=true) ((AH (H:=H) (Ie q) (Ie q)).trans (aQ some (beq_self_eq_true _))) rfl
theorem Zd {H:Hp}{a b:List Str}(hb:∀w∈b,GoodW w) (h:a=b):fV H .NotEq (.lst (a.map V.str)) (.lst (b.map V.str))=some false:=by
 refine rl h ?_
 have hd:gO H 12 (.lst (b.map V.str))=some (.list (b.map PyData.str)):=by show (fF (gO H 11) _).map _=_;refine rl qC ?_;rfl
 have hs:=yO fun w hw=>kQ (hb w hw)
 exact cW (o:=AF H _ _) (a:=true) (cW hd (cW hd (dJ hs (dJ hs (aQ some Ix))))) rfl
noncomputable def OZ (v1 v2:V) (H:Hp) (o4 o5 o6 o7 o8:Option V):Loc:=[some v1,some v2,some (.ref H.length),some (.ref (H.length+1)),o4,o5,o6,o7,o8]
abbrev LB:=List (Int×Int)×List V×List (Int×Int)
noncomputable def EC (H:Hp) (t:LB):Hp:=H++[.dct false (t.1.map kv) t.2.1,.lst (t.2.2.map kv)]
structure AK (one other:List dB) (E:Int→Int→Prop) (t:LB):Prop where
 nd:t.1.Nodup
 ks:∀x∈t.1,E x.1 x.2
 ws:∀x∈t.2.2,E x.1 x.2
 le:t.2.2.length≤t.1.length
section
variable {P:Nat→Option Fn}(g:Gen P) (gx:GX P) (f:GF P) (ga:GA P) {k fuel:Nat}{H:Hp}{one other:List dB}{v1 v2:V}{E:Int→Int→Prop}
theorem AK.few (g1:dA one) (g2:dA other) (hE:tK one other E) {t:LB}(h:AK one other E t):t.1.length≤144:=
 aD (Hv h.nd fun x hx=>⟨hE.l _ _ (h.ks x hx),hE.r _ _ (h.ks x hx)⟩) (Hw g1 g2)
theorem AK.add {t:LB}(h:AK one other E t) {x:Int×Int}(hn:x∉t.1) (e:E x.1 x.2):AK one other E (t.1++[x],t.2.1++[.bool true],t.2.2++[x]) where
 nd:=cT.mpr ⟨h.nd,cA.mpr ⟨cE,cG⟩,fun a ha b hb q=>hn ((aG.mp hb) ▸ q ▸ ha)⟩
 ks y hy:=(aY.mp hy).elim (h.ks y) fun q=>by refine rl (aG.mp q) ?_;exact e
 ws y hy:=(aY.mp hy).elim (h.ws y) fun q=>by refine rl (aG.mp q) ?_;exact e
 le:=by refine rl aE (rl aE ?_);exact Nat.add_le_add_right h.le _
include f
theorem LC {c:Ctx}{z:Option (V×Bool×Hp)}(hF:∀n args H,c.F n args H=F P fuel (k+4) n args H) (g1:dA one) (g2:dA other) (hE:tK one other E) {t:LB}(h:AK one other E t) {p q:dB}(hq:eP q) {y:Str×Int}(hy:y.1∈q.words) (e:E y.2 (lS q.ways y.1)) {o4 o6 o7 o8:Option V}{K:Loc→Hp→Option (V×Bool×Hp)}{L:V→Hp→Option (V×Bool×Hp)}
  (hK:∀t' o6 o7 o8,AK one other E t'→t'.1.length-t'.2.2.length=t.1.length-t.2.2.length→K (OZ v1 v2 H o4 (some (.tup [p.v,q.v])) o6 o7 o8) (EC H t')=z) :
  gJ (.tup [6,7]) (fun ρ H K=>dG c sR.body.tl.tl.tl.tl.hd.inner.tl.tl.tl.hd.inner ρ H K L) (wv y) (OZ v1 v2 H o4 (some (.tup [p.v,q.v])) o6 o7 o8) (EC H t) K=z:=by
 obtain ⟨s,i⟩:=y
 have hkl:=h.few g1 g2 hE
 have hle:=h.le
 refine cY ((hF _ _ _).trans (gG f)) ?_
 refine cY ((hF _ _ _).trans (pI f (fun z hz=>hq.1 _ (aJ.mpr ⟨z,hz,rfl⟩)) (hq.1 _ hy) (iL hy))) ?_
 refine dY (notin_dict (x:=(i,lS q.ways s)) gR) ?_
 by_cases hin:(i,lS q.ways s)∈t.1
 ·refine dR (b:=!decide (kv (i,lS q.ways s)∈t.1.map kv)) (by refine rl (aO (iD.mpr hin)) ?_;rfl) ?_
  exact hK t _ _ _ h rfl
 ·refine eY (b:=!decide (kv (i,lS q.ways s)∈t.1.map kv)) (by refine rl (aU fun m=>hin (iD.mp m)) ?_;rfl) ?_
  refine lX ((set_dict gR hin (by exact L1 hkl)).trans (aQ some tA)) ?_
  refine dJ (eR fP) ?_
  refine eH ((fO fP (by refine rl (aA ..) ?_;exact L1 (aD hle hkl))).trans (aQ some (aQ (Prod.mk _) mX))) ?_
  have hk:=hK _ (some (.str s)) (some (.int i)) (some (kv (i,lS q.ways s))) (h.add hin e) (by show (t.1++[_]).length-(t.2.2++[_]).length=_;refine rl aE (rl aE ?_);exact Nat.add_sub_add_right _ _ _)
  unfold EC at hk
  rw [aM (l₁:=t.2.2)] at hk
  exact hk
include g gx ga
theorem Mk (hfu:145≤fuel) (g1:dA one) (g2:dA other) (p1:dH H (one.map dB.v) v1) (p2:dH H (other.map dB.v) v2) (hE:tK one other E):F P fuel (k+5) 30 [v1,v2] H=some (.bool true,false,H):=by
 refine eV ga.alike rfl fun c hF hfuel=>?_
 refine cY ((hF _ _ _).trans (iV g gx g1 p1)) ?_
 refine cY ((hF _ _ _).trans (iV g gx g2 p2)) ?_
 have loop:dG c sR.body.tl.tl.tl.tl (OZ v1 v2 H none none none none none) (EC H ([(0,0)],[.bool true],[(0,0)])) (fun _ H1=>finish H H1 .none) (fun v H1=>finish H H1 v)=some (.bool true,false,H):=by
  refine yX (Z:=fun o=>o=(some (V.bool true,false,H):Option (V×Bool×Hp))) (T:=LB×Option V×Option V×Option V×Option V×Option V) (fun t=>OZ v1 v2 H t.2.1 t.2.2.1 t.2.2.2.1 t.2.2.2.2.1 t.2.2.2.2.2) (fun t=>EC H t.1) (fun t=>144-(t.1.1.length-t.1.2.2.length)) (fun t=>AK one other E t.1) ?_ c.fuel (([(0,0)],[.bool true],[(0,0)]),none,none,none,none,none) ⟨cA.mpr ⟨cE,cG⟩,fun x hx=>by refine rl (aG.mp hx) ?_;exact hE.z,fun x hx=>by refine rl (aG.mp hx) ?_;exact hE.z,aN _⟩ (by show 144-(1-1)<_;exact aR (N3 hfu) (A0 hfuel))
  rintro ⟨⟨ks,vs,ws⟩,o4,o5,o6,o7,o8⟩ K1 h hK1
  change AK one other E (ks,vs,ws) at h
  have hkl:=h.few g1 g2 hE
  have hle:=h.le
  dsimp only at hkl hle hK1 ⊢
  obtain ⟨nI,hnI,hpl⟩:∃nI:Int,nI=ws.length∧dS (EC H (ks,vs,ws)) .len [.ref (H.length+1)]=some (.int nI):=⟨_,rfl,((dH.ref (xs:=ws.map kv) (H.length+1) fP).len (by refine rl (aA ..) ?_;exact L1 (aD hle hkl))).trans (by exact rl (aA ..) rfl)⟩
  refine dC hpl ?_
  clear hpl
  rcases List.eq_nil_or_concat ws with hw | ⟨wl,x,hw⟩
  ·subst hw
   refine dR (b:=decide (0<nI)) (aU (by refine rl hnI ?_;decide)) ?_
   exact kM (v:=.bool true) rfl
  ·rw [List.concat_eq_append] at hw
   subst hw
   rw [aE,List.length_singleton] at hnI hle
   refine eY (b:=decide (0<nI)) (aO (by exact Z3 (bI (Bc (aW (aX _) (aN _))) (A1 hnI)))) ?_
   have hlst:(EC H (ks,vs,wl++[x]))[H.length+1]? = some (.lst (wl.map kv++[kv x])):=fP.trans (by refine rl aM ?_;rfl)
   refine dJ (eR hlst) ?_
   refine eH (v:=(kv x,EC H (ks,vs,wl))) ((RC (v:=kv x) (xs:=wl.map kv) hlst (by refine rl aE (rl (aA ..) (rl List.length_singleton ?_));exact L1 (aD hle hkl))).trans (aQ some (aQ (Prod.mk _) mX))) ?_
   have ex:=h.ws x (aY.mpr (.inr aH))
   have hl:=hE.l _ _ ex
   have hr:=hE.r _ _ ex
   have hp:=dW (g1.stops _ (eQ hl.1 hl.2))
   have hq:=dW (g2.stops _ (eQ hr.1 hr.2))
   refine cX (p1.app.at hl.1 hl.2 g1.hi) ?_
   refine cX (p2.app.at hr.1 hr.2 g2.hi) ?_
   have hk:=hE.kd _ _ ex
   have hw:=hE.words _ _ ex
   have hgo:=hE.go _ _ ex
   generalize atS one x.1=p at hp hk hw hgo
   generalize atS other x.2=q at hq hk hw hgo
   refine cX jZ ?_
   refine cX jZ ?_
   refine dY (OY hk) ?_
   refine cY ((hF _ _ _).trans (fG f hp.2.1)) ?_
   refine cY ((hF _ _ _).trans (fG f hq.2.1)) ?_
   refine dY (Zd hq.1 hw) ?_
   refine cY ((hF _ _ _).trans (gG f)) ?_
   refine Xe (a:=wv) (fun (_:LB) o6 o7 o8=>OZ v1 v2 H (some (kv x)) (some (.tup [p.v,q.v])) o6 o7 o8) (fun t _ _ _=>EC H t) (fun r t _ _ _=>(∀y∈r,y∈p.ways)∧AK one other E t∧t.1.length-t.2.2.length=ks.length-wl.length) (fun _ _ _ _=>by rfl) ?_ ?_ _ (ks,vs,wl) o6 o7 o8 ⟨fun _ h=>h,⟨h.nd,h.ks,fun y hy=>h.ws y (aY.mpr (.inl hy)),by show wl.length≤ks.length;exact cI (Nat.lt_of_succ_le hle)⟩,rfl⟩
   ·intro y r t o6 o7 o8 K' hi hK'
    have hyp:=hi.1 y aH
    have hyw:y.1∈p.words:=aJ.mpr ⟨y,hyp,rfl⟩
    have hgo':=hgo _ hyw
    rw [jO hp.2.2 hyp] at hgo'
    exact LC f hF g1 g2 hE hi.2.1 hq (hw ▸ hyw) hgo' fun t' o6 o7 o8 h' e'=>hK' _ _ _ _ ⟨fun y hy=>hi.1 y (aT _ hy),h',e'.trans hi.2.2⟩
   ·intro t o6 o7 o8 hi
    refine hK1 (t,some (kv x),some (.tup [p.v,q.v]),o6,o7,o8) hi.2.1 ?_
    show 144-(t.1.length-t.2.2.length)<144-(ks.length-(wl++[x]).length)
    refine rl hi.2.2 (rl aE (rl List.length_singleton ?_))
    have:ks.length-wl.length≤144:=by exact L1 (N5 hkl)
    exact TZ hle hkl
 refine Eq.trans ?_ loop
 show dG c sR.body.tl.tl.tl.tl [some v1,some v2,some (.ref H.length),some (.ref (H++[_]).length),none,none,none,none,none] (H++[V.dct false ([((0:Int),(0:Int))].map kv) [.bool true]]++[V.lst ([((0:Int),(0:Int))].map kv)]) _ _=_
 refine rl aE (rl (bC ..) ?_)
 rfl
end
end
section
section
variable {P:Nat→Option Fn}(gx:GX P) {k:Nat}{H:Hp}{fuel:Nat}
noncomputable def fR:dB→Nat
 |.go true ws=>3*ws.length-1
 |_=>1
include gx
theorem Ml {p:dB}{many:Int}(hp:eI many p):F P fuel (k+1) 63 [p.v] H=some (.int (fR p),false,H):=by
 refine eV gx.rows_for rfl fun c _ _=>?_
 cases p with
 |fin=>
  refine dN Ho ?_
  exact eN (v:=.int 1) rfl
 |go b ws=>
  have hp:eA many ws:=hp
  have h1:=hp.lo
  have h6:=hp.hi
  refine dN (Bw b) ?_
  cases b with
  |false=>exact eN (v:=.int 1) rfl
  |true=>
   obtain ⟨l,el,hl⟩:∃l:Int,l=ws.length∧dS H .len [.tup (ws.map wv)]=some (.int l):=⟨_,rfl,(wF (by refine rl (aA ..) ?_;exact L1 h6)).trans (by exact rl (aA ..) rfl)⟩
   refine dC hl ?_
   refine qW (by decide) (by decide) (by exact Z2 (bI (Bc h1) (A1 el))) (by exact Z1 (bI (cO el) (Bc h6))) ?_
   refine rl (show ((fR (.go true ws):Nat):Int)=3*l-1 from (Int.natCast_sub (aD (by decide) (cP 3 h1))).trans (by rw [Int.natCast_mul,el];rfl)) ?_
   exact eN (v:=.int _) rfl
end
noncomputable def jT (ps:List dB) (i:Nat):Nat:=((ps.take i).map fR).sum
noncomputable def gM (ps:List dB) (g:Int):Int:=(jT ps g.toNat:Nat)
noncomputable def eJ (f:Int→Int):Nat→List (Str×Int)→List Row
 |_,[]=>[]
 |a,x::r=>(match r with
  |[]=>[Row.send x.1,Row.jump (f x.2)]
  |_::_=>[Row.flip ((a+3:Nat):Int),Row.send x.1,Row.jump (f x.2)])++eJ f (a+3) r
noncomputable def rowsOf (f:Int→Int) (a:Nat):dB→List Row
 |.fin=>[.fin]
 |.go false ws=>[.get (ws.map fun x=>(x.1,f x.2))]
 |.go true ws=>eJ f a ws
noncomputable def iM (f:Int→Int):Nat→List dB→List Row
 |_,[]=>[]
 |a,s::r=>rowsOf f a s++iM f (a+fR s) r
noncomputable def prog (ps:List dB):List Row:=iM (gM ps) 0 ps
section
variable {f:Int→Int}{a:Nat}{many:Int}
theorem LD {x:Str×Int}:eJ f a [x]=[Row.send x.1,Row.jump (f x.2)]:=rfl
theorem wO {x y:Str×Int}{r:List (Str×Int)}:eJ f a (x::y::r)=Row.flip ((a+3:Nat):Int)::Row.send x.1::Row.jump (f x.2)::eJ f (a+3) (y::r):=rfl
theorem Mm:∀(ws:List (Str×Int)) (a:Nat),1≤ws.length→(eJ f a ws).length=3*ws.length-1
 |[],_,h=>by cases h
 |[x],_,_=>rfl
 |x::y::r,a,_=>by
  refine rl wO (rl bF (rl bF (rl bF (rl (Mm (y::r) (a+3) (cU (aX _))) ?_))))
  rfl
noncomputable def eB (n j:Nat):Nat:=if j+1<n then 1 else 0
theorem HJ:∀(ws:List (Str×Int)) (a j:Nat) (x:Str×Int),ws[j]? = some x→
  (eJ f a ws)[3*j+eB ws.length j]? = some (.send x.1)∧(eJ f a ws)[3*j+eB ws.length j+1]? = some (.jump (f x.2))∧(j+1<ws.length→(eJ f a ws)[3*j]? = some (.flip ((a+3*j+3:Nat):Int)))
 |[],_,_,_,h=>by exact nS h
 |[y],a,j,x,h=>by
  cases j with
  |zero=>obtain rfl:=aB h;exact ⟨rfl,rfl,fun q=>absurd q (Nat.lt_irrefl _)⟩
  |succ j=>exact nS h
 |y::z::r,a,j,x,h=>by
  cases j with
  |zero=>
   obtain rfl:=aB h
   have:eB (y::z::r).length 0=1:=if_pos (by simp only [bF];exact N3 (aW (aW (aX _) (aN _)) (aN _)))
   refine rl this ?_
   exact ⟨rfl,rfl,fun _=>rfl⟩
  |succ j=>
   have ih:=HJ (z::r) (a+3) j x h
   have e:eB (y::z::r).length (j+1)=eB (z::r).length j:=by
    unfold eB
    simp only [bF]
    by_cases q:j+1<r.length+1
    ·exact rl (if_pos q) (rl (if_pos (by exact Nat.add_lt_add_right q _)) rfl)
    ·exact rl (if_neg q) (rl (if_neg (by exact UI q)) rfl)
   refine rl e (rl wO (rl (show 3*(j+1)+eB (z::r).length j=(3*j+eB (z::r).length j)+3 from Nat.add_right_comm (3*j) 3 _) ?_))
   refine ⟨ih.1,ih.2.1,fun q=>?_⟩
   refine rl (show 3*(j+1)=3*j+3 from rfl) ?_
   refine rl (show a+(3*j+3)+3=a+3+3*j+3 from aQ (· + 3) (Nat.add_right_comm a (3*j) 3)) ?_
   exact ih.2.2 (by simp only [bF] at q ⊢;exact Nat.lt_of_succ_le (cS q))
theorem uQ {s:dB}(h:eI many s):(rowsOf f a s).length=fR s:=by
 cases s with
 |fin=>rfl
 |go b ws=>
  cases b with
  |false=>rfl
  |true=>exact Mm ws a h.lo
theorem Ez {s:dB}(h:eI many s):1≤fR s∧fR s≤17:=by
 cases s with
 |fin=>exact ⟨aN _,by decide⟩
 |go b ws=>
  have h1:=h.lo
  have h2:=h.hi
  cases b with
  |false=>exact ⟨aN _,show 1≤17 by decide⟩
  |true=>exact ⟨aD (by decide:1≤3*1-1) (Nat.sub_le_sub_right (cP 3 h1) 1),Nat.sub_le_sub_right (cP 3 h2) 1⟩
theorem Ze:∀(ps:List dB) (a:Nat),(∀s∈ps,eI many s)→(iM f a ps).length=(ps.map fR).sum
 |[],_,_=>rfl
 |s::r,a,h=>by
  show (rowsOf f a s++iM f (a+fR s) r).length=fR s+(r.map fR).sum
  exact rl aE (rl (uQ (h s aH)) (rl (Ze r _ fun t ht=>h t (aT _ ht)) rfl))
theorem Zf:∀(ps:List dB),(∀s∈ps,eI many s)→(ps.map fR).sum≤17*ps.length
 |[],_=>aN _
 |s::r,h=>by
  have h1:=(Ez (h s aH)).2
  have:=Zf r fun t ht=>h t (aT _ ht)
  show fR s+(r.map fR).sum≤17*(r.length+1)
  exact UH h1 this
theorem Iy {ps:List dB}{i:Nat}{s:dB}(h:ps[i]? = some s):jT ps (i+1)=jT ps i+fR s:=by
 unfold jT
 refine rl List.take_succ (rl h (rl aM (rl List.sum_append_nat ?_)))
 show _+(fR s+0)=_
 rfl
theorem Zg:∀(ps:List dB) (i:Nat),jT ps i≤(ps.map fR).sum
 |[],i=>by unfold jT;refine rl List.take_nil ?_;exact aN _
 |s::r,0=>aX _
 |s::r,i+1=>Nat.add_le_add_left (Zg r i) (fR s)
theorem HK:∀(ps:List dB) (a i j:Nat) (s:dB),(∀s∈ps,eI many s)→ps[i]? = some s→j<fR s→(iM f a ps)[jT ps i+j]? = (rowsOf f (a+jT ps i) s)[j]?
 |[],_,_,_,_,_,h,_=>by exact nS h
 |t::r,a,0,j,s,hg,h,hj=>by
  obtain rfl:=aB h
  show (rowsOf f a t++iM f (a+fR t) r)[0+j]? = (rowsOf f (a+0) t)[j]?
  refine rl (Nat.zero_add ..) (rl (bH (by rw [uQ (hg t aH)];exact hj)) ?_);rfl
 |t::r,a,i+1,j,s,hg,h,hj=>by
  have ih:=HK r (a+fR t) i j s (fun u hu=>hg u (aT _ hu)) h hj
  have eb:jT (t::r) (i+1)=fR t+jT r i:=rfl
  have hl:=uQ (f:=f) (a:=a) (hg t aH)
  show (rowsOf f a t++iM f (a+fR t) r)[jT (t::r) (i+1)+j]? = (rowsOf f (a+jT (t::r) (i+1)) s)[j]?
  exact rl (bO (by rw [hl,eb];exact aD (bW _ _) (bW _ _))) (rl hl (rl eb (rl (show fR t+jT r i+j-fR t=jT r i+j by rw [Nat.add_assoc,Nat.add_sub_cancel_left]) (rl ih (rl (Nat.add_assoc ..) rfl)))))
noncomputable def kC (many:Int) (a:Nat) (rs:List Row):Prop:=∀(i:Nat) (r:Row),rs[i]? = some r→gV many ((a+i:Nat):Int) r
theorem zP:kC many a []:=fun i r h=>by exact nS h
theorem oC {r:Row}{rs:List Row}(h:gV many a r) (h2:kC many (a+1) rs):kC many a (r::rs):=fun i r' e=>by
 cases i with
 |zero=>obtain rfl:=aB e;exact h
 |succ i=>
  have:=h2 i r' e
  rwa [Nat.add_right_comm] at this
theorem LE {rs ss:List Row}(h:kC many a rs) (h2:kC many (a+rs.length) ss):kC many a (rs++ss):=fun i r e=>by
 rcases Nat.lt_or_ge i rs.length with q | q
 ·rw [bH q] at e
  exact h i r e
 ·rw [bO q] at e
  have:=h2 _ r e
  rwa [show a+rs.length+(i-rs.length)=a+i by exact rl (Nat.add_assoc ..) (rl (Nat.add_sub_cancel' q) rfl)] at this
theorem Pg:∀(ws:List (Str×Int)) (a:Nat),(∀x∈ws,GoodW x.1∧0≤f x.2∧f x.2≤many-1)→((a+(eJ f a ws).length:Nat):Int)≤many→kC many a (eJ f a ws)
 |[],_,_,_=>zP
 |[x],a,h,hl=>by
  have hx:=h x aH
  have hl:((a+2:Nat):Int)≤many:=hl
  exact oC ⟨hx.1,by exact UG hl⟩ (oC hx.2 zP)
 |x::y::r,a,h,hl=>by
  have hx:=h x aH
  have h2:=Mm (f:=f) (y::r) (a+3) (cU (aX _))
  rw [wO] at hl ⊢
  simp only [bF] at hl h2
  refine oC ⟨⟨by exact Z2 (Bc (aW (aX _) (aN _))),by exact UF h2 hl⟩,by exact UE hl⟩ (oC ⟨hx.1,by exact UD hl⟩ (oC hx.2 (Pg (y::r) (a+3) (fun z hz=>h z (aT _ hz)) (by exact UC hl))))
theorem Ph:∀(ps:List dB) (a:Nat) (n:Int),(∀s∈ps,eI n s)→(∀g,0≤g→g≤n-1→0≤f g∧f g≤many-1)→((a+(ps.map fR).sum:Nat):Int)≤many→kC many a (iM f a ps)
 |[],_,_,_,_,_=>zP
 |s::r,a,n,hg,hf,hl=>by
  have hs:=hg s aH
  have e:=uQ (f:=f) (a:=a) hs
  have hl:((a+(fR s+(r.map fR).sum):Nat):Int)≤many:=hl
  refine LE ?_ ?_
  ·cases s with
   |fin=>exact oC trivial zP
   |go b ws=>
    have hs:eA n ws:=hs
    cases b with
    |false=>
     refine oC (show eA many (ws.map fun x=>(x.1,f x.2)) from ⟨by refine rl (aA ..) ?_;exact hs.lo,by refine rl (aA ..) ?_;exact hs.hi,fun x hx=>?_,fun x hx=>?_,Ep hs.asc⟩) zP
     ·refine dF (aJ.mp hx) fun y hy e_e=>?_;subst e_e
      exact hs.words y hy
     ·refine dF (aJ.mp hx) fun y hy e_e=>?_;subst e_e
      exact hf _ (hs.goals y hy).1 (hs.goals y hy).2
    |true=>
     refine Pg ws a (fun x hx=>⟨hs.words x hx,hf _ (hs.goals x hx).1 (hs.goals x hx).2⟩) ?_
     have e:(eJ f a ws).length=fR (.go true ws):=e
     refine rl e ?_;exact UB hl
  ·refine rl e ?_
   exact Ph r _ n (fun t ht=>hg t (aT _ ht)) hf (by exact UA hl)
end
section
variable {ps:List dB}
theorem Iz (h:dA ps):(prog ps).length=(ps.map fR).sum:=Ze ps 0 h.stops
theorem Mn (h:dA ps) {g:Int}(h0:0≤g) (h1:g<ps.length):jT ps g.toNat<(ps.map fR).sum:=by
 have hi:g.toNat<ps.length:=by exact A2 h0 h1
 have:=Iy (aP hi)
 have h2:=Zg ps (g.toNat+1)
 have h3:=(Ez (h.stops _ (cM hi))).1
 exact aR (aR (Nat.lt_add_of_pos_right (N3 h3)) (A0 this)) h2
theorem nF (h:dA ps):gF (prog ps):=by
 have e:=Iz h
 have hs:=Zf ps h.stops
 have h1:=h.lo
 have h12:=h.hi
 refine ⟨?_,by exact L1 (aD (bM e) (aD hs (cP _ h12))),?_⟩
 ·have:=Mn h (g:=0) (by decide) (by exact Z3 (Bc h1))
  exact Nat.succ_le_of_lt (aR (cR (N2 (aX _)) this) (A0 e))
 ·have:=Ph (f:=gM ps) (many:=((ps.map fR).sum:Nat)) ps 0 ps.length h.stops (fun g h0 h1=>?_) (by exact Bc (bM (Nat.add_comm _ _)))
  ·intro i r hr
   have:=this i r hr
   rwa [Nat.zero_add,←e] at this
  ·have:=Mn h h0 (by exact PJ h1)
   unfold gM
   exact ⟨(Z2 (Bc (aX _))),(Z5 (FG this))⟩
theorem Fa (h:dA ps) {g:Int}(h0:0≤g) (h1:g<ps.length) {j:Nat}(hj:j<fR (atS ps g)):(prog ps)[jT ps g.toNat+j]? = (rowsOf (gM ps) (jT ps g.toNat) (atS ps g))[j]?:=by
 have hi:g.toNat<ps.length:=by exact A2 h0 h1
 have e:atS ps g=ps[g.toNat]:=by unfold atS;exact dL hi
 have:=HK (f:=gM ps) ps 0 g.toNat j ps[g.toNat] h.stops (aP hi) (by refine rr e ?_;exact hj)
 refine rl e ?_
 rwa [Nat.zero_add] at this
end
end
section
noncomputable def Tn (ps:List dB) (n:Nat):List V:=(List.range n).map fun i=>V.int (jT ps i:Nat)
theorem LF {ps:List dB}{n:Nat}{g:Int}(h0:0≤g) (h1:g<n):(Tn ps n)[g.toNat]? = some (.int (gM ps g)):=by
 unfold Tn
 refine rl (bG) (rl (List.getElem?_range (by exact A2 h0 h1)) ?_);rfl
section
variable {H:Hp}{b:V}{R:List Row}
theorem RD {v:V}(r:Row) (hv:v=r.v) (hl:R.length≤1000):oJ (H++[b,V.lst (R.map Row.v)]) .append (.ref (H.length+1)) [v]=some (.none,H++[b,V.lst ((R++[r]).map Row.v)]):=by
 refine (fO (dX (j:=1)) (by refine rl (aA ..) ?_;exact L1 hl)).trans (aQ (fun x=>some (V.none,x)) ((fZ (j:=1)).trans ?_))
 refine rl aM (rl hv ?_);rfl
theorem RE:nL (H++[b,V.lst (R.map Row.v)]) (.ref (H.length+1))=true:=eR (dX (j:=1))
theorem RF {xs:List V}{x:V}{j:Int}(h0:0≤j) (hj:j<1000) (hx:xs[j.toNat]? = some x):fH H (.tup xs) (.int j)=some x:=by
 have hl:=(aS.mp hx).1
 exact (hU (p:=0≤j∧j<xs.length∧j<9223372036854775808) ⟨h0,by exact A3 hl,by exact Z1 (Z5 hj)⟩ hx)
theorem Cp {xs:List V}(h:xs.length≤1000):dS H .tuple [.lst xs]=some (.tup xs):=dJ (dP (by exact L1 h)) rfl
end
noncomputable def Zh (ps:List dB) (H:Hp) (o2 o3 o5 o6 o7:Option V):Loc:=[some (.lst (ps.map dB.v)),some (.ref H.length),o2,o3,some (.ref (H.length+1)),o5,o6,o7]
noncomputable def Mo (ps:List dB) (H:Hp) (R:List Row):Hp:=H++[.lst (Tn ps ps.length),.lst (R.map Row.v)]
section
variable {P:Nat→Option Fn}{fuel k:Nat}{H:Hp}{ps:List dB}
theorem Zi (h:ps.length≤12) {R:List Row}{i:Int}(h0:0≤i) (h1:i≤ps.length-1):fH (Mo ps H R) (.ref H.length) (.int i)=some (.int (gM ps i)):=by
 have:=(dH.ref H.length (dX (H:=H) (K:=[.lst (Tn ps ps.length),.lst (R.map Row.v)]) (j:=0))).sub (i:=i.toNat) (x:=.int (gM ps i)) (LF h0 (by exact PJ h1)) (by unfold Tn;refine rl (aA ..) (rl bE ?_);exact L1 h)
 rwa [bP h0] at this
theorem zQ {R:List Row}{v:V}(r:Row) (hv:v=r.v) (hl:R.length≤1000):oJ (Mo ps H R) .append (.ref (H.length+1)) [v]=some (.none,Mo ps H (R++[r])):=RD r hv hl
theorem zR {R:List Row}:nL (Mo ps H R) (.ref (H.length+1))=true:=RE
theorem LG (h:ps.length≤12) {c:Ctx}{s:dB}(hfin:s.isFin=false) {o2 o5 o6 o7:Option V}{K:Loc→Hp→Option (V×Bool×Hp)}{L:V→Hp→Option (V×Bool×Hp)}{z:Option (V×Bool×Hp)}{R:List Row}(hR:R.length≤240) {l jI:Int}{y:Str×Int}(hl:∀H',dS H' .len [.tup (s.ways.map wv)]=some (.int l)) (hj:∀H',fH H' (.tup (s.ways.map wv)) (.int jI)=some (wv y)) (h0:0≤y.2) (h1:y.2≤ps.length-1)
  (hK:K (Zh ps H o2 (some s.v) (some (.str y.1)) (some (.int y.2)) (some (.int jI))) (Mo ps H (R++(if jI<l-1 then [Row.flip ((R.length+3:Nat):Int),Row.send y.1,Row.jump (gM ps y.2)] else [Row.send y.1,Row.jump (gM ps y.2)])))=z) :
  gJ (.slot 7) (fun ρ H K=>dG c iC.body.tl.tl.tl.tl.tl.hd.inner.hd.els.hd.els.hd.inner ρ H K L) (.int jI) (Zh ps H o2 (some s.v) o5 o6 o7) (Mo ps H R) K=z:=by
 have two:∀(R:List Row),R.length≤241→K (Zh ps H o2 (some s.v) (some (.str y.1)) (some (.int y.2)) (some (.int jI))) (Mo ps H (R++[Row.send y.1]++[Row.jump (gM ps y.2)]))=z→dG c iC.body.tl.tl.tl.tl.tl.hd.inner.hd.els.hd.els.hd.inner.tl.tl (Zh ps H o2 (some s.v) (some (.str y.1)) (some (.int y.2)) (some (.int jI))) (Mo ps H R) K L=z:=by
  intro R hRl hK
  refine dJ zR ?_
  refine eH (zQ (.send y.1) rfl (by exact L1 hRl)) ?_
  refine dJ zR ?_
  refine cX (Zi h h0 h1) ?_
  refine eH (zQ (.jump (gM ps y.2)) rfl (by refine rl aE ?_;show _+1≤_;exact L1 (aW hRl (aN _)))) ?_
  exact hK
 refine cX (kT hfin) ?_
 refine cX (hj _) ?_
 refine cX (kT hfin) ?_
 refine dC (hl _) ?_
 by_cases q:jI<l-1
 ·rw [if_pos q] at hK
  refine eY (aO q) ?_
  refine dJ zR ?_
  refine dC (v:=.int (R.length:Int)) ((jR (dX (j:=1)) (by refine rl (aA ..) ?_;exact L1 hR)).trans (by exact rl (aA ..) rfl)) ?_
  refine eH (zQ (.flip ((R.length+3:Nat):Int)) rfl (by exact L1 hR)) ?_
  refine two _ (by refine rl aE ?_;show _+1≤_;exact L1 (aW hR (aN _))) ?_
  refine rl (bC ..) (rl (bC ..) ?_)
  exact hK
 ·rw [if_neg q] at hK
  refine dR (aU q) ?_
  refine two _ (by exact L1 hR) ?_
  refine rl (bC ..) ?_
  exact hK
theorem ED (h:dA ps) {c:Ctx}{s:dB}(hs:eI ps.length s) (hsd:s.isSend=true) {o2 o5 o6 o7:Option V}{K:Loc→Hp→Option (V×Bool×Hp)}{L:V→Hp→Option (V×Bool×Hp)}{z:Option (V×Bool×Hp)}{R:List Row}(hR:(R++eJ (gM ps) R.length s.ways).length≤240)
  (hK:∀o5 o6 o7,K (Zh ps H o2 (some s.v) o5 o6 o7) (Mo ps H (R++eJ (gM ps) R.length s.ways))=z):dG c iC.body.tl.tl.tl.tl.tl.hd.inner.hd.els.hd.els (Zh ps H o2 (some s.v) o5 o6 o7) (Mo ps H R) K L=z:=by
 have hfin:=Iw hsd
 have hw:s.ways.length≤6∧∀y∈s.ways,0≤y.2∧y.2≤ps.length-1:=by cases s with | fin=>exact tF hfin | go b ws=>exact ⟨eA.hi hs,eA.goals hs⟩
 obtain ⟨l,el,hl⟩:∃l:Int,l=s.ways.length∧∀H',dS H' .len [.tup (s.ways.map wv)]=some (.int l):=⟨_,rfl,fun H'=>(wF (by refine rl (aA ..) ?_;exact L1 hw.1)).trans (by exact rl (aA ..) rfl)⟩
 have hl0:=hw.1
 refine cX (kT hfin) ?_
 refine dC (hl _) ?_
 refine kG (by exact Z2 (bI (Bc (aX _)) (A1 el))) (by exact L2 (bI (cO el) (Bc hw.1))) ?_
 refine rl (show jK l=(List.range' 0 s.ways.length).map fun (t:Nat)=>V.int (t:Int) by unfold jK;rw [el,Int.toNat_natCast,List.range_eq_range']) ?_
 refine Xe (fun (_:List Row) o5 o6 o7=>Zh ps H o2 (some s.v) o5 o6 o7) (fun R _ _ _=>Mo ps H R) (fun xs R' _ _ _=>∃j,j≤s.ways.length∧xs=List.range' j (s.ways.length-j)∧R'++eJ (gM ps) R'.length (s.ways.drop j)=R++eJ (gM ps) R.length s.ways) (fun _ _ _ _=>by rfl) ?_ ?_ _ R o5 o6 o7 ⟨0,aX _,rfl,rfl⟩
 ·intro x xs R' o5 o6 o7 K' hi hK'
  have fact:∃y:Str×Int,0≤y.2∧y.2≤ps.length-1∧R'.length≤240∧(∀H',fH H' (.tup (s.ways.map wv)) (.int (x:Int))=some (wv y))∧∃j,j≤s.ways.length∧xs=List.range' j (s.ways.length-j)∧(R'++(if (x:Int)<l-1 then [Row.flip ((R'.length+3:Nat):Int),Row.send y.1,Row.jump (gM ps y.2)] else [Row.send y.1,Row.jump (gM ps y.2)]))++eJ (gM ps) (R'++(if (x:Int)<l-1 then [Row.flip ((R'.length+3:Nat):Int),Row.send y.1,Row.jump (gM ps y.2)] else [Row.send y.1,Row.jump (gM ps y.2)])).length (s.ways.drop j)=R++eJ (gM ps) R.length s.ways:=by
   refine fU hi fun j hj e hR'=>?_
   cases q:s.ways.length-j with
   |zero=>rw [q] at e;cases e
   |succ d=>
    rw [q,List.range'_succ] at e
    refine Tq (List.cons.inj e) fun e_e=>?_;subst e_e;intro e_e;subst e_e
    have hjl:x<s.ways.length:=by exact Nat.lt_of_sub_pos (aR (N3 (aW (aX _) (aN _))) (A0 q))
    have hy:=aP hjl
    have hym:=hw.2 _ (cM hjl)
    have hdr:=List.drop_eq_getElem_cons hjl
    generalize s.ways[x]=y at hy hym hdr
    have hlen:R'.length≤240:=by have:=aQ List.length hR';rw [aE] at this;exact aD (aD (bW _ _) (bM this)) hR
    refine ⟨y,hym.1,hym.2,hlen,fun H'=>RF (by exact Z2 (Bc (aX _))) (by exact Z1 (Bc (aD (cI hjl) hw.1))) (by refine rl (Int.toNat_natCast ..) (rl (bG) (rl hy ?_));rfl),x+1,by exact Nat.succ_le_of_lt hjl,by exact rl (show s.ways.length-(x+1)=d from (Nat.sub_succ _ _).trans (aQ Nat.pred q)) rfl,?_⟩
    refine rr hR' (rl hdr ?_)
    by_cases qj:x+1<s.ways.length
    ·refine rl (if_pos (by exact UK el qj)) (rl (List.drop_eq_getElem_cons qj) (rl wO (rl (bC ..) (rl aE ?_))));rfl
    ·refine rl (if_neg (by exact UJ el qj)) (rl (List.drop_eq_nil_of_le (Nat.le_of_not_lt qj)) (rl LD (rl (bC ..) ?_)));rfl
  refine PS fact fun y h0 h1 hlen hsub hnew=>?_
  exact LG h.hi hfin hlen hl hsub h0 h1 (hK' _ _ _ _ hnew)
 ·intro R' o5 o6 o7 hi
  have:R'=R++eJ (gM ps) R.length s.ways:=by
   refine fU hi fun j hj e hR'=>?_
   have hj2:s.ways.length-j=0:=by
    cases q:s.ways.length-j with
    |zero=>rfl
    |succ d=>rw [q] at e;cases e
   rw [List.drop_eq_nil_of_le (by exact Nat.le_of_sub_eq_zero hj2)] at hR'
   refine rr hR' ?_;exact (bV _).symm
  refine rl this ?_
  exact hK o5 o6 o7
theorem EE (h:dA ps) {c:Ctx}{s:dB}(hs:eI ps.length s) {o2 o3 o5 o6 o7:Option V}{K:Loc→Hp→Option (V×Bool×Hp)}{L:V→Hp→Option (V×Bool×Hp)}{z:Option (V×Bool×Hp)}{R:List Row}(hR:(R++rowsOf (gM ps) R.length s).length≤240)
  (hK:∀o5 o6 o7,K (Zh ps H o2 (some s.v) o5 o6 o7) (Mo ps H (R++rowsOf (gM ps) R.length s))=z):gJ (.slot 3) (fun ρ H K=>dG c iC.body.tl.tl.tl.tl.tl.hd.inner ρ H K L) s.v (Zh ps H o2 o3 o5 o6 o7) (Mo ps H R) K=z:=by
 have hRl:R.length≤240:=by rw [aE] at hR;exact aD (bW _ _) hR
 refine cX jZ ?_
 refine dN kd_end ?_
 cases hfin:s.isFin with
 |true=>
  have es:s=.fin:=by cases s with | fin=>rfl | go=>exact fT hfin
  subst es
  refine dJ zR ?_
  refine eH (zQ .fin rfl (by exact L1 hRl)) ?_
  exact hK _ _ _
 |false=>
  refine cX jZ ?_
  refine dN Ef ?_
  cases hget:s.isGet with
  |false=>
   have hsd:s.isSend=true:=by rw [Eh s hfin] at hget;cases q:s.isSend with | true=>rfl | false=>rw [q] at hget;exact tF hget
   have es:rowsOf (gM ps) R.length s=eJ (gM ps) R.length s.ways:=by cases s with | fin=>exact tF hfin | go b ws=>cases b;exact tF hget;rfl
   rw [es] at hR hK
   exact ED h hs hsd hR hK
  |true=>
   have es:rowsOf (gM ps) R.length s=[.get (s.ways.map fun x=>(x.1,gM ps x.2))]:=by cases s with | fin=>exact tF hfin | go b ws=>cases b;rfl;exact fT hget
   have hw:s.ways.length≤6∧∀y∈s.ways,0≤y.2∧y.2≤ps.length-1:=by cases s with | fin=>exact tF hfin | go b ws=>exact ⟨eA.hi hs,eA.goals hs⟩
   have h6:=hw.1
   rw [es] at hK
   refine dJ zR ?_
   refine cX (kT hfin) ?_
   refine gX (a:=wv) (b:=fun y=>wv (y.1,gM ps y.2)) same_self s.ways [] (fun y hy K2 hK2=>?_) (by show 0+_≤_;exact L1 (aW (aN _) hw.1)) ?_
   ·refine cX (Zi h.hi (hw.2 y hy).1 (hw.2 y hy).2) ?_
    exact hK2
   ·refine dC (Cp (by refine rl (List.nil_append ..) (rl (aA ..) ?_);exact L1 hw.1)) ?_
    refine eH (zQ (.get (s.ways.map fun y=>(y.1,gM ps y.2))) (by show _=V.tup [_,.tup ((s.ways.map _).map wv)];refine rl bJ ?_;rfl) (by exact L1 hRl)) ?_
    exact hK _ _ _
variable (g:Gen P) (gx:GX P)
include g gx
theorem qX (h:dA ps):F P fuel (k+5) 64 [.lst (ps.map dB.v)] H=some (.lst ((prog ps).map Row.v),true,H):=by
 have h12:=h.hi
 have h240:=(nF h).hi
 refine eV gx.followed rfl fun c hF _=>?_
 refine cY ((hF _ _ _).trans (iV g gx h .lst)) ?_
 have tail:∀(o2 o3:Option V),dG c iC.body.tl.tl.tl.tl.tl (Zh ps H o2 o3 none none none) (Mo ps H []) (fun _ H1=>finish H H1 .none) (fun v H1=>finish H H1 v)=some (.lst ((prog ps).map Row.v),true,H):=by
  intro o2 o3
  refine OM (fun (_:List Row) o3 o5 o6 o7=>Zh ps H o2 o3 o5 o6 o7) (fun R _ _ _ _=>Mo ps H R) (fun r R _ _ _ _=>(∀s∈r,s∈ps)∧R++iM (gM ps) R.length r=prog ps) (fun _ _ _ _ _=>by rfl) ?_ ?_ ps [] o3 none none none ⟨fun _ q=>q,rfl⟩
  ·intro s r R o3 o5 o6 o7 K' hi hK'
   have hs:=h.stops s (hi.1 s aH)
   have e:=uQ (f:=gM ps) (a:=R.length) hs
   have hR:R++rowsOf (gM ps) R.length s++iM (gM ps) (R.length+fR s) r=prog ps:=(bC _ _ _).trans hi.2
   have hl:=aQ List.length hR
   rw [aE] at hl
   refine EE h hs (by exact aD (aD (bW _ _) (bM hl)) h240) fun o5 o6 o7=>hK' _ _ _ _ _ ⟨fun t ht=>hi.1 t (aT _ ht),?_⟩
   refine rl aE (rl e ?_)
   exact hR
  ·intro R o3 o5 o6 o7 hi
   have hR:R++[]=prog ps:=hi.2
   refine rr hR (rl (bV ..) ?_)
   exact Er (Nat.le_succ _) (dX (j:=1)) (mT _ _)
 refine Ro (G:=none) (H0:=H++[V.lst []]) (a:=dB.v) (fun (dn:List dB) o3=>[some (.lst (ps.map dB.v)),some (.ref H.length),some (.int (jT ps dn.length:Nat)),o3,none,none,none,none]) (fun dn _=>H++[.lst (Tn ps dn.length)]) (fun r dn _=>dn++r=ps) (fun _ _=>by rfl) ?_ ?_ ps [] none rfl
 ·intro s r dn o3 K' hd hK'
  have hm:s∈ps:=by refine rr hd ?_;exact aY.mpr (.inr aH)
  have hdl:dn.length≤12:=by have:=aQ List.length hd;rw [aE] at this;exact aD (aD (bW _ _) (bM this)) h12
  have hat:ps[dn.length]? = some s:=by refine rr hd (rl (bO (aN _)) (rl (Nat.sub_self ..) ?_));rfl
  have hb:=Iy hat
  have hbg:Tn ps (dn.length+1)=Tn ps dn.length++[V.int (jT ps dn.length:Nat)]:=by unfold Tn;refine rl List.range_succ (rl aM ?_);rfl
  have hk:=hK' (dn++[s]) (some s.v) ((bC _ _ _).trans hd)
  rw [aE,show dn.length+[s].length=dn.length+1 from rfl,hb,hbg] at hk
  refine dJ (eR jF) ?_
  refine eH ((fO jF (by unfold Tn;refine rl (aA ..) (rl bE ?_);exact L1 hdl)).trans (aQ some (aQ (Prod.mk _) wH))) ?_
  refine cY ((hF _ _ _).trans (Ml gx (h.stops s hm))) ?_
  exact hk
 ·intro dn o3 hd
  rw [bV] at hd
  subst hd
  refine Eq.trans ?_ (tail (some (.int (jT dn dn.length:Nat))) o3)
  show dG c iC.body.tl.tl.tl.tl.tl [some (.lst (dn.map dB.v)),some (.ref H.length),some _,o3,some (.ref (H++[V.lst (Tn dn dn.length)]).length),none,none,none] (H++[V.lst (Tn dn dn.length)]++[V.lst []]) _ _=_
  refine rl (bC ..) (rl aE ?_)
  rfl
end
end
section
structure Zj (R:List Row) (ps:List dB) (Q:Nat→Int→Prop):Prop where
 fin:∀r s,Q r s→R.getD r .fin=.fin→(atS ps s).isFin=true
 send:∀r s w,Q r s→R.getD r .fin=.send w→(atS ps s).isSend=true∧w∈(atS ps s).words∧Q (r+1) (lS (atS ps s).ways w)
 get:∀r s ws,Q r s→R.getD r .fin=.get ws→(atS ps s).isGet=true∧∀w∈(atS ps s).words,∃g,find ws w=some g∧Q g.toNat (lS (atS ps s).ways w)
 flip:∀r s g,Q r s→R.getD r .fin=.flip g→Q (r+1) s∧Q g.toNat s
 jump:∀r s g,Q r s→R.getD r .fin=.jump g→Q g.toNat s
structure zS (R:List Row) (ps:List dB) (Q:Nat→Int→Prop) (rk:Nat→Int→Nat):Prop where
 f:Zj R ps Q
 zero:Q 0 0
 bnd:∀r s,Q r s→r<R.length∧(0≤s∧s<ps.length)∧rk r s≤1000
 flip:∀r s g,Q r s→R.getD r .fin=.flip g→rk (r+1) s<rk r s∧rk g.toNat s<rk r s
 jump:∀r s g,Q r s→R.getD r .fin=.jump g→rk g.toNat s<rk r s
theorem zS.keeps {R:List Row}{ps:List dB}{Q:Nat→Int→Prop}{rk:Nat→Int→Nat}(h:zS R ps Q rk) (hg:dA ps) (hR:gF R):Keeps R ps:=by
 have row:∀n s,Q n s→gV R.length n (R.getD n .fin):=fun n s q=>hR.rows n _ (by refine rl (bA) (rl (aP (h.bnd n s q).1) ?_);rfl)
 have go:∀r s,qN R ps r s→∃n:Nat,r=n∧Q n s:=fun r s k=>by
  induction k with
  |zero=>exact ⟨0,rfl,h.zero⟩
  |@sil r r' s _ hr ih=>
   refine dF ih fun n e_e=>?_;clear ih;subst e_e;intro q
   have gr:=row n s q
   rw [lM] at hr
   cases e:R.getD n .fin with
   |jump g=>
    rw [e] at hr gr
    cases aG.mp hr
    exact ⟨r'.toNat,(bP gr.1).symm,h.f.jump n s r' q e⟩
   |flip g=>
    rw [e] at hr gr
    rcases aZ.mp hr with rfl | hr
    ·exact ⟨n+1,rfl,(h.f.flip n s g q e).1⟩
    ·cases aG.mp hr
     exact ⟨r'.toNat,(bP gr.1.1).symm,(h.f.flip n s r' q e).2⟩
   |_=>rw [e] at hr;cases hr
  |@lt r r' s s' _ hb hr ih=>
   refine dF ih fun n e_e=>?_;clear ih;subst e_e;intro q
   have gr:=row n s q
   have hs:=(h.bnd n s q).2.1
   rw [lM] at hr
   cases e:R.getD n .fin with
   |send w=>
    rw [e] at hr
    cases aG.mp hr
    exact ⟨n+1,rfl,(h.f.send n s w q e).2.2⟩
   |get ws=>
    rw [e] at hr gr
    refine dF (aJ.mp hr) fun x hx ex=>?_
    obtain ⟨rfl,rfl⟩:=Prod.mk.inj ex
    refine dF ((h.f.get n s ws q e).2 x.1 (aJ.mpr ⟨x,hx,rfl⟩)) fun g eg qg=>?_
    rw [jO (dW (hg.stops _ (eQ hs.1 hs.2))).2.2 hx] at qg
    refine ⟨g.toNat,?_,qg⟩
    refine rl (bP (eA.goals gr _ (mV eg)).1) ?_
    unfold lS
    refine rl eg ?_;rfl
   |_=>rw [e] at hr;cases hr
 have tm:∀m n s,rk n s≤m→Q n s→vP R n:=fun m=>by
  induction m with
  |zero=>exact fun n s hm q=>⟨fun r' hr=>by
    rw [lM] at hr
    cases e:R.getD n .fin with
    |jump g=>exact absurd (h.jump n s g q e) (by exact RU hm)
    |flip g=>exact absurd (h.flip n s g q e).1 (by exact RU hm)
    |_=>rw [e] at hr;cases hr⟩
  |succ m ih=>exact fun n s hm q=>⟨fun r' hr=>by
    have gr:=row n s q
    rw [lM] at hr
    cases e:R.getD n .fin with
    |jump g=>
     rw [e] at hr gr
     cases aG.mp hr
     have:=ih r'.toNat s (by have:=h.jump n s r' q e;exact cS (aR this hm)) (h.f.jump n s r' q e)
     rwa [bP gr.1] at this
    |flip g=>
     rw [e] at hr gr
     have hl:=h.flip n s g q e
     rcases aZ.mp hr with rfl | hr
     ·exact ih (n+1) s (by exact cS (aR hl.1 hm)) (h.f.flip n s g q e).1
     ·cases aG.mp hr
      have:=ih r'.toNat s (by exact cS (aR hl.2 hm)) (h.f.flip n s r' q e).2
      rwa [bP gr.1.1] at this
    |_=>rw [e] at hr;cases hr⟩
 refine ⟨fun r s k=>?_,fun r s k=>?_⟩
 ·refine dF (go r s k) fun n e_e q=>?_;subst e_e
  exact tm _ n s (aN _) q
 ·refine dF (go r s k) fun n e_e q=>?_;subst e_e
  refine rl lM ?_
  cases e:R.getD n .fin with
  |jump g=>exact .inl rfl
  |flip g=>exact .inl rfl
  |fin=>exact .inr (h.f.fin n s q e)
  |send w=>
   have:=h.f.send n s w q e
   exact .inr (aF.mpr ⟨this.1,aO this.2.1⟩)
  |get ws=>
   have:=h.f.get n s ws q e
   refine .inr (aF.mpr ⟨this.1,bR.mpr fun w hw=>?_⟩)
   refine dF (this.2 w hw) fun g eg _=>?_
   refine rl eg ?_;rfl
inductive Zk (ps:List dB):Nat→Int→Prop
 |one {s:Int}:0≤s→s<ps.length→(atS ps s).isSend=false→Zk ps (jT ps s.toNat) s
 |blk {s:Int}{j:Nat}:0≤s→s<ps.length→(atS ps s).isSend=true→j<(atS ps s).ways.length→Zk ps (jT ps s.toNat+3*j) s
 |snd {s:Int}{j:Nat}:0≤s→s<ps.length→(atS ps s).isSend=true→j<(atS ps s).ways.length→Zk ps (jT ps s.toNat+(3*j+eB (atS ps s).ways.length j)) s
 |jmp {s:Int}{j:Nat}{x:Str×Int}:0≤s→s<ps.length→(atS ps s).isSend=true→(atS ps s).ways[j]? = some x→Zk ps (jT ps s.toNat+(3*j+eB (atS ps s).ways.length j+1)) x.2
noncomputable def To (ps:List dB) (r:Nat) (_:Int):Nat:=match (prog ps).getD r .fin with
 |.jump _=>1000
 |_=>240-r
section
variable {ps:List dB}(hg:dA ps)
include hg
theorem tP {s:Int}(h0:0≤s) (h1:s<ps.length) (hs:(atS ps s).isSend=true) {j:Nat}{x:Str×Int}(hx:(atS ps s).ways[j]? = some x) :
  (prog ps)[jT ps s.toNat+(3*j+eB (atS ps s).ways.length j)]? = some (.send x.1)∧(prog ps)[jT ps s.toNat+(3*j+eB (atS ps s).ways.length j+1)]? = some (.jump (gM ps x.2))∧(j+1<(atS ps s).ways.length→(prog ps)[jT ps s.toNat+3*j]? = some (.flip ((jT ps s.toNat+3*j+3:Nat):Int))):=by
 have hg':=hg.stops _ (eQ h0 h1)
 have hp:=fun j=>Fa hg h0 h1 (j:=j)
 have hl:=uQ (f:=gM ps) (a:=jT ps s.toNat) hg'
 have er:rowsOf (gM ps) (jT ps s.toNat) (atS ps s)=eJ (gM ps) (jT ps s.toNat) (atS ps s).ways:=by
  cases e:atS ps s with
  |fin=>rw [e] at hs;exact fT hs
  |go b ws=>rw [e] at hs;cases (show b=true from hs);rfl
 rw [er] at hp hl
 refine iE (HJ (f:=gM ps) (atS ps s).ways (jT ps s.toNat) j x hx) fun a b c=>?_
 have lt:∀{i:Nat}{r:Row},(eJ (gM ps) (jT ps s.toNat) (atS ps s).ways)[i]? = some r→i<fR (atS ps s):=fun e=>hl ▸ (aS.mp e).1
 exact ⟨(hp _ (lt a)).trans a,(hp _ (lt b)).trans b,fun q=>(hp _ (lt (c q))).trans (c q)⟩
theorem Zl {s:Int}(h0:0≤s) (h1:s<ps.length) (hs:(atS ps s).isFin=true):(prog ps).getD (jT ps s.toNat) .fin=.fin:=by
 have hp:=Fa hg h0 h1 (j:=0) (Ez (hg.stops _ (eQ h0 h1))).1
 refine rl (bA) ?_
 cases e:atS ps s with
 |fin=>rw [e] at hp;refine rl (show (prog ps)[jT ps s.toNat]? = _ from hp) ?_;rfl
 |go b ws=>rw [e] at hs;exact fT hs
theorem Zm {s:Int}(h0:0≤s) (h1:s<ps.length) (hs:(atS ps s).isGet=true):(prog ps).getD (jT ps s.toNat) .fin=.get ((atS ps s).ways.map fun y=>(y.1,gM ps y.2)):=by
 have hp:=Fa hg h0 h1 (j:=0) (Ez (hg.stops _ (eQ h0 h1))).1
 refine rl (bA) ?_
 cases e:atS ps s with
 |fin=>rw [e] at hs;exact fT hs
 |go b ws=>
  rw [e] at hs hp
  cases b with
  |true=>exact fT hs
  |false=>refine rl (show (prog ps)[jT ps s.toNat]? = _ from hp) ?_;rfl
theorem wP {s:Int}(h0:0≤s) (h1:s<ps.length) (hs:(atS ps s).isSend=true):0<(atS ps s).ways.length∧((atS ps s).ways.map (·.1)).Nodup∧∀x∈(atS ps s).ways,0≤x.2∧x.2<ps.length:=by
 have h:=hg.stops _ (eQ h0 h1)
 have hn:=(dW h).2.2
 refine ⟨?_,hn,?_⟩
 ·cases e:atS ps s with
  |fin=>rw [e] at hs;exact fT hs
  |go b ws=>rw [e] at h;exact eA.lo h
 ·intro x hx
  cases e:atS ps s with
  |fin=>rw [e] at hs;exact fT hs
  |go b ws=>
   rw [e] at h hx
   have:=eA.goals h x hx
   exact PX this.1 this.2
theorem zT {s:Int}(h0:0≤s) (h1:s<ps.length):Zk ps (jT ps s.toNat) s:=by
 cases hs:(atS ps s).isSend with
 |false=>exact .one h0 h1 hs
 |true=>exact .blk (j:=0) h0 h1 hs (wP hg h0 h1 hs).1
theorem Ja {r:Nat}{s:Int}(h:Zk ps r s):r<(prog ps).length∧0≤s∧s<ps.length:=by
 cases h with
 |one h0 h1 hs=>
  refine ⟨?_,h0,h1⟩
  refine rl (Iz hg) ?_
  exact Mn hg h0 h1
 |@blk _ j h0 h1 hs hj=>
  refine ⟨?_,h0,h1⟩
  have hb:=tP hg h0 h1 hs (aP hj)
  have hl:=(aS.mp hb.1).1
  exact cR (Nat.add_le_add_left (bW _ _) _) hl
 |@snd _ j h0 h1 hs hj=>
  refine ⟨?_,h0,h1⟩
  have hb:=tP hg h0 h1 hs (aP hj)
  exact (aS.mp hb.1).1
 |@jmp _ j x h0 h1 hs hx=>
  have hb:=tP hg h0 h1 hs hx
  exact ⟨(aS.mp hb.2.1).1,(wP hg h0 h1 hs).2.2 x (bT hx)⟩
theorem pT {r:Nat}{s:Int}(h:Zk ps r s) :
  ((prog ps).getD r .fin=.fin∧(atS ps s).isFin=true∧r=jT ps s.toNat)∨
  ((prog ps).getD r .fin=.get ((atS ps s).ways.map fun y=>(y.1,gM ps y.2))∧(atS ps s).isGet=true)∨
  (∃j x,(prog ps).getD r .fin=.send x.1∧(atS ps s).isSend=true∧(atS ps s).ways[j]? = some x∧0≤s∧s<ps.length∧r=jT ps s.toNat+(3*j+eB (atS ps s).ways.length j))∨
  (∃j,(prog ps).getD r .fin=.flip ((r+3:Nat):Int)∧(atS ps s).isSend=true∧j+1<(atS ps s).ways.length∧0≤s∧s<ps.length∧r=jT ps s.toNat+3*j)∨
  ((prog ps).getD r .fin=.jump (gM ps s)):=by
 have look:∀{i:Nat}{y:Row},(prog ps)[i]? = some y→(prog ps).getD i .fin=y:=fun e=>by refine rl (bA) (rl e ?_);rfl
 cases h with
 |one h0 h1 hs=>
  cases hf:(atS ps s).isFin with
  |true=>exact .inl ⟨Zl hg h0 h1 hf,rfl,rfl⟩
  |false=>
   have hgt:(atS ps s).isGet=true:=by refine rl (Eh _ hf) (rl hs ?_);rfl
   exact .inr (.inl ⟨Zm hg h0 h1 hgt,hgt⟩)
 |@blk _ j h0 h1 hs hj=>
  have hb:=tP hg h0 h1 hs (aP hj)
  by_cases q:j+1<(atS ps s).ways.length
  ·exact .inr (.inr (.inr (.inl ⟨j,look (hb.2.2 q),hs,q,h0,h1,rfl⟩)))
  ·have e:eB (atS ps s).ways.length j=0:=if_neg q
   refine .inr (.inr (.inl ⟨j,_,?_,hs,aP hj,h0,h1,by refine rl e ?_;rfl⟩))
   have:=hb.1
   rw [e] at this
   exact look this
 |@snd _ j h0 h1 hs hj=>
  have hb:=tP hg h0 h1 hs (aP hj)
  exact .inr (.inr (.inl ⟨j,_,look hb.1,hs,aP hj,h0,h1,rfl⟩))
 |@jmp s0 j x h0 h1 hs hx=>
  have hb:=tP hg h0 h1 hs hx
  exact .inr (.inr (.inr (.inr (look hb.2.1))))
theorem qJ {r:Nat}{s s':Int}(h:∀g,(prog ps).getD r .fin≠.jump g):To ps r s'=240-r:=by
 unfold To
 cases e:(prog ps).getD r .fin with
 |jump g=>exact absurd e (h g)
 |_=>rfl
theorem Mp {r:Nat}{s:Int}(h:∀g,(prog ps).getD r .fin≠.jump g):To ps r s≤240:=by refine rl (qJ (s:=s) hg h) ?_;exact Nat.sub_le _ _
theorem Fb {s:Int}(h0:0≤s) (h1:s<ps.length):∀g,(prog ps).getD (jT ps s.toNat) .fin≠.jump g:=by
 intro g e
 have look:∀{i:Nat}{y:Row},(prog ps)[i]? = some y→(prog ps).getD i .fin=y:=fun e=>by refine rl (bA) (rl e ?_);rfl
 cases hs:(atS ps s).isSend with
 |false=>
  rcases pT hg (.one h0 h1 hs) with q | q | ⟨_,_,q,_⟩ | ⟨_,q,_⟩ | q
  ·rw [q.1] at e;exact Row.noConfusion e
  ·rw [q.1] at e;exact Row.noConfusion e
  ·rw [q] at e;exact Row.noConfusion e
  ·rw [q] at e;exact Row.noConfusion e
  ·rcases Classical.em ((atS ps s).isFin=true) with hf | hf
   ·have:=Zl hg h0 h1 hf
    have this:(prog ps).getD (jT ps s.toNat) .fin=.fin:=this
    rw [this] at e;exact Row.noConfusion e
   ·have hgt:(atS ps s).isGet=true:=by refine rl (Eh _ (Bool.eq_false_iff.mpr hf)) (rl hs ?_);rfl
    have:=Zm hg h0 h1 hgt
    have this:(prog ps).getD (jT ps s.toNat) .fin=.get ((atS ps s).ways.map fun y=>(y.1,gM ps y.2)):=this
    rw [this] at e;exact Row.noConfusion e
 |true=>
  have hj:=(wP hg h0 h1 hs).1
  have hb:=tP hg h0 h1 hs (aP hj)
  by_cases q:0+1<(atS ps s).ways.length
  ·have this:(prog ps).getD (jT ps s.toNat) .fin=_:=look (hb.2.2 q)
   rw [this] at e;exact Row.noConfusion e
  ·have e0:eB (atS ps s).ways.length 0=0:=if_neg q
   have:=hb.1
   rw [e0] at this
   have this:(prog ps).getD (jT ps s.toNat) .fin=_:=look this
   rw [this] at e;exact Row.noConfusion e
theorem Mq:zS (prog ps) ps (Zk ps) (To ps):=by
 have bnd:∀r s,Zk ps r s→r<(prog ps).length∧(0≤s∧s<ps.length)∧To ps r s≤1000:=fun r s h=>by
  have hl:=Ja hg h
  refine ⟨hl.1,hl.2,?_⟩
  unfold To
  split
  ·exact aN _
  ·exact aD (Nat.sub_le _ _) (by decide)
 have h240:=(nF hg).hi
 have look:∀{i:Nat}{y:Row},(prog ps)[i]? = some y→(prog ps).getD i .fin=y:=fun e=>by refine rl (bA) (rl e ?_);rfl
 refine ⟨⟨?_,?_,?_,?_,?_⟩,?_,bnd,?_,?_⟩
 ·intro r s h e
  rcases pT hg h with q | q | ⟨_,_,q,_⟩ | ⟨_,q,_⟩ | q
  ·exact q.2.1
  ·rw [q.1] at e;exact Row.noConfusion e
  ·rw [q] at e;exact Row.noConfusion e
  ·rw [q] at e;exact Row.noConfusion e
  ·rw [q] at e;exact Row.noConfusion e
 ·intro r s w h e
  rcases pT hg h with q | q | ⟨j,x,q,hs,hx,h0,h1,er⟩ | ⟨_,q,_⟩ | q
  ·rw [q.1] at e;exact Row.noConfusion e
  ·rw [q.1] at e;exact Row.noConfusion e
  ·rw [q] at e
   cases e
   have hm:=bT hx
   refine ⟨hs,aJ.mpr ⟨x,hm,rfl⟩,?_⟩
   refine rl (jO (wP hg h0 h1 hs).2.1 hm) (rl er ?_)
   exact .jmp h0 h1 hs hx
  ·rw [q] at e;exact Row.noConfusion e
  ·rw [q] at e;exact Row.noConfusion e
 ·intro r s ws h e
  have hl:=Ja hg h
  rcases pT hg h with q | q | ⟨_,_,q,_⟩ | ⟨_,q,_⟩ | q
  ·rw [q.1] at e;exact Row.noConfusion e
  ·rw [q.1] at e
   cases e
   refine ⟨q.2,fun w hw=>⟨gM ps (lS (atS ps s).ways w),by refine rl (zF ..) (rl (iL hw) ?_);rfl,?_⟩⟩
   have:=lT (hg.stops _ (eQ hl.2.1 hl.2.2)) hw
   exact zT hg this.1 this.2
  ·rw [q] at e;exact Row.noConfusion e
  ·rw [q] at e;exact Row.noConfusion e
  ·rw [q] at e;exact Row.noConfusion e
 ·intro r s g h e
  rcases pT hg h with q | q | ⟨_,_,q,_⟩ | ⟨j,q,hs,hj,h0,h1,er⟩ | q
  ·rw [q.1] at e;exact Row.noConfusion e
  ·rw [q.1] at e;exact Row.noConfusion e
  ·rw [q] at e;exact Row.noConfusion e
  ·rw [q] at e
   cases e
   refine rl er ?_
   have e1:eB (atS ps s).ways.length j=1:=if_pos hj
   refine ⟨?_,?_⟩
   ·have:=Zk.snd (j:=j) h0 h1 hs (Nat.lt_of_succ_lt hj)
    rw [e1] at this
    exact this
   ·exact Zk.blk (j:=j+1) h0 h1 hs hj
  ·rw [q] at e;exact Row.noConfusion e
 ·intro r s g h e
  have hl:=Ja hg h
  rcases pT hg h with q | q | ⟨_,_,q,_⟩ | ⟨_,q,_⟩ | q
  ·rw [q.1] at e;exact Row.noConfusion e
  ·rw [q.1] at e;exact Row.noConfusion e
  ·rw [q] at e;exact Row.noConfusion e
  ·rw [q] at e;exact Row.noConfusion e
  ·rw [q] at e
   cases e
   exact zT hg hl.2.1 hl.2.2
 ·have:=hg.lo
  exact zT hg (s:=0) (by decide) (by exact Z3 (Bc this))
 ·intro r s g h e
  have hl:=Ja hg h
  rcases pT hg h with q | q | ⟨_,_,q,_⟩ | ⟨j,q,hs,hj,h0,h1,er⟩ | q
  ·rw [q.1] at e;exact Row.noConfusion e
  ·rw [q.1] at e;exact Row.noConfusion e
  ·rw [q] at e;exact Row.noConfusion e
  ·rw [q] at e
   cases e
   subst er
   have nj:∀g,(prog ps).getD (jT ps s.toNat+3*j) .fin≠.jump g:=fun g e=>by rw [q] at e;exact Row.noConfusion e
   have hb:=tP hg h0 h1 hs (aP (Nat.lt_of_succ_lt hj))
   have e1:eB (atS ps s).ways.length j=1:=if_pos hj
   have n1:∀g,(prog ps).getD (jT ps s.toNat+3*j+1) .fin≠.jump g:=fun g e=>by
    have hb1:=hb.1
    rw [e1] at hb1
    have:=(look hb1).symm.trans e
    exact Row.noConfusion this
   have n2:∀g,(prog ps).getD (jT ps s.toNat+3*j+3) .fin≠.jump g:=fun g e=>by
    have hb:=tP hg h0 h1 hs (aP hj)
    by_cases q2:j+1+1<(atS ps s).ways.length
    ·have:=(look (hb.2.2 q2)).symm.trans e
     exact Row.noConfusion this
    ·have e0:eB (atS ps s).ways.length (j+1)=0:=if_neg q2
     have hb1:=hb.1
     rw [e0] at hb1
     have:=(look hb1).symm.trans e
     exact Row.noConfusion this
   have hr:=aR hl.1 h240
   show To ps (jT ps s.toNat+3*j+1) s<To ps (jT ps s.toNat+3*j) s∧To ps (jT ps s.toNat+3*j+3) s<To ps (jT ps s.toNat+3*j) s
   refine rl (qJ (s:=s) hg nj) (rl (qJ (s:=s) hg n1) (rl (qJ (s:=s) hg n2) ?_))
   exact UL hr
  ·rw [q] at e;exact Row.noConfusion e
 ·intro r s g h e
  have hl:=Ja hg h
  rcases pT hg h with q | q | ⟨_,_,q,_⟩ | ⟨_,q,_⟩ | q
  ·rw [q.1] at e;exact Row.noConfusion e
  ·rw [q.1] at e;exact Row.noConfusion e
  ·rw [q] at e;exact Row.noConfusion e
  ·rw [q] at e;exact Row.noConfusion e
  ·rw [q] at e
   cases e
   have h1:To ps r s=1000:=by unfold To;exact rl q rfl
   refine rl h1 ?_
   exact cR (Mp hg (Fb hg hl.2.1 hl.2.2)) (by decide)
end
theorem Jb {ps:List dB}(hg:dA ps):Keeps (prog ps) ps:=(Mq hg).keeps hg (nF hg)
end
section
noncomputable def dB.rkd:dB→RK
 |.fin=>.fin
 |.go true _=>.send
 |.go false _=>.get
theorem SG {H:Hp}(p:dB):fH H p.v (.int 0)=some (.str p.rkd.s):=by
 cases p with
 |fin=>rfl
 |go b ws=>cases b <;> rfl
noncomputable def fW (many f:Int) (R:List Row):Prop:=∀(i:Nat) (r:Row),R[i]? = some r→gV many (f+i) r
theorem fW.app {many f:Int}{A B:List Row}(ha:fW many f A) (hb:fW many (f+A.length) B):fW many f (A++B):=by
 intro i r h
 rcases Nat.lt_or_ge i A.length with q | q
 ·rw [bH q] at h;exact ha i r h
 ·rw [bO q] at h
  have:=hb _ r h
  rwa [show f+A.length+((i-A.length:Nat):Int)=f+i by exact UY q] at this
theorem fW.one {many f:Int}{r:Row}(h:gV many f r):fW many f [r]:=by
 intro i x hx
 cases i with
 |zero=>obtain rfl:=aB hx;rwa [show f+((0:Nat):Int)=f by exact UX]
 |succ i=>exact nS hx
theorem fW.nil {many f:Int}:fW many f []:=fun i r h=>by exact nS h
noncomputable def lZ (S:List Int) (g:Int):Int:=S.getD g.toNat 0
theorem Zn {H:Hp}{S:List Int}{sv:V}(hs:dH H (S.map V.int) sv) (hl:S.length≤1000) {g:Int}(h0:0≤g) (h1:g<S.length):fH H sv (.int g)=some (.int (lZ S g)):=by
 have hi:g.toNat<S.length:=by exact A2 h0 h1
 have:=hs.sub (i:=g.toNat) (x:=.int (lZ S g)) (by rw [bG,aP hi,lZ,bA,aP hi];rfl) (by refine rl (aA ..) ?_;exact L1 hl)
 rwa [bP h0] at this
noncomputable def oD (S:List Int):List (Str×Int)→List Row
 |[]=>[]
 |x::ys=>.send x.1::.jump (lZ S x.2)::oD S ys
theorem Zo (S:List Int):∀ys,(oD S ys).length=2*ys.length
 |[]=>rfl
 |x::ys=>by show (oD S ys).length+1+1=2*(ys.length+1);refine rl (Zo S ys) ?_;exact Nat.add_assoc _ _ _
theorem HL {S:List Int}{many:Int}:∀{ys:List (Str×Int)}{f:Int},0≤f→f+2*ys.length≤many→(∀x∈ys,GoodW x.1)→(∀x∈ys,0≤lZ S x.2∧lZ S x.2≤many-1)→fW many f (oD S ys)
 |[],_,_,_,_,_=>.nil
 |x::ys,f,h0,hf,hg,hs=>by
  rw [bF] at hf
  refine fW.app (A:=[.send x.1]) (.one ⟨hg x aH,by exact UW hf⟩) (fW.app (A:=[.jump (lZ S x.2)]) (.one (hs x aH)) ?_)
  rw [List.length_singleton,List.length_singleton]
  exact HL (by exact Z2 (bX (bX h0 (cN _)) (cN _))) (by exact UV hf) (fun y hy=>hg y (aT _ hy)) fun y hy=>hs y (aT _ hy)
noncomputable def jQ (f:Int) (l:Nat):List Row:=(List.range (l-1)).map fun (t:Nat)=>.flip (f+l-1+2*(t+1))
theorem PA {many f:Int}{l:Nat}(h0:0≤f) (hf:f+3*l-1≤many):fW many f (jQ f l):=by
 intro i r h
 unfold jQ at h
 rw [bG] at h
 refine dF (Option.map_eq_some_iff.mp h) fun j hj e_e=>?_;subst e_e
 obtain ⟨hi,e⟩:=aS.mp hj
 rw [bE] at hi
 rw [List.getElem_range] at e
 subst e
 exact ⟨⟨by exact UU h0,by exact UT hf hi⟩,by exact US hf hi⟩
noncomputable def blk (p:dB) (ys:List (Str×Int)):Nat:=match p with
 |.go true _=>3*ys.length-1
 |_=>1
structure Zp (ws:List Str) (p:dB) (ys:List (Str×Int)):Prop where
 mem:∀x∈ys,x.1∈ws
 asc:∀zs,p=.go false zs→ys.Pairwise fun a b=>gN a.1 b.1=true
 lo:p≠.fin→1≤ys.length
 hi:ys.length≤6
theorem Jc:∀{ys:List (Str×Int)}{last:Str},(∀y∈ys,gN last y.1=true)→(ys.Pairwise fun a b=>gN a.1 b.1=true)→Rp last ys
 |[],_,_,_=>trivial
 |y::ys,_,h,hp=>⟨h y aH,Jc (List.pairwise_cons.mp hp).1 (List.pairwise_cons.mp hp).2⟩
theorem Zq {ys:List (Str×Int)}(hg:∀y∈ys,GoodW y.1) (hp:ys.Pairwise fun a b=>gN a.1 b.1=true):Rp (Str.ofString "") ys:=Jc (fun y hy=>yK (hg y hy)) hp
noncomputable def kU (S:List Int) (ys:List (Str×Int)):List (Str×Int):=ys.map fun y=>(y.1,lZ S y.2)
noncomputable def Mr (S:List Int) (ys:List (Str×Int)) (w:Str) (x:Int):List (Str×Int):=if x=1∧ys.length<6∧(find (kU S ys) w).isSome=false then kU S ys++[(w,lZ S (S.length-1))] else kU S ys
noncomputable def Pi (S:List Int) (f:Int) (p:dB) (ys:List (Str×Int)) (w:Str) (x:Int):List Row:=match p with
 |.fin=>[.fin]
 |.go true _=>jQ f ys.length++oD S ys
 |.go false _=>[.get (gQ (Mr S ys w x))]
structure Jd (ws:List Str) (S:List Int) (many f:Int) (p:dB) (ys:List (Str×Int)) (w:Str):Prop where
 sel:Zp ws p ys
 len:S.length≤12
 mem:∀s∈S,0≤s∧s<many
 goal:∀x∈ys,0≤x.2∧x.2<S.length
 one:1≤S.length
 pos:0≤f
 fit:f+blk p ys≤many
 word:w∈ws
section
variable {ws:List Str}{S:List Int}{many f:Int}{p:dB}{ys:List (Str×Int)}{w:Str}{x:Int}(ri:Jd ws S many f p ys w)
include ri
theorem Jd.st {g:Int}(h0:0≤g) (h1:g<S.length):0≤lZ S g∧lZ S g≤many-1:=by
 have hi:g.toNat<S.length:=by exact A2 h0 h1
 have:=ri.mem (lZ S g) (by unfold lZ;refine rl (dL hi) ?_;exact cM _)
 exact ⟨this.1,Int.le_sub_one_of_lt this.2⟩
theorem Jd.gm {y:Str×Int}(h:y∈kU S ys):y.1∈ws∧0≤y.2∧y.2≤many-1:=by
 refine dF (aJ.mp h) fun z hz e_e=>?_;subst e_e
 exact ⟨ri.sel.mem z hz,ri.st (ri.goal z hz).1 (ri.goal z hz).2⟩
theorem HM (hw:iP ws) {zs:List (Str×Int)}(hp:p=.go false zs):rP (Mr S ys w x) (gQ (Mr S ys w x))∧(∀y∈Mr S ys w x,y.1∈ws∧0≤y.2∧y.2≤many-1)∧1≤(Mr S ys w x).length∧(Mr S ys w x).length≤6∧∀y∈kU S ys,y∈Mr S ys w x:=by
 have gl:(kU S ys).length=ys.length:=aA _
 have gp:(kU S ys).Pairwise fun a b=>gN a.1 b.1=true:=List.pairwise_map.mpr (ri.sel.asc zs hp)
 have l1:=ri.sel.lo (by refine rl hp ?_;exact fun e=>nomatch e)
 have l6:=ri.sel.hi
 unfold Mr
 split
 ·rename_i h
  have hni:w∉(kU S ys).map (·.1):=fun m=>by
   have:=uI (w:=w) (ws:=kU S ys)
   rw [h.2.2,aO (aJ.mpr ⟨w,m,rfl⟩)] at this
   exact tF this
  have ll:(kU S ys++[(w,lZ S (S.length-1))]).length=ys.length+1:=by refine rl aE (rl gl ?_);rfl
  refine ⟨yR hw (fun y hy=>(ri.gm hy).1) gp (aD (bM gl) (cS h.2.1)) ri.word hni,fun y hy=>?_,by refine rl ll ?_;exact Nat.le_add_left _ _,by refine rl ll ?_;exact h.2.1,fun y hy=>aY.mpr (.inl hy)⟩
  rcases aY.mp hy with m | m
  ·exact ri.gm m
  ·refine rl (aG.mp m) ?_
   have:=ri.one
   exact ⟨ri.word,ri.st (by exact Z2 (Int.sub_le_sub_right (Bc this) _)) (by exact UR)⟩
 ·exact ⟨pG hw (fun y hy=>(ri.gm hy).1) gp (gl.symm ▸ l1) (gl.symm ▸ l6),fun y hy=>ri.gm hy,gl.symm ▸ l1,gl.symm ▸ l6,fun y hy=>hy⟩
theorem Je (hw:iP ws):(Pi S f p ys w x).length=blk p ys∧fW many f (Pi S f p ys w x):=by
 cases p with
 |fin=>exact ⟨rfl,.one trivial⟩
 |go b zs=>
  have hlo:=ri.sel.lo (fun e=>by exact dB.noConfusion e)
  cases b with
  |true=>
   have hf:f+((3*ys.length-1:Nat):Int)≤many:=ri.fit
   have h0:=ri.pos
   have hfl:(jQ f ys.length).length=ys.length-1:=by unfold jQ;exact rl (aA ..) (rl bE rfl)
   refine ⟨?_,?_⟩
   ·show (jQ f ys.length++oD S ys).length=3*ys.length-1
    refine rl aE (rl hfl (rl (Zo ..) ?_));exact UQ
   ·refine fW.app (PA h0 (by exact UP hf)) ?_
    refine rl hfl ?_
    exact HL (by exact Z2 (bX h0 (Bc (aX _)))) (by exact UO hf) (fun y m=>hw.2.1 _ (ri.sel.mem y m)) fun x hx=>ri.st (ri.goal x hx).1 (ri.goal x hx).2
  |false=>
   refine LZ (HM ri (x:=x) hw rfl) fun hso hm h1 h6 _=>?_
   exact ⟨rfl,.one ⟨by refine rl hso.len ?_;exact h1,by refine rl hso.len ?_;exact h6,fun y hy'=>hw.2.1 _ (hm y (hso.mem y hy')).1,fun y hy'=>(hm y (hso.mem y hy')).2,hso.asc⟩⟩
end
section
variable {P:Nat→Option Fn}(g8:GX P) {fuel k:Nat}{H:Hp}{ws:List Str}(hw:iP ws) {many f:Int}{p:dB}{ys:List (Str×Int)}{S:List Int}{w:Str}{x:Int}(ri:Jd ws S many f p ys w) {sv:V}(hs:dH H (S.map V.int) sv) (hm:many≤240)
include g8 hw ri hs hm
theorem Tf {zs:List (Str×Int)}(hp:p=.go true zs):F P fuel (k+1) 51 [.str RK.send.s,.lst (ys.map wv),sv,.int f,.tup [.str w,.int x]] H=some (.lst ((jQ f ys.length++oD S ys).map Row.v),false,H):=by
 have hi6:=ri.sel.hi
 have hlo:=ri.sel.lo (by refine rl hp ?_;exact fun e=>nomatch e)
 have h0:=ri.pos
 have l12:=ri.len
 have hsub:∀g:Int,0≤g→g<S.length→fH H sv (.int g)=some (.int (lZ S g)):=fun g h0 h1=>Zn hs (by exact L1 l12) h0 h1
 obtain ⟨l,el⟩:∃l:Int,l=ys.length:=⟨_,rfl⟩
 have hlen:dS H .len [.lst (ys.map wv)]=some (.int l):=(dH.lst.len (by refine rl (aA ..) ?_;exact L1 hi6)).trans (by exact rl (aA ..) (rl el rfl))
 have efl:(List.range (l-1).toNat).map (fun (t:Nat)=>(Row.flip (f+l-1+2*((t:Int)+1))).v)=(jQ f ys.length).map Row.v:=by
  unfold jQ
  refine rl bJ (rl el (rl (show ((ys.length:Int)-1).toNat=ys.length-1 by exact RW) ?_));rfl
 have hfl:(jQ f ys.length).length+2*ys.length≤100:=by unfold jQ;refine rl (aA ..) (rl bE ?_);exact L1 (aW (N5 hi6) (cP _ hi6))
 refine eV g8.law_rows rfl fun cx _ _=>?_
 refine dN (eU .send .fin) ?_
 refine dN (eU .send .get) ?_
 refine dC hlen ?_
 refine kG (n:=l-1) (by exact Z2 (Int.sub_le_sub_right (bI (Bc hlo) (A1 el)) _)) (by exact L2 (Int.sub_le_sub_right (bI (cO el) (Bc hi6)) _)) ?_
 refine iO (fun t=>(Row.flip (f+l-1+2*(t+1))).v) (by exact L2 (Int.sub_le_sub_right (bI (cO el) (Bc hi6)) _)) (fun t ht0 ht K2 hK2=>?_) ?_
 ·refine dC hlen ?_
  refine qW (by decide) (by decide) (by exact Z2 (bX ht0 (cN _))) (by exact UN ht el hfl) ?_
  exact hK2
 refine rl efl ?_
 refine OL (a:=wv) (fun dn o5 o6=>[some (.str RK.send.s),some (.lst (ys.map wv)),some sv,some (.int f),some (.tup [.str w,.int x]),o5,o6,none,none,some (.lst (List.map Row.v dn))]) (fun _ _ _=>H) (fun r dn _ _=>dn++oD S r=jQ f ys.length++oD S ys∧(∀x∈r,x∈ys)∧dn.length+2*r.length≤100) (fun _ _ _=>same_self) ?_ ?_ ys (jQ f ys.length) none none ⟨rfl,fun _ h=>h,hfl⟩
 ·rintro ⟨s,i⟩ r dn o5 o6 K' ⟨hd,hmem,hdl⟩ hK
  have hg:=ri.goal _ (hmem _ aH)
  refine cX (hsub i hg.1 hg.2) ?_
  refine nV (op:=.Add) (v:=.lst ((dn++[Row.send s,Row.jump (lZ S i)]).map Row.v)) (hU (by show _+2≤1100000;refine rl (aA ..) ?_;exact UM hdl) (by refine rl aM ?_;rfl)) ?_
  exact hK _ _ _ ⟨by refine rr hd (rl (bC ..) ?_);rfl,fun x hx=>hmem x (aT _ hx),by refine rl aE ?_;exact aD (bM (Nat.add_assoc _ 2 _)) ((Nat.add_comm 2 (2*r.length)) ▸ hdl)⟩
 ·rintro dn o5 o6 ⟨hd,_,_⟩
  refine rr hd ?_
  show finish H H _=some (.lst ((dn++[]).map Row.v),false,H)
  refine rl (bV ..) ?_
  exact eN (v:=.lst _) (mT _ _)
noncomputable def SH (ys:List (Str×Int)) (sv:V) (f:Int) (w:Str) (x:Int) (i:Nat):Loc:=[some (.str RK.get.s),some (.lst (ys.map wv)),some sv,some (.int f),some (.tup [.str w,.int x]),none,none,some (.ref i),none,none]
omit g8 hs hm in
theorem EF {zs:List (Str×Int)}(hp:p=.go false zs) (cx:Ctx):dG cx jM.body.tl.hd.thn.tl.tl (SH ys sv f w x H.length) (H++[.lst ((Mr S ys w x).map wv)]) (fun ρ' H'=>dG cx jM.body.tl.tl ρ' H' (fun _ H1=>finish H H1 .none) (fun v H1=>finish H H1 v)) (fun v H1=>finish H H1 v)=some (.lst ([Row.get (gQ (Mr S ys w x))].map Row.v),false,H):=by
 refine LZ (HM ri (x:=x) hw hp) fun hso _ _ h6 _=>?_
 refine cW (o:=eC _ (.ref H.length)) (pE (dX (j:=0))) ?_
 refine cW (o:=uR _) hso.run ?_
 refine dC (Cp (by refine rl (aA ..) (rl hso.len ?_);exact aD h6 (by decide))) ?_
 exact kM (v:=.lst [(Row.get (gQ (Mr S ys w x))).v]) (mT H.length [Row.get (gQ (Mr S ys w x))])
omit g8 in
theorem LH {zs:List (Str×Int)}(hp:p=.go false zs) (cx:Ctx):dG cx jM.body.tl.hd.thn.tl (SH ys sv f w x H.length) (H++[.lst ((kU S ys).map wv)]) (fun ρ' H'=>dG cx jM.body.tl.tl ρ' H' (fun _ H1=>finish H H1 .none) (fun v H1=>finish H H1 v)) (fun v H1=>finish H H1 v)=some (.lst ([Row.get (gQ (Mr S ys w x))].map Row.v),false,H):=by
 have tail:=EF (H:=H) hw ri (x:=x) (sv:=sv) hp cx
 have hi6:=ri.sel.hi
 have l12:=ri.len
 have gl:(kU S ys).length=ys.length:=aA _
 have gp:(kU S ys).Pairwise fun a b=>gN a.1 b.1=true:=List.pairwise_map.mpr (ri.sel.asc zs hp)
 obtain ⟨l,el⟩:∃l:Int,l=ys.length:=⟨_,rfl⟩
 have hlen:dS (H++[.lst ((kU S ys).map wv)]) .len [.ref H.length]=some (.int l):=(jR (dX (j:=0)) (by refine rl (aA ..) (rl gl ?_);exact L1 hi6)).trans (by exact rl (aA ..) (rl gl (rl el rfl)))
 have hd:dictFrom (H++[.lst ((kU S ys).map wv)]) (.ref H.length)=some (wD (kU S ys)):=Cb (cW (dX (H:=H) (K:=[.lst ((kU S ys).map wv)]) (j:=0)) rfl) (uH (Zq (fun y hy'=>hw.2.1 _ (ri.gm hy').1) gp)) (by exact L1 (aD (bM gl) hi6))
 have hlast:S.length-1<S.length:=Nat.sub_lt ri.one (by decide)
 have hgl:(S.map V.int)[(S.map V.int).length-1]? = some (.int (lZ S (S.length-1))):=by
  rw [aA,bG,aP hlast,lZ,show ((S.length:Int)-1).toNat=S.length-1 by exact RW,dL hlast];rfl
 unfold Mr at tail ⊢
 by_cases hx:x=1∧ys.length<6∧(find (kU S ys) w).isSome=false
 ·rw [if_pos hx] at tail ⊢
  refine eY (b:=(x == 1)) (beq_iff_eq.mpr hx.1) ?_
  refine dC hlen ?_
  refine eY (aO (by refine rl el ?_;exact Int.ofNat_lt.mpr hx.2.1)) ?_
  refine Ed hd ?_
  refine dY yQ ?_
  refine eY (b:=!(find (kU S ys) w).isSome) (by refine rl hx.2.2 ?_;rfl) ?_
  refine dJ (eR (dX (j:=0))) ?_
  refine cW (o:=eC _ sv) hs.app.list ?_
  refine dJ (dP (by refine rl (aA ..) ?_;exact L1 l12)) ?_
  refine cW hgl ?_
  refine eH (v:=(.none,H++[.lst ((kU S ys++[(w,lZ S (S.length-1))]).map wv)])) ?_ ?_
  ·refine (fO (dX (j:=0)) (by refine rl (aA ..) (rl gl ?_);exact L1 (N4 hx.2.1))).trans (aQ (fun x=>some (V.none,x)) ((fZ (j:=0)).trans ?_))
   refine rl aM ?_;rfl
  ·exact tail
 ·rw [if_neg hx] at tail ⊢
  refine Sh (b:=(x == 1)) (fun q1=>?_) (fun q1=>?_)
  ·refine dC hlen ?_
   refine Sh (fun q2=>?_) (fun q2=>?_)
   ·refine Ed hd ?_
    refine dY yQ ?_
    refine dR (b:=!(find (kU S ys) w).isSome) ?_ tail
    cases ef:find (kU S ys) w with
    |some=>rfl
    |none=>exact absurd ⟨beq_iff_eq.mp q1,Int.ofNat_lt.mp (by refine rr el ?_;exact bD q2),by refine rl ef ?_;rfl⟩ hx
   ·exact dR q2 tail
  ·exact dR (b:=(x == 1)) q1 tail
theorem Zr {zs:List (Str×Int)}(hp:p=.go false zs):F P fuel (k+1) 51 [.str RK.get.s,.lst (ys.map wv),sv,.int f,.tup [.str w,.int x]] H=some (.lst ([Row.get (gQ (Mr S ys w x))].map Row.v),false,H):=by
 have hi6:=ri.sel.hi
 have l12:=ri.len
 refine eV g8.law_rows rfl fun cx _ _=>?_
 have mid:=LH (H:=H) hw ri (x:=x) hs hm hp cx
 refine dN (eU .get .fin) ?_
 refine dN (eU .get .get) ?_
 refine gX (a:=wv) (b:=fun y=>wv (y.1,lZ S y.2)) same_self ys [] (fun y hy' K' hK=>?_) (by show 0+_≤_;exact L1 (aW (aN _) hi6)) ?_
 ·have hg:=ri.goal y hy'
  obtain ⟨s,i⟩:=y
  exact cX (Zn hs (by exact L1 l12) hg.1 hg.2) hK
 ·rw [List.nil_append,show ys.map (fun y=>wv (y.1,lZ S y.2))=(kU S ys).map wv by unfold kU;refine rl bJ ?_;rfl]
  exact mid
theorem Tg:F P fuel (k+1) 51 [.str p.rkd.s,.lst (ys.map wv),sv,.int f,.tup [.str w,.int x]] H=some (.lst ((Pi S f p ys w x).map Row.v),false,H):=by
 cases p with
 |fin=>
  refine eV g8.law_rows rfl fun cx _ _=>?_
  refine dN (eU .fin .fin) ?_
  exact eN (v:=.lst [Row.fin.v]) rfl
 |go b zs=>
  cases b with
  |true=>exact Tf g8 hw ri hs hm rfl
  |false=>exact Zr g8 hw ri hs hm rfl
end
end
section
noncomputable def AL (l:Int):Int:=if l<3 then l else 3
noncomputable def iU (p:dB) (mx:Int):List (Str×Int):=match p with
 |.fin=>[]
 |.go false zs=>zs
 |.go true zs=>(List.range (1+(mx.fdiv 18).fmod (AL zs.length)).toNat).map fun (t:Nat)=>zs.getD ((mx.fdiv 3+t).fmod zs.length).toNat (Str.empty,0)
noncomputable def HN (mx:Int):Nat:=if 0<mx.fmod 3 then 1 else 0
noncomputable def EG (mx f:Int):List Row:=if 0<mx.fmod 3 then [if mx.fmod 3=1 then .jump (f+1) else .flip (f+1)] else []
noncomputable def LI (p:dB) (mx:Int):Nat:=HN mx+blk p (iU p mx)
noncomputable def mB (c:Int) (j:Nat):Int:=Dy c (30*(j:Int))
noncomputable def vQ (ps:List dB) (c:Int):Nat→Nat
 |0=>0
 |j+1=>vQ ps c j+LI (gU ps j) (mB c j)
noncomputable def tO (ps:List dB) (c:Int):List Int:=(List.range ps.length).map fun (i:Nat)=>(vQ ps c i:Int)
noncomputable def xW (ws:List Str) (mx:Int):Str:=ws.getD ((mx.fdiv 54).fmod 6).toNat Str.empty
noncomputable def RG (ps:List dB) (ws:List Str) (c:Int) (j:Nat) (f:Nat):List Row:=Pi (tO ps c) f (gU ps j) (iU (gU ps j) (mB c j)) (xW ws (mB c j)) (((mB c j).fdiv 324).fmod 3)
noncomputable def rU (ps:List dB) (ws:List Str) (c:Int):Nat→List Row
 |0=>[]
 |j+1=>(rU ps ws c j++EG (mB c j) (rU ps ws c j).length)++RG ps ws c j (rU ps ws c j++EG (mB c j) (rU ps ws c j).length).length
theorem HO {ws:List Str}(hw:iP ws) {i:Nat}(h:i<6):ws.getD i Str.empty∈ws:=by rw [dL (by refine rl hw.1 ?_;exact h)];exact cM _
theorem Cq {l:Int}(h:1≤l):1≤AL l∧AL l≤3:=by unfold AL;split <;> omega
theorem Fc {ws:List Str}{many mx:Int}{p:dB}(hp:eI many p) (hm:∀x∈p.ways,x.1∈ws):Zp ws p (iU p mx)∧(∀x∈iU p mx,x∈p.ways)∧1≤blk p (iU p mx)∧blk p (iU p mx)≤8:=by
 cases p with
 |fin=>exact ⟨⟨fun _ h=>(by cases h),fun _ e=>(by exact dB.noConfusion e),fun h=>absurd rfl h,aX _⟩,fun _ h=>h,aN _,cD rfl⟩
 |go b zs=>
  have hp:eA many zs:=hp
  cases b with
  |false=>exact ⟨⟨hm,fun _ _=>sY hp.asc,fun _=>hp.lo,hp.hi⟩,fun _ h=>h,aN _,cD rfl⟩
  |true=>
   have hlo:=hp.lo
   have m1:=Cq (l:=zs.length) (by exact Z2 (Bc hlo))
   have m2:=dE (mx.fdiv 18) (d:=AL zs.length) (by exact Z3 m1.1)
   have hl:(iU (.go true zs) mx).length=(1+(mx.fdiv 18).fmod (AL zs.length)).toNat:=by show (List.map _ _).length=_;exact rl (aA ..) (rl bE rfl)
   have hin:∀x∈iU (.go true zs) mx,x∈zs:=fun x h=>by
    refine dF (aJ.mp h) fun t ht e_e=>?_;subst e_e
    have:=dE (mx.fdiv 3+t) (d:=zs.length) (by exact Z3 (Bc hlo))
    refine rl (dL (by exact A2 this.1 this.2)) ?_
    exact cM _
   have h13:1≤(iU (.go true zs) mx).length∧(iU (.go true zs) mx).length≤3:=by exact VB m2.1 m2.2 hl m1.2
   refine ⟨⟨fun x h=>hm x (hin x h),fun _ e=>(by cases e),fun _=>h13.1,aD h13.2 (by decide)⟩,hin,?_,?_⟩
   ·show 1≤3*(iU (.go true zs) mx).length-1
    exact Nat.le_sub_of_add_le (N2 (cP _ h13.1))
   ·show 3*(iU (.go true zs) mx).length-1≤8
    exact Nat.sub_le_of_le_add (L1 (cP _ h13.2))
theorem Zs {mx f:Int}:(EG mx f).length=HN mx:=by
 unfold EG HN
 split <;> rfl
section
variable {ws:List Str}(hw:iP ws) {ps:List dB}{c:Int}(hps:jY ws ps)
include hps
theorem mA (j:Nat):eI ps.length (gU ps j)∧∀x∈(gU ps j).ways,x.1∈ws:=by
 unfold gU
 refine rl (bA) ?_
 cases e:ps[j]? with
 |none=>exact ⟨trivial,fun _ h=>(by cases h)⟩
 |some p=>exact ⟨hps.good.stops p (bT e),hps.mem p (bT e)⟩
theorem Jf (j:Nat):1≤LI (gU ps j) (mB c j)∧LI (gU ps j) (mB c j)≤9:=by
 have:=(Fc (mx:=mB c j) (mA hps j).1 (mA hps j).2).2.2
 unfold LI HN
 split <;> exact ⟨(N2 (aW (aN _) this.1)),(L1 (aW (aN _) this.2))⟩
theorem Zt (j:Nat):vQ ps c j≤9*j:=by
 induction j with
 |zero=>exact aN _
 |succ j ih=>exact aW ih (Jf hps j).2
theorem Zu {i j:Nat}(h:i<j):vQ ps c i<vQ ps c j:=by
 induction j with
 |zero=>exact nomatch h
 |succ j ih=>
  have:=Nat.lt_add_of_pos_right (n:=vQ ps c j) (Jf (c:=c) hps j).1
  rcases Nat.lt_or_eq_of_le (cS h) with q | q
  ·exact Nat.lt_trans (ih q) this
  ·refine rl q ?_;exact this
theorem wQ {i j:Nat}(h:i≤j):vQ ps c i≤vQ ps c j:=by
 rcases Nat.lt_or_eq_of_le h with q | q
 ·exact cI (Zu hps q)
 ·refine rl q ?_;exact aN _
omit hps in
theorem Zv:(tO ps c).length=ps.length:=by unfold tO;exact rl (aA ..) (rl bE rfl)
theorem EH {j:Nat}{x:Str×Int}(hx:x∈(gU ps j).ways):0≤x.2∧x.2<ps.length:=by
 have h:=(mA hps j).1
 cases e:gU ps j with
 |fin=>rw [e] at hx;cases hx
 |go b zs=>
  rw [e] at hx h
  have:=(show eA ps.length zs from h).goals x hx
  exact PX this.1 this.2
include hw
theorem HP {j f:Nat}(hj:j<ps.length) (hf:f+blk (gU ps j) (iU (gU ps j) (mB c j))=vQ ps c (j+1)):Jd ws (tO ps c) (vQ ps c ps.length:Nat) f (gU ps j) (iU (gU ps j) (mB c j)) (xW ws (mB c j)):=by
 have hs:=Fc (mx:=mB c j) (mA hps j).1 (mA hps j).2
 have h12:=hps.good.hi
 refine ⟨hs.1,by refine rl Zv ?_;exact h12,fun s h=>?_,fun x hx=>by refine rl Zv ?_;exact EH hps (hs.2.1 x hx),by refine rl Zv ?_;exact hps.good.lo,Int.natCast_nonneg _,?_,?_⟩
 ·refine dF (aJ.mp h) fun i hi e_e=>?_;subst e_e
  exact ⟨Int.natCast_nonneg _,Int.ofNat_lt.mpr (Zu hps (List.mem_range.mp hi))⟩
 ·refine rr (Int.natCast_add ..) (rl hf ?_)
  exact Int.ofNat_le.mpr (wQ hps hj)
 ·have:=dE ((mB c j).fdiv 54) (d:=6) (by decide)
  exact HO hw (by exact N1 (A6 (Z5 this.2)))
theorem Pj:∀j:Nat,j≤ps.length→(rU ps ws c j).length=vQ ps c j∧fW (vQ ps c ps.length:Nat) 0 (rU ps ws c j)
 |0,_=>⟨rfl,.nil⟩
 |j+1,hj=>by
  obtain ⟨hl,hr⟩:=Pj j (Nat.le_of_succ_le hj)
  have hA:(rU ps ws c j++EG (mB c j) (rU ps ws c j).length).length=vQ ps c j+HN (mB c j):=by exact rl aE (rl hl (rl Zs rfl))
  have hf:(rU ps ws c j++EG (mB c j) (rU ps ws c j).length).length+blk (gU ps j) (iU (gU ps j) (mB c j))=vQ ps c (j+1):=by refine rl hA (rl (Nat.add_assoc ..) ?_);rfl
  have hb:=Je (HP hw hps hj hf) (x:=((mB c j).fdiv 324).fmod 3) hw
  refine ⟨?_,?_⟩
  ·show (_++RG ps ws c j _).length=_
   refine rl aE (rr hf ?_)
   exact aQ _ hb.1
  ·refine fW.app (hr.app ?_) (by refine rl (Int.zero_add ..) ?_;exact hb.2)
   have b1:=(Fc (mx:=mB c j) (mA hps j).1 (mA hps j).2).2.2.1
   have hle:=wQ (c:=c) hps hj
   have m3:=dE (mB c j) (d:=3) (by decide)
   unfold EG
   unfold HN at hA
   split
   ·rename_i q
    rw [if_pos q] at hA
    have:(rU ps ws c j).length+1<vQ ps c ps.length:=by exact VA b1 hf hA hl hle
    refine .one ?_
    split
    ·exact ⟨by exact Z2 (bX (Bc (aX _)) (cN _)),by exact RX this⟩
    ·exact ⟨⟨by exact Z2 (bX (Bc (aX _)) (cN _)),by exact RX this⟩,by exact UZ this⟩
   ·exact .nil
theorem EI:gF (rU ps ws c ps.length):=by
 obtain ⟨hl,hr⟩:=Pj (c:=c) hw hps _ (aN _)
 have h1:=Zu (c:=c) hps (i:=0) (j:=ps.length) hps.good.lo
 have h2:=Zt (c:=c) hps ps.length
 have h12:=hps.good.hi
 refine ⟨by refine rl hl ?_;exact cR (aX _) h1,by exact L1 (aD (bM hl) (aD h2 (cP _ h12))),fun i r h=>?_⟩
 have:=hr i r h
 rwa [Int.zero_add,←hl] at this
end
end
section
noncomputable def aV (ps:List dB) (c:Int) (j:Nat):V:=.tup [.int (mB c j),.lst ((iU (gU ps j) (mB c j)).map wv)]
noncomputable def aL (ps:List dB) (c:Int) (j:Nat):V:=.lst ((List.range j).map (aV ps c))
noncomputable def sL (ps:List dB) (c:Int) (j:Nat):V:=.lst (((List.range j).map fun (i:Nat)=>(vQ ps c i:Int)).map V.int)
noncomputable def Tp (c:Int) (pv wl:V) (n:Nat) (N:Int) (o6 o7 o8 o10:Option V):Loc:=[some (.int c),some pv,some wl,some (.ref n),some (.ref (n+1)),some (.int N),o6,o7,o8,none,o10]
theorem HQ {H:Hp}{ws:List Str}(hw:iP ws) {i:Int}(h0:0≤i) (h1:i<6):fH H (.lst (ws.map V.str)) (.int i)=some (.str (ws.getD i.toNat Str.empty)):=by
 have hl:=hw.1
 exact (kP h0 (by refine rl (aA ..) (rl hl ?_);exact h1) (by refine rl (aA ..) (rl hl ?_);decide)).trans (aQ some (iF (by refine rl hl ?_;exact N1 (A6 (Z5 h1)))))
section
variable {H:Hp}{ps:List dB}{c:Int}{j:Nat}
theorem PB {B:V}(hj:j≤12):oJ (H++[aL ps c j,B]) .append (.ref H.length) [aV ps c j]=some (.none,H++[aL ps c (j+1),B]):=by
 refine (fO (dX (j:=0)) (by refine rl (aA ..) (rl bE ?_);exact L1 hj)).trans (aQ (fun x=>some (V.none,x)) ((fZ (j:=0)).trans ?_))
 unfold aL
 refine rl List.range_succ (rl aM ?_);rfl
theorem PD {A:V}(hj:j≤12):oJ (H++[A,sL ps c j]) .append (.ref (H.length+1)) [.int (vQ ps c j)]=some (.none,H++[A,sL ps c (j+1)]):=by
 refine (fO (dX (j:=1)) (by refine rl (aA ..) (rl (aA ..) (rl bE ?_));exact L1 hj)).trans (aQ (fun x=>some (V.none,x)) ((fZ (j:=1)).trans ?_))
 unfold sL
 refine rl List.range_succ (rl aM (rl aM ?_));rfl
theorem EJ {zs:List (Str×Int)}(h:∀x∈zs,GoodW x.1):fV H .NotEq (.lst [.tup (zs.map wv)]) (.lst [])=some true:=by
 have e:∀zs:List (Str×Int),fF (gO H 10) (zs.map wv)=some (zs.map fun x=>PyData.tuple [.str x.1,.int x.2]):=fun zs=>by
  induction zs with
  |nil=>rfl
  |cons x zs ih=>exact cW rfl (by refine rl ih ?_;rfl)
 refine cW (o:=AF H (.lst [.tup (zs.map wv)]) (.lst [])) (a:=false) ?_ rfl
 refine cW (o:=gO H 12 (.lst [.tup (zs.map wv)])) (a:=.list [.tuple (zs.map fun x=>PyData.tuple [.str x.1,.int x.2])]) ?_ ?_
 ·show ((((fF (gO H 10) (zs.map wv)).map PyData.tuple).bind fun y=>some [y]).map PyData.list)=_
  refine rl (e ..) ?_;rfl
 ·refine dJ ?_ (dJ rfl rfl)
  refine aF.mpr ⟨?_,aO ?_⟩
  ·show (PyData.canLayAll0 _&&true)=true
   rw [lR fun x hx=>?_];rfl
   refine dF (aJ.mp hx) fun y hy e_e=>?_;subst e_e
   show (PyData.strOk y.1&&(true&&true))=true
   refine rl (kQ (h y hy)) ?_;rfl
  ·have:PyData.depthAll (zs.map fun x=>PyData.tuple [.str x.1,.int x.2])≤1:=kY fun x hx=>by
    refine dF (aJ.mp hx) fun y hy e_e=>?_;subst e_e
    exact aN _
   show max (PyData.depthAll _+1) 0+1≤64
   omega
end
section
variable {cx:Ctx}{ws:List Str}{c a mx sj:Int}{pv wl:V}{n:Nat}{p:dB}{Ha Hb Hc:Hp}(hsub:∀H',fH H' pv (.int a)=some p.v) (wS:nL Ha (.ref (n+1))=true) (hS:oJ Ha .append (.ref (n+1)) [.int sj]=some (.none,Hb)) (wA:nL Hb (.ref n)=true) (hA:oJ Hb .append (.ref n) [.tup [.int mx,.lst ((iU p mx).map wv)]]=some (.none,Hc)) (hsel:Zp ws p (iU p mx)) {K:Loc→Hp→Option (V×Bool×Hp)}{L:V→Hp→Option (V×Bool×Hp)}{z:Option (V×Bool×Hp)}(hK:∀v:Int,v=sj+((LI p mx:Nat):Int)→K (Tp c pv wl n v (some (.int a)) (some (.int mx)) (some (.lst ((iU p mx).map wv))) none) Hc=z)
include hsub wS hS wA hA hsel hK
theorem LJ:dG cx eZ.body.tl.tl.tl.hd.inner.tl.tl.tl.tl (Tp c pv wl n sj (some (.int a)) (some (.int mx)) (some (.lst ((iU p mx).map wv))) none) Ha K L=z:=by
 have hz':((LI p mx:Nat):Int)=(if decide (0<mx.fmod 3)=true then 1 else 0)+((blk p (iU p mx):Nat):Int):=by
  unfold LI HN
  refine rl (Int.natCast_add ..) ?_
  by_cases q:0<mx.fmod 3
  ·refine rl (if_pos q) (rl (if_pos (aO q)) ?_);rfl
  ·refine rl (if_neg q) (rl (if_neg (by rw [aU q];decide)) ?_);rfl
 have hk:∀b:Int,b=((blk p (iU p mx):Nat):Int)→K (Tp c pv wl n (sj+(if decide (0<mx.fmod 3)=true then 1 else 0)+b) (some (.int a)) (some (.int mx)) (some (.lst ((iU p mx).map wv))) none) Hc=z:=fun b hb=>hK _ (by exact rl hz' (rl hb (rl (Int.add_assoc ..) rfl)))
 refine dJ wS ?_
 refine eH hS ?_
 refine dJ wA ?_
 refine eH hA ?_
 refine cX (hsub _) ?_
 refine cX (SG p) ?_
 refine dN (eU p.rkd .send) ?_
 cases p with
 |fin=>exact hk 1 rfl
 |go b zs=>
  cases b with
  |false=>exact hk 1 rfl
  |true=>
   have h6:=hsel.hi
   have h1:=hsel.lo fun e=>(by exact dB.noConfusion e)
   obtain ⟨l,el⟩:∃l:Int,l=(iU (.go true zs) mx).length:=⟨_,rfl⟩
   have hl:dS Hc .len [.lst ((iU (.go true zs) mx).map wv)]=some (.int l):=(dH.lst.len (by refine rl (aA ..) ?_;exact L1 h6)).trans (by exact rl (aA ..) (rl el rfl))
   refine dC hl ?_
   refine qW (by decide) (by decide) (by exact Z2 (bI (Bc h1) (A1 el))) (by exact Z1 (bI (cO el) (Bc h6))) ?_
   exact hk _ (by show 3*l-1=((3*(iU (.go true zs) mx).length-1:Nat):Int);exact VD el h1)
theorem LK {o7 o8:Option V}(hcall:cx.F 8 [.int c,.int (30*a)] Ha=some (.int mx,false,Ha)) (ha:0≤a∧a<12) {many:Int}(hgood:eI many p):dG cx eZ.body.tl.tl.tl.hd.inner (Tp c pv wl n sj (some (.int a)) o7 o8 none) Ha K L=z:=by
 have fin5:=LJ hsub wS hS wA hA hsel hK (cx:=cx) (L:=L)
 refine qW (by decide) (by decide) (by exact ha.1) (by exact Z1 (Z5 ha.2)) ?_
 refine cY hcall ?_
 refine cX (hsub _) ?_
 cases p with
 |fin=>
  refine cX (hsub _) ?_
  refine dN (eU .fin .send) ?_
  exact fin5
 |go b zs=>
  have hzs:eA many zs:=hgood
  have hlo:=hzs.lo
  have hhi:=hzs.hi
  refine dY (EJ hzs.words) ?_
  refine dJ (dP (by refine rl (aA ..) ?_;exact L1 hhi)) ?_
  refine cX (hsub _) ?_
  cases b with
  |false=>
   refine dN (eU .get .send) ?_
   exact fin5
  |true=>
   refine dN (eU .send .send) ?_
   obtain ⟨l,el⟩:∃l:Int,l=zs.length:=⟨_,rfl⟩
   have hl:dS Ha .len [.lst (zs.map wv)]=some (.int l):=(dH.lst.len (by refine rl (aA ..) ?_;exact L1 hhi)).trans (by exact rl (aA ..) (rl el rfl))
   have m1:=Cq (l:=l) (by exact Z2 (bI (Bc hlo) (A1 el)))
   have m2:=dE (mx.fdiv 18) (d:=AL l) (by exact Z3 m1.1)
   refine dC hl ?_
   refine qV (d:=AL l) (by exact Z3 m1.1) ?_
   refine kG (n:=1+(mx.fdiv 18).fmod (AL l)) (by exact Z2 (bX (cN _) m2.1)) (by exact L2 (bX (cN _) (bI (Int.le_of_lt m2.2) m1.2))) ?_
   refine iO (fun t=>wv (zs.getD ((mx.fdiv 3+t).fmod l).toNat (Str.empty,0))) (by exact L2 (bX (cN _) (bI (Int.le_of_lt m2.2) m1.2))) (fun t ht0 ht K2 hK2=>?_) ?_
   ·refine dC hl ?_
    refine qV (by exact Z3 (bI (Bc hlo) (A1 el))) ?_
    have m3:=dE (mx.fdiv 3+t) (d:=l) (by exact Z3 (bI (Bc hlo) (A1 el)))
    refine cX ((kP m3.1 (by refine rl (aA ..) ?_;exact cC m3.2 (cO el)) (by refine rl (aA ..) ?_;exact L1 hhi)).trans (aQ some (iF (d:=(Str.empty,0)) (by exact A2 m3.1 (cC m3.2 (cO el)))))) ?_
    exact hK2
   ·have e:(List.range (1+(mx.fdiv 18).fmod (AL l)).toNat).map (fun (t:Nat)=>wv (zs.getD ((mx.fdiv 3+(t:Int)).fmod l).toNat (Str.empty,0)))=(iU (.go true zs) mx).map wv:=by
     subst el
     show _=List.map wv (List.map _ _)
     refine rl bJ ?_;rfl
    refine rl e ?_
    exact fin5
end
section
variable {P:Nat→Option Fn}(gg:Gen P) {fuel k:Nat}{H:Hp}{ws:List Str}{ps:List dB}{c:Int}(hps:jY ws ps) (hc:intBits c≤1048576) {cx:Ctx}(hF:∀n args H,cx.F n args H=F P fuel (k+1) n args H)
include hps
omit hps in
theorem Jg {j:Nat}(hj:j<ps.length) (h12:ps.length≤12) (H':Hp):fH H' (.lst (ps.map dB.v)) (.int j)=some (gU ps j).v:=dH.lst.sub (by rw [bG,aP hj,gU,dL hj];rfl) (by refine rl (aA ..) ?_;exact aD h12 (by decide))
include gg hc hF
theorem PE {z:Option (V×Bool×Hp)}{K:Loc→Hp→Option (V×Bool×Hp)}{L:V→Hp→Option (V×Bool×Hp)}(hz:∀o6 o7 o8,dG cx eZ.body.tl.tl.tl.tl (Tp c (.lst (ps.map dB.v)) (.lst (ws.map V.str)) H.length (vQ ps c ps.length:Nat) o6 o7 o8 none) (H++[aL ps c ps.length,sL ps c ps.length]) K L=z) :
  dG cx eZ.body.tl.tl.tl (Tp c (.lst (ps.map dB.v)) (.lst (ws.map V.str)) H.length 0 none none none none) (H++[.lst [],.lst []]) K L=z:=by
 have h12:=hps.good.hi
 obtain ⟨n,en⟩:∃n:Int,n=ps.length:=⟨_,rfl⟩
 have hlen:dS (H++[.lst [],.lst []]) .len [.lst (ps.map dB.v)]=some (.int n):=(dH.lst.len (by refine rl (aA ..) ?_;exact L1 h12)).trans (by exact rl (aA ..) (rl en rfl))
 refine dC hlen ?_
 refine kG (by exact Z2 (bI (Bc (aX _)) (A1 en))) (by exact L2 (bI (cO en) (Bc h12))) ?_
 refine HG (G:=none) (fun j o6 o7 o8 (_ _:Unit)=>Tp c (.lst (ps.map dB.v)) (.lst (ws.map V.str)) H.length (vQ ps c j:Nat) o6 o7 o8 none) (fun j=>H++[aL ps c j,sL ps c j]) en (fun _=>rfl) ?_ ?_ none none none () ()
 ·intro j o6 o7 o8 _ _ K' hj hK
  exact LK (Jg hj h12) (eR (dX (j:=1))) (PD (by exact L1 (aD (cI hj) h12))) (eR (dX (j:=0))) (PB (by exact L1 (aD (cI hj) h12))) (Fc (mx:=mB c j) (mA hps j).1 (mA hps j).2).1 (fun v hv=>by
   refine rl hv (rr (Int.natCast_add ..) ?_)
   exact hK _ _ _ () ()) ((hF _ _ _).trans (lG gg (by exact L1 hc) (by exact Int.mul_nonneg (by decide) (Z2 (Bc (aX _)))) (by exact VC hj h12))) ⟨Int.natCast_nonneg _,by exact A9 (aR hj (L1 h12))⟩ (mA hps j).1
 ·intro o6 o7 o8 _ _
  exact hz _ _ _
end
end
section
noncomputable def EK (H:Hp) (A B:V) (J:Hp) (R:List Row):Hp:=H++(A::B::(J++[.lst (R.map Row.v)]))
section
variable {H:Hp}{A B:V}{J:Hp}{R:List Row}{j:Nat}(hJ:J.length=j)
include hJ
theorem qK:(EK H A B J R)[H.length+(j+2)]? = some (.lst (R.map Row.v)):=by
 refine dX.trans ?_
 subst hJ
 exact dX (H:=J) (j:=0)
theorem EL {v:V}(r:Row) (hv:v=r.v) (hl:R.length≤1000):oJ (EK H A B J R) .append (.ref (H.length+(j+2))) [v]=some (.none,EK H A B J (R++[r])):=by
 subst hv
 refine (fO (qK hJ) (by refine rl (aA ..) ?_;exact aD hl (by decide))).trans (aQ (fun x=>some (V.none,x)) (fZ.trans ?_))
 subst hJ
 show H++(A::B::(J++[_]).set J.length _)=H++(A::B::(J++[V.lst ((R++[r]).map Row.v)]))
 refine rl aM ?_
 exact aQ (fun x=>H++(A::B::x)) (fZ (j:=0))
omit hJ in
theorem EM {rs:List Row}:EK H A B J R++[V.lst (R.map Row.v++rs.map Row.v)]=EK H A B (J++[.lst (R.map Row.v)]) (R++rs):=by
 unfold EK
 exact rl aM (rl (bC ..) (rl List.cons_append (rl List.cons_append rfl)))
theorem EN:(EK H A B J R).length=H.length+(j+1+2):=by
 unfold EK
 refine rl aE (rl bF (rl bF (rl aE (rl hJ ?_))));rfl
end
noncomputable def Ms (ps:List dB) (ws:List Str) (c:Int) (j:Nat):List Row:=rU ps ws c j++EG (mB c j) (rU ps ws c j).length
noncomputable def LX (ps:List dB) (ws:List Str) (c:Int) (j:Nat):Hp:=(List.range j).map fun i=>V.lst ((Ms ps ws c i).map Row.v)
noncomputable def Mt (H:Hp) (ps:List dB) (ws:List Str) (c:Int) (j:Nat) (R:List Row):Hp:=EK H (aL ps c ps.length) (sL ps c ps.length) (LX ps ws c j) R
theorem rT {ps:List dB}{ws:List Str}{c:Int}{j:Nat}:(LX ps ws c j).length=j:=by unfold LX;exact rl (aA ..) (rl bE rfl)
section
variable {P:Nat→Option Fn}(gx:GX P) {fuel k:Nat}{H:Hp}{ws:List Str}(hw:iP ws) {ps:List dB}{c:Int}(hps:jY ws ps) {cx:Ctx}(hF:∀n args H,cx.F n args H=F P fuel (k+1) n args H) {j:Nat}(hj:j<ps.length) {K:Loc→Hp→Option (V×Bool×Hp)}{L:V→Hp→Option (V×Bool×Hp)}{z:Option (V×Bool×Hp)}{N:Int}(hK:∀o7 o8,K (Tp c (.lst (ps.map dB.v)) (.lst (ws.map V.str)) H.length N (some (.int j)) o7 o8 (some (.ref (H.length+(j+1+2))))) (Mt H ps ws c (j+1) (rU ps ws c (j+1)))=z)
include gx hw hps hF hj hK
theorem EP:dG cx eZ.body.tl.tl.tl.tl.tl.hd.inner.tl.tl (Tp c (.lst (ps.map dB.v)) (.lst (ws.map V.str)) H.length N (some (.int j)) (some (.int (mB c j))) (some (.lst ((iU (gU ps j) (mB c j)).map wv))) (some (.ref (H.length+(j+2))))) (Mt H ps ws c j (Ms ps ws c j)) K L=z:=by
 have h12:=hps.good.hi
 have m6:=dE ((mB c j).fdiv 54) (d:=6) (by decide)
 have hle:vQ ps c (j+1)≤vQ ps c ps.length:=wQ (c:=c) hps hj
 have h108:=Zt (c:=c) hps ps.length
 have hpr:=Pj (c:=c) hw hps j (cI hj)
 have hA:(Ms ps ws c j).length=vQ ps c j+HN (mB c j):=by unfold Ms;exact rl aE (rl hpr.1 (rl Zs rfl))
 have hf:(Ms ps ws c j).length+blk (gU ps j) (iU (gU ps j) (mB c j))=vQ ps c (j+1):=by refine rl hA (rl (Nat.add_assoc ..) ?_);rfl
 have hR:(Ms ps ws c j).length+blk (gU ps j) (iU (gU ps j) (mB c j))≤1000:=by exact aD (bM hf) (L1 (aD hle (aD h108 (cP _ h12))))
 have ri:=HP hw hps hj hf
 have hrl:=(Je ri (x:=((mB c j).fdiv 324).fmod 3) hw).1
 have gB:dH (Mt H ps ws c j (Ms ps ws c j)) ((tO ps c).map V.int) (.ref (H.length+1)):=.ref _ (dX (j:=1))
 have hcall:=Tg gx (fuel:=fuel) (k:=k) hw ri (x:=((mB c j).fdiv 324).fmod 3) gB (by exact L2 (Bc (aD h108 (cP _ h12))))
 have hlen:dS (Mt H ps ws c j (Ms ps ws c j)) .len [.ref (H.length+(j+2))]=some (.int ((Ms ps ws c j).length:Nat)):=(jR (qK rT) (by refine rl (aA ..) ?_;exact VF hR)).trans (by exact rl (aA ..) rfl)
 refine cX (Jg hj h12 _) ?_
 refine cX (SG (gU ps j)) ?_
 refine dC hlen ?_
 refine cX (HQ hw m6.1 m6.2) ?_
 refine cY ((hF _ _ _).trans hcall) ?_
 refine cW (o:=eC _ _) (pE (qK rT)) ?_
 refine hU (by show _+_≤1100000;refine rl (aA ..) (rl (aA ..) (rl hrl ?_));exact L1 hR) ?_
 have e1:Mt H ps ws c j (Ms ps ws c j)++[V.lst ((Ms ps ws c j).map Row.v++(RG ps ws c j (Ms ps ws c j).length).map Row.v)]=Mt H ps ws c (j+1) (rU ps ws c (j+1)):=by
  refine EM.trans ?_
  unfold Mt
  refine rl (show LX ps ws c (j+1)=LX ps ws c j++[V.lst ((Ms ps ws c j).map Row.v)] by unfold LX;rw [List.range_succ,aM];rfl) ?_
  rfl
 have e2:(Mt H ps ws c j (Ms ps ws c j)).length=H.length+(j+1+2):=EN rT
 have:=hK (some (.int (mB c j))) (some (.lst ((iU (gU ps j) (mB c j)).map wv)))
 rw [←e1,←e2] at this
 exact this
theorem EQ {o6 o7 o8:Option V}:gJ (.slot 6) (fun ρ H K=>dG cx eZ.body.tl.tl.tl.tl.tl.hd.inner ρ H K L) (.int j) (Tp c (.lst (ps.map dB.v)) (.lst (ws.map V.str)) H.length N o6 o7 o8 (some (.ref (H.length+(j+2))))) (Mt H ps ws c j (rU ps ws c j)) K=z:=by
 have h12:=hps.good.hi
 have tail:=EP gx hw hps hF hj hK (L:=L)
 have hle:=wQ (c:=c) hps (cI hj)
 have h108:=Zt (c:=c) hps ps.length
 have hpr:=Pj (c:=c) hw hps j (cI hj)
 have hAj:fH (Mt H ps ws c j (rU ps ws c j)) (.ref H.length) (.int j)=some (aV ps c j):=(dH.ref _ (dX (j:=0))).sub (xs:=(List.range ps.length).map (aV ps c)) (by refine rl (bG) (rl (List.getElem?_range hj) ?_);rfl) (by refine rl (aA ..) (rl bE ?_);exact L1 h12)
 refine cX hAj ?_
 unfold Ms EG at tail
 by_cases q:0<(mB c j).fmod 3
 ·rw [if_pos q] at tail
  refine eY (aO q) ?_
  refine dJ (eR (qK rT)) ?_
  have hlen:dS (Mt H ps ws c j (rU ps ws c j)) .len [.ref (H.length+(j+2))]=some (.int ((rU ps ws c j).length:Nat)):=(jR (qK rT) (by refine rl (aA ..) ?_;exact aD (bM hpr.1) (L1 (aD hle (aD h108 (cP _ h12)))))).trans (by exact rl (aA ..) rfl)
  have m3:=dE (mB c j) (d:=3) (by decide)
  have two:∀r:Row,(if (mB c j).fmod 3=1 then Row.jump (((rU ps ws c j).length:Nat)+1) else Row.flip (((rU ps ws c j).length:Nat)+1))=r→fH (Mt H ps ws c j (rU ps ws c j)) (.lst [.str RK.jump.s,.str RK.flip.s]) (.int ((mB c j).fmod 3-1))=some (.str r.k.s)∧V.tup [.str r.k.s,.int (((rU ps ws c j).length:Nat)+1)]=r.v:=fun r hr=>by
   by_cases q1:(mB c j).fmod 3=1
   ·rw [if_pos q1] at hr
    subst hr
    refine rl q1 ?_;exact ⟨rfl,rfl⟩
   ·rw [if_neg q1] at hr
    subst hr
    refine rl (show (mB c j).fmod 3=2 by exact VE q1 m3.2 q) ?_;exact ⟨rfl,rfl⟩
  obtain ⟨r,hr⟩:∃r,(if (mB c j).fmod 3=1 then Row.jump (((rU ps ws c j).length:Nat)+1) else Row.flip (((rU ps ws c j).length:Nat)+1))=r:=⟨_,rfl⟩
  refine Tq (two r hr) fun h1 h2=>?_
  rw [hr] at tail
  refine cX h1 ?_
  refine dC hlen ?_
  refine eH (EL rT r h2 (by exact aD (bM hpr.1) (L1 (aD hle (aD h108 (cP _ h12)))))) ?_
  exact tail
 ·rw [if_neg q,bV] at tail
  refine dR (aU q) ?_
  exact tail
end
section
variable {P:Nat→Option Fn}(gg:Gen P) (gx:GX P) {fuel k:Nat}{H:Hp}{ws:List Str}(hw:iP ws) {ps:List dB}{c:Int}(hps:jY ws ps) (hc:intBits c≤1048576)
include gg gx hw hps hc
theorem Fd:F P fuel (k+2) 50 [.int c,.lst (ps.map dB.v),.lst (ws.map V.str)] H=some (.lst ((rU ps ws c ps.length).map Row.v),true,H):=by
 have h12:=hps.good.hi
 refine eV gx.law_program rfl fun cx hF _=>?_
 have key:=PE gg hps hc hF (H:=H) (z:=some (.lst ((rU ps ws c ps.length).map Row.v),true,H)) (K:=fun _ H1=>finish H H1 .none) (L:=fun v H1=>finish H H1 v) fun o6 o7 o8=>by
  have e1:H++[aL ps c ps.length,sL ps c ps.length]++[V.lst []]=Mt H ps ws c 0 []:=by refine rl (bC ..) ?_;rfl
  have e2:(H++[aL ps c ps.length,sL ps c ps.length]).length=H.length+2:=aE
  obtain ⟨n,en⟩:∃n:Int,n=ps.length:=⟨_,rfl⟩
  have hlen:dS (Mt H ps ws c 0 []) .len [.lst (ps.map dB.v)]=some (.int n):=(dH.lst.len (by refine rl (aA ..) ?_;exact L1 h12)).trans (by exact rl (aA ..) (rl en rfl))
  show dG cx eZ.body.tl.tl.tl.tl.tl (Tp c (.lst (ps.map dB.v)) (.lst (ws.map V.str)) H.length (vQ ps c ps.length:Nat) o6 o7 o8 (some (.ref (H++[aL ps c ps.length,sL ps c ps.length]).length))) (H++[aL ps c ps.length,sL ps c ps.length]++[V.lst []]) _ _=_
  refine rl e1 (rl e2 ?_)
  generalize ((vQ ps c ps.length:Nat):Int)=N
  refine dC hlen ?_
  refine kG (by exact Z2 (bI (Bc (aX _)) (A1 en))) (by exact L2 (bI (cO en) (Bc h12))) ?_
  refine HG (G:=none) (fun j o6 o7 o8 (_ _:Unit)=>Tp c (.lst (ps.map dB.v)) (.lst (ws.map V.str)) H.length N o6 o7 o8 (some (.ref (H.length+(j+2))))) (fun j=>Mt H ps ws c j (rU ps ws c j)) en (fun _=>rfl) ?_ ?_ o6 o7 o8 () ()
  ·intro j o6 o7 o8 _ _ K' hj hK'
   exact EQ gx hw hps hF hj fun o7 o8=>hK' _ _ _ () ()
  ·intro o6 o7 o8 _ _
   exact Er (bW _ _) (qK rT) (mT _ _)
 refine Eq.trans ?_ key
 show dG cx eZ.body.tl.tl.tl [some (.int c),some (.lst (ps.map dB.v)),some (.lst (ws.map V.str)),some (.ref H.length),some (.ref (H++[_]).length),some (.int 0),none,none,none,none,none] (H++[_]++[_]) _ _=_
 refine rl aE (rl (bC ..) ?_)
 rfl
end
end
section
theorem Pk {many:Int}{w:Str}{g:Int}(hw:GoodW w) (h0:0≤g) (h1:g≤many-1):eA many [(w,g)]:=by
 refine ⟨aN _,cD rfl,fun x hx=>?_,fun x hx=>?_,⟨yK hw,trivial⟩⟩
 ·refine rl (aG.mp hx) ?_;exact hw
 ·refine rl (aG.mp hx) ?_;exact ⟨h0,h1⟩
theorem Pl {ws:List Str}(hw:iP ws) {i:Nat}(h:i<6):GoodW (ws.getD i Str.empty):=hw.2.1 _ (HO hw h)
theorem zU {R α:Type}{r:Option R}{G:Option Nat}{H0 H:Hp}{fn:V→Hp→(Option V→Hp→Option R)→Option R}{K:List V→Hp→Option R}{a:α→V}{o:α→Option V}(hG:same H H0 G=true):∀(ps:List α) (ds:List V),(∀p∈ps,∀K',K' (o p) H=r→fn (a p) H K'=r)→ds.length+ps.length≤1100000→K (ds++ps.filterMap o) H=r→rV fn G H0 (ps.map a) ds H K=r
 |[],ds,_,hl,hK=>dJ hG (hU (show ds.length≤1100000 from hl) (by rwa [List.filterMap_nil,bV] at hK))
 |p::ps,ds,hf,hl,hK=>by
  rw [bF] at hl
  have h1:(o p).toList.length≤1:=by cases o p <;> exact cD rfl
  refine dJ hG (hU (show ds.length≤1100000 by exact aD (bW _ _) hl) (hf p aH _ (zU hG ps _ (fun y hy=>hf y (aT _ hy)) ?_ ?_)))
  ·refine rl aE ?_;exact RO hl h1
  ·refine rl (bC ..) ?_
   rw [List.filterMap_cons] at hK
   cases hx:o p with
   |none=>rw [hx] at hK;exact hK
   |some y=>rw [hx] at hK;exact hK
theorem ER {H:Hp}{ws:List Str}(h:∀w∈ws,GoodW w):fV H .NotEq (.lst (ws.map V.str)) (.lst [])=some !ws.isEmpty:=by
 refine cW (o:=AF H (.lst (ws.map V.str)) (.lst [])) (a:=ws.isEmpty) ?_ rfl
 refine cW (o:=gO H 12 (.lst (ws.map V.str))) (a:=.list (ws.map PyData.str)) (by show (fF (gO H 11) _).map _=_;refine rl qC ?_;rfl) ?_
 refine dJ (yO fun w m=>kQ (h w m)) (dJ rfl (aQ some ?_))
 cases ws <;> rfl
theorem Zw {R:List Row}(h:gF R) {a:Nat}{r:Row}(hr:gV R.length a r):gF (R.set a r):=by
 refine ⟨by refine rl List.length_set ?_;exact h.lo,by refine rl List.length_set ?_;exact h.hi,fun i x hx=>?_⟩
 refine rl List.length_set ?_
 rw [List.getElem?_set] at hx
 split at hx
 ·next e=>
  subst e
  split at hx
  ·obtain rfl:=aB hx;exact hr
  ·exact nS hx
 ·exact h.rows i x hx
theorem Mu {many:Int}{ws:List (Str×Int)}(h:eA many ws) {g:Nat}(hg:g<ws.length) (h2:1<ws.length):eA many (ws.take g++ws.drop (g+1)):=by
 refine rr (List.eraseIdx_eq_take_drop_succ ..) ?_
 have sub:=List.eraseIdx_sublist ws g
 have hl:=List.length_eraseIdx_of_lt hg
 refine ⟨by exact aD (Nat.le_sub_of_add_le (N2 (Nat.succ_le_of_lt h2))) (A0 hl),by have:=h.hi;exact L1 (aD (bM hl) (N5 this)),fun x hx=>h.words x (sub.mem hx),fun x hx=>h.goals x (sub.mem hx),Zq (fun x hx=>h.words x (sub.mem hx)) ((sY h.asc).sublist sub)⟩
section
variable {P:Nat→Option Fn}(gx:GX P) {fuel k:Nat}{H:Hp}{ws:List Str}(hw:iP ws)
include gx hw
theorem Ti {c:Int}{R:List Row}(hR:gF R):∃R':List Row,gF R'∧F P fuel (k+1) 53 [.int c,.lst (R.map Row.v),.lst (ws.map V.str)] H=some (.lst (R'.map Row.v),false,H):=by
 have h1:=hR.lo
 have h2:=hR.hi
 obtain ⟨n,en,hlen⟩:∃n:Int,n=R.length∧dS H .len [.lst (R.map Row.v)]=some (.int n):=⟨_,rfl,(dH.lst.len (by refine rl (aA ..) ?_;exact L1 h2)).trans (by exact rl (aA ..) rfl)⟩
 obtain ⟨a,ea⟩:∃a,a=c.fmod n:=⟨_,rfl⟩
 obtain ⟨more,em⟩:∃more,more=c.fdiv 200:=⟨_,rfl⟩
 obtain ⟨g,eg⟩:∃g,g=(more.fdiv 5).fmod n:=⟨_,rfl⟩
 have ha:0≤a∧a<n:=by refine rl ea ?_;exact dE _ (by exact Z3 (bI (Bc h1) (A1 en)))
 have hg:0≤g∧g<n:=by refine rl eg ?_;exact dE _ (by exact Z3 (bI (Bc h1) (A1 en)))
 have hi:a.toNat<R.length:=by exact A2 ha.1 (cC ha.2 (cO en))
 obtain ⟨r,er⟩:∃r,R[a.toNat]? = some r:=⟨_,aP hi⟩
 have hrow:gV n a r:=by
  have:=hR.rows _ _ er
  rwa [←en,bP ha.1] at this
 have hsub:fH H (.lst (R.map Row.v)) (.int a)=some r.v:=by
  have:=dH.sub (H:=H) (xs:=R.map Row.v) .lst (i:=a.toNat) (x:=r.v) (by refine rl (bG) (rl er ?_);rfl) (by refine rl (aA ..) ?_;exact L1 h2)
  rwa [bP ha.1] at this
 have rest:∀(cx:Ctx) (r':Row) (o7 o8 o9 o10:Option V),dG cx fN.body.tl.tl.tl.tl.tl.tl [some (.int c),some (.lst (R.map Row.v)),some (.lst (ws.map V.str)),some (.int a),some (.int more),some r'.v,some (.int g),o7,o8,o9,o10] H (fun _ H1=>finish H H1 .none) (fun v H1=>finish H H1 v)=some (.lst ((R.set a.toNat r').map Row.v),false,H):=by
  intro cx r' o7 o8 o9 o10
  have s1:lU H (.lst (R.map Row.v)) .none (.int a)=some (.lst ((R.take a.toNat).map Row.v)):=by
   refine cW (o:=Px _ _ _) (a:=(R.take a.toNat).map Row.v) (dJ (dP (by refine rl (aA ..) ?_;exact L1 h2)) ?_) rfl
   refine cW (o:=kD _) (a:=a.toNat) (hU ha.1 rfl) ?_
   exact rl List.map_take rfl
  have s2:lU H (.lst (R.map Row.v)) (.int (a+1)) .none=some (.lst ((R.drop (a.toNat+1)).map Row.v)):=by
   refine cW (o:=Px _ _ _) (a:=(R.drop (a.toNat+1)).map Row.v) (dJ (dP (by refine rl (aA ..) ?_;exact L1 h2)) ?_) rfl
   refine cW (o:=kD _) (a:=a.toNat+1) (hU (show 0≤a+1 by exact Z2 (bX ha.1 (cN _))) (aQ some (by exact MB ha.1))) ?_
   show some ((R.map Row.v).drop (a.toNat+1))=_
   exact rl List.map_drop rfl
  refine cW s1 ?_
  refine nV (op:=.Add) (v:=.lst ((R.take a.toNat).map Row.v++[r'.v])) (hU (by show _+1≤1100000;refine rl (aA ..) (rl List.length_take ?_);omega) rfl) ?_
  refine cW s2 ?_
  refine nV (op:=.Add) (v:=.lst ((R.take a.toNat).map Row.v++[r'.v]++(R.drop (a.toNat+1)).map Row.v)) (hU (by refine rl aE (rl (aA ..) (rl (aA ..) (rl List.length_take (rl List.length_drop ?_))));show _+1+_≤1100000;omega) rfl) ?_
  have e:(R.take a.toNat).map Row.v++[r'.v]++(R.drop (a.toNat+1)).map Row.v=(R.set a.toNat r').map Row.v:=by
   refine rl List.set_eq_take_append_cons_drop (rl (if_pos hi) (rl aM (rl (bC ..) ?_)));rfl
  refine rl e ?_
  exact eN (v:=.lst _) (mT _ _)
 have main:∃r',gV n a r'∧∀cx:Ctx,dG cx fN.body.tl.tl.tl.tl [some (.int c),some (.lst (R.map Row.v)),some (.lst (ws.map V.str)),some (.int a),some (.int more),some r.v,some (.int g),none,none,none,none] H (fun _ H1=>finish H H1 .none) (fun v H1=>finish H H1 v)=some (.lst ((R.set a.toNat r').map Row.v),false,H):=by
  have m2:=dE more (d:=2) (by decide)
  have wg:∀x:Int,gV n a (.get [(ws.getD (x.fmod 6).toNat Str.empty,g)]):=fun x=>Pk (Pl hw (by have:=dE x (d:=6) (by decide);exact N1 (A6 (Z5 this.2)))) hg.1 (by exact Z5 hg.2)
  have wat:∀x:Int,fH H (.lst (ws.map V.str)) (.int (x.fmod 6))=some (.str (ws.getD (x.fmod 6).toNat Str.empty)):=fun x=>HQ hw (dE x (by decide)).1 (dE x (by decide)).2
  rcases mU r with e | ⟨w,e⟩ | ⟨ys,e⟩ | ⟨q,e⟩ | ⟨q,e⟩
  ·have pre:∀(cx:Ctx) (r':Row),fH H (.lst [(Row.get [(ws.getD (more.fmod 6).toNat Str.empty,g)]).v,(Row.jump g).v]) (.int ((more.fdiv 6).fmod 2))=some r'.v→dG cx fN.body.tl.tl.tl.tl [some (.int c),some (.lst (R.map Row.v)),some (.lst (ws.map V.str)),some (.int a),some (.int more),some r.v,some (.int g),none,none,none,none] H (fun _ H1=>finish H H1 .none) (fun v H1=>finish H H1 v)=some (.lst ((R.set a.toNat r').map Row.v),false,H):=by
    intro cx r' hs
    refine cX rkd ?_
    refine dN (eU r.k .get) ?_
    refine dR (b:=(r.k.n == RK.get.n)) (by refine rl e ?_;rfl) ?_
    refine cX rkd ?_
    refine dN (eU r.k .get) ?_
    refine dR (b:=(r.k.n == RK.get.n)) (by refine rl e ?_;rfl) ?_
    refine dR (b:=(r.k.n == RK.get.n)) (by refine rl e ?_;rfl) ?_
    refine cX rkd ?_
    refine dN (eU r.k .get) ?_
    refine dR (b:=(r.k.n == RK.get.n)) (by refine rl e ?_;rfl) ?_
    refine cX rkd ?_
    refine dN (eU r.k .send) ?_
    refine dR (b:=(r.k.n == RK.send.n)) (by refine rl e ?_;rfl) ?_
    refine cX rkd ?_
    refine dN (eU r.k .fin) ?_
    refine eY (b:=(r.k.n == RK.fin.n)) (by refine rl e ?_;rfl) ?_
    refine cX (wat more) ?_
    refine cX hs ?_
    exact rest cx r' _ _ _ _
   have m6:=dE (more.fdiv 6) (d:=2) (by decide)
   by_cases q:(more.fdiv 6).fmod 2=0
   ·exact ⟨_,wg more,fun cx=>pre cx _ (by refine rl q ?_;rfl)⟩
   ·exact ⟨.jump g,⟨hg.1,by exact Z5 hg.2⟩,fun cx=>pre cx _ (by refine rl (show (more.fdiv 6).fmod 2=1 by exact MC q m6.1 m6.2) ?_;rfl)⟩
  ·have h':GoodW w∧a<n-1:=by rw [e] at hrow;exact hrow
   have pre:∀(cx:Ctx) (r':Row),fH H (.lst [(Row.send (ws.getD ((more.fdiv 2).fmod 6).toNat Str.empty)).v,(Row.get [(w,g)]).v]) (.int (more.fmod 2))=some r'.v→dG cx fN.body.tl.tl.tl.tl [some (.int c),some (.lst (R.map Row.v)),some (.lst (ws.map V.str)),some (.int a),some (.int more),some r.v,some (.int g),none,none,none,none] H (fun _ H1=>finish H H1 .none) (fun v H1=>finish H H1 v)=some (.lst ((R.set a.toNat r').map Row.v),false,H):=by
    intro cx r' hs
    refine cX rkd ?_
    refine dN (eU r.k .get) ?_
    refine dR (b:=(r.k.n == RK.get.n)) (by refine rl e ?_;rfl) ?_
    refine cX rkd ?_
    refine dN (eU r.k .get) ?_
    refine dR (b:=(r.k.n == RK.get.n)) (by refine rl e ?_;rfl) ?_
    refine dR (b:=(r.k.n == RK.get.n)) (by refine rl e ?_;rfl) ?_
    refine cX rkd ?_
    refine dN (eU r.k .get) ?_
    refine dR (b:=(r.k.n == RK.get.n)) (by refine rl e ?_;rfl) ?_
    refine cX rkd ?_
    refine dN (eU r.k .send) ?_
    refine eY (b:=(r.k.n == RK.send.n)) (by refine rl e ?_;rfl) ?_
    refine cX (wat (more.fdiv 2)) ?_
    refine cX (sX e) ?_
    refine cX hs ?_
    exact rest cx r' _ _ _ _
   by_cases q:more.fmod 2=0
   ·exact ⟨.send (ws.getD ((more.fdiv 2).fmod 6).toNat Str.empty),⟨Pl hw (by have:=dE (more.fdiv 2) (d:=6) (by decide);exact N1 (A6 (Z5 this.2))),h'.2⟩,fun cx=>pre cx _ (by refine rl q ?_;rfl)⟩
   ·exact ⟨.get [(w,g)],Pk h'.1 hg.1 (by exact Z5 hg.2),fun cx=>pre cx _ (by refine rl (show more.fmod 2=1 by exact MC q m2.1 m2.2) ?_;rfl)⟩
  ·have h':eA n ys:=by rw [e] at hrow;exact hrow
   have hy1:=h'.lo
   have hy6:=h'.hi
   have hnear:∀near,ys.filterMap (fun x=>if x.2=a+1 then some x.1 else none)=near→(∀w∈near,GoodW w∧a<n-1)∧∀(cx:Ctx) (z:Option (V×Bool×Hp)),(∀o7 o8,dG cx fN.body.tl.tl.tl.tl.tl [some (.int c),some (.lst (R.map Row.v)),some (.lst (ws.map V.str)),some (.int a),some (.int more),some r.v,some (.int g),o7,o8,some (.lst (near.map V.str)),none] H (fun _ H1=>finish H H1 .none) (fun v H1=>finish H H1 v)=z)→dG cx fN.body.tl.tl.tl.tl [some (.int c),some (.lst (R.map Row.v)),some (.lst (ws.map V.str)),some (.int a),some (.int more),some r.v,some (.int g),none,none,none,none] H (fun _ H1=>finish H H1 .none) (fun v H1=>finish H H1 v)=z:=by
    rintro near rfl
    refine ⟨fun w hw'=>?_,fun cx z hz=>?_⟩
    ·refine dF (List.mem_filterMap.mp hw') fun x hx ex=>?_
     split at ex
     ·next e2=>
      obtain rfl:=aB ex
      have:=(h'.goals x hx).2
      exact ⟨h'.words x hx,by exact PY e2 this⟩
     ·exact nS ex
    ·refine cX rkd ?_
     refine dN (eU r.k .get) ?_
     refine eY (b:=(r.k.n == RK.get.n)) (by refine rl e ?_;rfl) ?_
     refine cX (pD e) ?_
     refine zU (a:=wv) (o:=fun x=>(if x.2=a+1 then some x.1 else none).map V.str) same_self ys [] (fun x _ K' hK=>?_) (by show 0+_≤_;exact L1 (aW (aN _) hy6)) ?_
     ·obtain ⟨s,i⟩:=x
      by_cases q:i=a+1
      ·rw [if_pos q] at hK
       refine eY (b:=(i == a+1)) (beq_iff_eq.mpr q) ?_
       exact hK
      ·rw [if_neg q] at hK
       refine dR (b:=(i == a+1)) (bY.mpr q) ?_
       exact hK
     ·refine rl (List.nil_append ..) (rr List.map_filterMap ?_)
      exact hz _ _
   obtain ⟨near,en'⟩:∃near,ys.filterMap (fun x=>if x.2=a+1 then some x.1 else none)=near:=⟨_,rfl⟩
   obtain ⟨hng,hpre⟩:=hnear near en'
   clear hnear
   have hne:=ER (H:=H) fun w m=>(hng w m).1
   by_cases hA:near≠[]∧0<more.fmod 3
   ·refine wU (List.exists_cons_of_ne_nil hA.1) fun w r' ew=>?_
    have gw:=hng w (by refine rl ew ?_;exact aH)
    refine ⟨.send w,gw,fun cx=>hpre cx _ fun o7 o8=>?_⟩
    refine dY hne ?_
    refine eY (b:=!near.isEmpty) (by refine rl ew ?_;rfl) ?_
    refine eY (aO hA.2) ?_
    have hs:fH H (.lst (near.map V.str)) (.int 0)=some (.str w):=dH.lst.sub (i:=0) (by refine rl ew ?_;rfl) (by refine rl (aA ..) (rr en' ?_);exact aD (List.length_filterMap_le _ _) (by exact L1 hy6))
    refine cX hs ?_
    exact rest cx (.send w) _ _ _ _
   have els:∀(cx:Ctx) (z:Option (V×Bool×Hp)),(∀o7 o8,dG cx fN.body.tl.tl.tl.tl.tl.hd.els [some (.int c),some (.lst (R.map Row.v)),some (.lst (ws.map V.str)),some (.int a),some (.int more),some r.v,some (.int g),o7,o8,some (.lst (near.map V.str)),none] H (fun ρ' H'=>dG cx fN.body.tl.tl.tl.tl.tl.tl ρ' H' (fun _ H1=>finish H H1 .none) (fun v H1=>finish H H1 v)) (fun v H1=>finish H H1 v)=z)→dG cx fN.body.tl.tl.tl.tl [some (.int c),some (.lst (R.map Row.v)),some (.lst (ws.map V.str)),some (.int a),some (.int more),some r.v,some (.int g),none,none,none,none] H (fun _ H1=>finish H H1 .none) (fun v H1=>finish H H1 v)=z:=by
    intro cx z hz
    refine hpre cx z fun o7 o8=>?_
    refine dY hne ?_
    refine Sh (fun q=>?_) (fun q=>?_)
    ·refine dR (aU fun q2=>hA ⟨fun q3=>?_,q2⟩) ?_
     ·rw [q3] at q;exact fT q
     ·exact hz _ _
    ·refine dR (b:=!near.isEmpty) q ?_
     exact hz _ _
   obtain ⟨l,hl,el⟩:∃l:Int,dS H .len [.tup (ys.map wv)]=some (.int l)∧l=ys.length:=⟨_,wF (by refine rl (aA ..) ?_;exact L1 hy6),by exact rl (aA ..) rfl⟩
   by_cases hB:more.fmod 2=0∧1<l
   ·have mg:=dE (more.fdiv 3) (d:=l) (by exact Z3 (Z6 hB.2))
    obtain ⟨gn,egn⟩:∃gn,gn=(more.fdiv 3).fmod l:=⟨_,rfl⟩
    rw [←egn] at mg
    refine ⟨.get (ys.take gn.toNat++ys.drop (gn.toNat+1)),Mu h' (by exact A2 mg.1 (cC mg.2 (cO el))) (by exact Bf (cC (Z3 (Z6 hB.2)) (cO el))),fun cx=>els cx _ fun o7 o8=>?_⟩
    refine cX rkd ?_
    refine dN (eU r.k .get) ?_
    refine eY (b:=(r.k.n == RK.get.n)) (by refine rl e ?_;rfl) ?_
    refine eY (b:=(more.fmod 2 == 0)) (beq_iff_eq.mpr hB.1) ?_
    refine cX (pD e) ?_
    refine dC hl ?_
    refine eY (aO hB.2) ?_
    refine cX (pD e) ?_
    refine dC hl ?_
    refine qV (by exact Z3 (Z6 hB.2)) ?_
    refine rr egn ?_
    refine cX (pD e) ?_
    have s1:lU H (.tup (ys.map wv)) .none (.int gn)=some (.tup ((ys.take gn.toNat).map wv)):=by
     refine dJ (dP (by refine rl (aA ..) ?_;exact L1 hy6)) ?_
     refine cW (o:=kD _) (a:=gn.toNat) (hU mg.1 rfl) ?_
     refine hU (by refine rl (aA ..) ?_;exact A2 mg.1 (cC mg.2 (cO el))) ?_
     exact rl List.map_take rfl
    have s2:lU H (.tup (ys.map wv)) (.int (gn+1)) .none=some (.tup ((ys.drop (gn.toNat+1)).map wv)):=by
     refine dJ (dP (by refine rl (aA ..) ?_;exact L1 hy6)) ?_
     refine cW (o:=kD _) (a:=gn.toNat+1) (hU (show 0≤gn+1 by exact Z2 (bX mg.1 (cN _))) (aQ some (by exact MB mg.1))) ?_
     refine dJ (b:=true&&_) (by refine rl (Bool.true_and ..) ?_;exact aO ⟨by exact N2 (aW (aX _) (aN _)),by refine rl (aA ..) ?_;exact Nat.succ_le_of_lt (A2 mg.1 (cC mg.2 (cO el)))⟩) ?_
     exact rl List.map_drop rfl
    refine cW s1 ?_
    refine cX (pD e) ?_
    refine cW s2 ?_
    refine nV (op:=.Add) (v:=.tup ((ys.take gn.toNat++ys.drop (gn.toNat+1)).map wv)) (hU (by show _+_≤1100000;refine rl (aA ..) (rl (aA ..) (rl List.length_take (rl List.length_drop ?_)));omega) (by exact rl aM rfl)) ?_
    exact rest cx (.get _) _ _ _ _
   ·refine ⟨_,wg (more.fdiv 3),fun cx=>els cx _ fun o7 o8=>?_⟩
    have C:dG cx fN.body.tl.tl.tl.tl.tl.hd.els.hd.els [some (.int c),some (.lst (R.map Row.v)),some (.lst (ws.map V.str)),some (.int a),some (.int more),some r.v,some (.int g),o7,o8,some (.lst (near.map V.str)),none] H (fun ρ' H'=>dG cx fN.body.tl.tl.tl.tl.tl.tl ρ' H' (fun _ H1=>finish H H1 .none) (fun v H1=>finish H H1 v)) (fun v H1=>finish H H1 v)=some (.lst ((R.set a.toNat (.get [(ws.getD ((more.fdiv 3).fmod 6).toNat Str.empty,g)])).map Row.v),false,H):=by
     refine cX rkd ?_
     refine dN (eU r.k .get) ?_
     refine eY (b:=(r.k.n == RK.get.n)) (by refine rl e ?_;rfl) ?_
     refine cX (wat (more.fdiv 3)) ?_
     exact rest cx (.get [(ws.getD ((more.fdiv 3).fmod 6).toNat Str.empty,g)]) _ _ _ _
    refine cX rkd ?_
    refine dN (eU r.k .get) ?_
    refine eY (b:=(r.k.n == RK.get.n)) (by refine rl e ?_;rfl) ?_
    refine Sh (b:=(more.fmod 2 == 0)) (fun q=>?_) (fun q=>?_)
    ·refine cX (pD e) ?_
     refine dC hl ?_
     refine dR (aU fun q2=>hB ⟨beq_iff_eq.mp q,q2⟩) ?_
     exact C
    ·refine dR (b:=(more.fmod 2 == 0)) q ?_
     exact C
  all_goals
   have both:∀mk:Int→Row,(∀x,V.tup [.str r.k.s,.int x]=(mk x).v)→(∀x,0≤x→x≤n-1→gV n a (mk x))→∃r',gV n a r'∧fH H (.lst [.tup [.str r.k.s,.int g],(Row.jump g).v,Row.fin.v,.tup [.str r.k.s,.int a],.tup [.str r.k.s,.int (if 0<a-1 then a-1 else 0)]]) (.int (more.fmod 5))=some r'.v:=by
    intro mk h1 h2
    have m5:=dE more (d:=5) (by decide)
    refine rl (h1 ..) (rl (h1 ..) (rl (h1 ..) ?_))
    rcases (by exact VG m5.1 m5.2:more.fmod 5=0∨more.fmod 5=1∨more.fmod 5=2∨more.fmod 5=3∨more.fmod 5=4) with q | q | q | q | q
    ·exact ⟨mk g,h2 g hg.1 (by exact Z5 hg.2),by refine rl q ?_;rfl⟩
    ·exact ⟨.jump g,⟨hg.1,by exact Z5 hg.2⟩,by refine rl q ?_;rfl⟩
    ·exact ⟨.fin,trivial,by refine rl q ?_;rfl⟩
    ·exact ⟨mk a,h2 a ha.1 (by exact Z5 ha.2),by refine rl q ?_;rfl⟩
    ·exact ⟨mk _,h2 (if 0<a-1 then a-1 else 0) (by split <;> omega) (by split <;> omega),by refine rl q ?_;rfl⟩
   have hb:∃r',gV n a r'∧fH H (.lst [.tup [.str r.k.s,.int g],(Row.jump g).v,Row.fin.v,.tup [.str r.k.s,.int a],.tup [.str r.k.s,.int (if 0<a-1 then a-1 else 0)]]) (.int (more.fmod 5))=some r'.v:=by
    first
    |exact both .flip (fun x=>by refine rl e ?_;rfl) fun x h0 h1=>⟨⟨h0,h1⟩,by rw [e] at hrow;exact hrow.2⟩
    |exact both .jump (fun x=>by refine rl e ?_;rfl) fun x h0 h1=>⟨h0,h1⟩
   refine dF hb fun r' hr' hs=>?_
   refine ⟨r',hr',fun cx=>?_⟩
   refine cX rkd ?_
   refine dN (eU r.k .get) ?_
   refine dR (b:=(r.k.n == RK.get.n)) (by refine rl e ?_;rfl) ?_
   refine cX rkd ?_
   refine dN (eU r.k .get) ?_
   refine dR (b:=(r.k.n == RK.get.n)) (by refine rl e ?_;rfl) ?_
   refine dR (b:=(r.k.n == RK.get.n)) (by refine rl e ?_;rfl) ?_
   refine cX rkd ?_
   refine dN (eU r.k .get) ?_
   refine dR (b:=(r.k.n == RK.get.n)) (by refine rl e ?_;rfl) ?_
   refine cX rkd ?_
   refine dN (eU r.k .send) ?_
   refine dR (b:=(r.k.n == RK.send.n)) (by refine rl e ?_;rfl) ?_
   refine cX rkd ?_
   refine dN (eU r.k .fin) ?_
   refine dR (b:=(r.k.n == RK.fin.n)) (by refine rl e ?_;rfl) ?_
   refine cX rkd ?_
   refine cX rkd ?_
   refine cX rkd ?_
   refine cX hs ?_
   exact rest cx r' _ _ _ _
 refine dF main fun r' hr' hz=>?_
 refine ⟨R.set a.toNat r',Zw hR (by refine rr en (rl (bP ha.1) ?_);exact hr'),?_⟩
 refine eV gx.law_bent rfl fun cx _ _=>?_
 refine dC hlen ?_
 refine qV (by exact Z3 (bI (Bc h1) (A1 en))) ?_
 subst eg
 subst em
 subst ea
 refine cX hsub ?_
 refine dC hlen ?_
 refine qV (by exact Z3 (bI (Bc h1) (A1 en))) ?_
 exact hz cx
end
end
section
theorem Fe {b:Int}:∀{xs:List Int}{m:Int},Ac m xs≤b↔m≤b∧∀x∈xs,x≤b
 |[],m=>⟨fun h=>⟨h,fun _ h=>nomatch h⟩,fun h=>h.1⟩
 |x::xs,m=>by
  show Ac (if m<x then x else m) xs≤b↔_
  refine ri Fe ?_
  constructor
  ·intro h
   refine ⟨?_,fun y hy=>?_⟩
   ·have:=h.1;split at this <;> omega
   ·rcases aZ.mp hy with rfl | hy
    ·have:=h.1;split at this <;> omega
    ·exact h.2 y hy
  ·intro h
   have:=h.2 x aH
   exact ⟨by split <;> omega,fun y hy=>h.2 y (aT _ hy)⟩
theorem Pm {b:Int}{xs:List Int}(h0:∀x∈xs,0≤x) (hb:0≤b):maxD 0 xs≤b↔∀x∈xs,x≤b:=by
 cases xs with
 |nil=>exact ⟨fun _ _ h=>(nomatch h),fun _=>hb⟩
 |cons x xs=>exact Fe.trans ⟨fun h y hy=>(aZ.mp hy).elim (fun e=>e ▸ h.1) (h.2 y),fun h=>⟨h x aH,fun y hy=>h y (aT _ hy)⟩⟩
theorem Mv {xs:List Int}(h0:∀x∈xs,0≤x):0≤maxD 0 xs:=by
 cases xs with
 |nil=>exact cN _
 |cons x xs=>exact bI (h0 x aH) (Fe.mp (cN (Ac x xs))).1
theorem Jh {xs ys:List Int}(h0:∀x∈xs,0≤x) (h1:∀y∈ys,0≤y) (h:∀x∈xs,x∈ys):maxD 0 xs≤maxD 0 ys:=
 (Pm h0 (Mv h1)).mpr fun x hx=>(Pm h1 (Mv h1)).mp (cN _) x (h x hx)
theorem Ff {xs ys:List Int}(h0:∀x∈xs,0≤x) (h:∀x,x∈xs↔x∈ys):maxD 0 xs=maxD 0 ys:=
 Int.le_antisymm (Jh h0 (fun y hy=>h0 y ((h y).mpr hy)) fun x=>(h x).mp) (Jh (fun y hy=>h0 y ((h y).mpr hy)) h0 fun x=>(h x).mpr)
abbrev Pr:=Int×Int
inductive qQ (g:Pr→List Pr):Pr→Int→Prop
 |mk {x:Pr}(h:Pr→Int):(∀y∈g x,qQ g y (h y))→qQ g x (1+maxD 0 ((g x).map h))
section
variable {g g':Pr→List Pr}{ks ks':List Pr}{B:Pr→Pr→Prop}
theorem qQ.pos {x:Pr}{n:Int}(h:qQ g x n):0≤n:=by
 induction h with
 |mk h _ ih=>
  have:=Mv (xs:=(g _).map h) fun z hz=>by obtain ⟨y,hy,rfl⟩:=aJ.mp hz;exact ih y hy
  exact Z2 (bX (cN _) this)
theorem qQ.get {x:Pr}{n:Int}(h:qQ g x n):∃f:Pr→Int,(∀y∈g x,qQ g y (f y))∧n=1+maxD 0 ((g x).map f):=by
 cases h with | mk f h=>exact ⟨f,h,rfl⟩
theorem qQ.uniq {x:Pr}{n m:Int}(h:qQ g x n) (k:qQ g x m):n=m:=by
 induction h generalizing m with
 |mk f h ih=>
  refine dF k.get fun f' h' e_e=>?_;subst e_e
  exact rl (List.map_congr_left fun y hy=>ih y hy (h' y hy)) rfl
theorem qQ.bis (l:∀x y,B x y→∀x'∈g x,∃y'∈g' y,B x' y') (r:∀x y,B x y→∀y'∈g' y,∃x'∈g x,B x' y') {x y:Pr}{n:Int}(h:qQ g x n) (b:B x y):qQ g' y n:=by
 induction h generalizing y with
 |@mk x f h ih=>
  have key:∀y'∈g' y,∃x'∈g x,B x' y'∧qQ g' y' (f x'):=fun y' hy=>by
   refine dF (r x y b y' hy) fun x' hx b'=>?_
   exact ⟨x',hx,b',ih x' hx b'⟩
  have:∃f':Pr→Int,∀y'∈g' y,qQ g' y' (f' y')∧∃x'∈g x,B x' y'∧f' y'=f x':=by
   refine ⟨fun y'=>@dite _ (y'∈g' y) (Classical.propDecidable _) (fun hy=>f (Classical.choose (key y' hy))) fun _=>0,fun y' hy=>?_⟩
   dsimp only
   refine rl (dif_pos hy) ?_
   have:=Classical.choose_spec (key y' hy)
   exact ⟨this.2.2,_,this.1,this.2.1,rfl⟩
  obtain ⟨f',hf⟩:=this
  have e:maxD 0 ((g x).map f)=maxD 0 ((g' y).map f'):=Ff (fun z hz=>by refine dF (aJ.mp hz) fun x' hx e_e=>?_;subst e_e;exact (h x' hx).pos) fun z=>by
   constructor
   ·intro hz
    refine dF (aJ.mp hz) fun x' hx e_e=>?_;subst e_e
    refine dF (l x y b x' hx) fun y' hy b'=>?_
    exact aJ.mpr ⟨y',hy,(hf y' hy).1.uniq (ih x' hx b')⟩
   ·intro hz
    refine dF (aJ.mp hz) fun y' hy e_e=>?_;subst e_e
    obtain ⟨_,x',hx,_,e⟩:=hf y' hy
    exact aJ.mpr ⟨x',hx,e.symm⟩
  refine rl e ?_
  exact .mk f' fun y' hy=>(hf y' hy).1
inductive ES (g:Pr→List Pr) (ks:List Pr):V→Prop
 |no {x:Pr}:x∈ks→(∀n,¬qQ g x n)→ES g ks .none
 |all (h:Pr→Int):(∀x∈ks,qQ g x (h x))→ES g ks (.int (maxD 0 (ks.map h)))
theorem ES.uniq (l:∀x y,B x y→∀x'∈g x,∃y'∈g' y,B x' y') (r:∀x y,B x y→∀y'∈g' y,∃x'∈g x,B x' y') (kl:∀x∈ks,∃y∈ks',B x y) (kr:∀y∈ks',∃x∈ks,B x y) {v w:V}(h:ES g ks v) (k:ES g' ks' w):v=w:=by
 have r':∀y x,B x y→∀y'∈g' y,∃x'∈g x,B x' y':=fun y x=>r x y
 have l':∀y x,B x y→∀x'∈g x,∃y'∈g' y,B x' y':=fun y x=>l x y
 cases h with
 |@no x hx hn=>
  cases k with
  |no _ _=>rfl
  |all f hf=>
   refine dF (kl x hx) fun y hy b=>?_
   exact absurd (qQ.bis (B:=fun y x=>B x y) r' l' (hf y hy) b) (hn _)
 |all f hf=>
  cases k with
  |@no y hy hn=>
   refine dF (kr y hy) fun x hx b=>?_
   exact absurd (qQ.bis l r (hf x hx) b) (hn _)
  |all f' hf'=>
   refine aQ V.int (Ff (fun z hz=>by refine dF (aJ.mp hz) fun x' hx e_e=>?_;subst e_e;exact (hf x' hx).pos) fun z=>?_)
   constructor
   ·intro hz
    refine dF (aJ.mp hz) fun x hx e_e=>?_;subst e_e
    refine dF (kl x hx) fun y hy b=>?_
    exact aJ.mpr ⟨y,hy,(hf' y hy).uniq (qQ.bis l r (hf x hx) b)⟩
   ·intro hz
    refine dF (aJ.mp hz) fun y hy e_e=>?_;subst e_e
    refine dF (kr y hy) fun x hx b=>?_
    exact aJ.mpr ⟨x,hx,((hf' y hy).uniq (qQ.bis l r (hf x hx) b)).symm⟩
end
noncomputable def Aq (one other:List dB) (x:Pr):Option Bool:=eD (atS one x.1) (atS other x.2)
noncomputable def AM (one other:List dB) (x:Pr):List Pr:=(dZ (atS one x.1) (atS other x.2)).map (vO (atS one x.1) (atS other x.2))
noncomputable def eF (one other:List dB) (h:Bool) (S:List Pr):List Pr:=S.filter fun x=>decide (Aq one other x=some h)
noncomputable def Cr (one other:List dB) (h:Bool) (S:List Pr) (x:Pr):List Pr:=(AM one other x).filter fun y=>decide (y∈eF one other h S)
theorem gC {one other:List dB}{h:Bool}{S:List Pr}{x:Pr}:x∈eF one other h S↔x∈S∧Aq one other x=some h:=List.mem_filter.trans ⟨fun q=>⟨q.1,bD q.2⟩,fun q=>⟨q.1,aO q.2⟩⟩
section
variable {ps qs ps' qs':List dB}{E E':Int→Int→Prop}
theorem Ji {p q p' q':dB}(h:eD p q=eD p' q') (hp:p.words=p'.words) (hq:q.words=q'.words):dZ p q=dZ p' q':=by
 unfold dZ
 exact rl h (rl hp (rl hq rfl))
theorem Pn (h:tK ps qs E) (h':tK ps' qs' E') {S T:List Pr}(hT:∀x,x∈T↔Reach qs qs' x) {k:Bool}{x y:Pr}(ry:Reach qs qs' y) (e:E x.1 y.1) (e':E' x.2 y.2):∀x'∈Cr ps ps' k S x,∃y'∈Cr qs qs' k T y,Reach qs qs' y'∧E x'.1 y'.1∧E' x'.2 y'.2:=fun x' hx=>by
 obtain ⟨m,d⟩:=List.mem_filter.mp hx
 have hs:=gC.mp (bD d)
 refine dF (aJ.mp m) fun w hw e_e=>?_;subst e_e
 have es:=kB (h.kd _ _ e) (h.words _ _ e) (h'.kd _ _ e') (h'.words _ _ e')
 have eb:=Ji es (h.words _ _ e) (h'.words _ _ e')
 have hb:=qD w hw
 have hb':=qD w (eb ▸ hw)
 have e1:=h.go _ _ e w hb.1
 have e2:=h'.go _ _ e' w hb.2
 have hsm:(eD (atS qs y.1) (atS qs' y.2)).isSome=true:=by
  unfold dZ at hw
  refine rr es ?_
  cases q:eD (atS ps x.1) (atS ps' x.2) with
  |none=>rw [q] at hw;cases hw
  |some _=>rfl
 have rn:=ry.step (w:=w) hsm hb'.1 hb'.2
 refine ⟨_,List.mem_filter.mpr ⟨aJ.mpr ⟨w,eb ▸ hw,rfl⟩,aO (gC.mpr ⟨(hT _).mpr rn,?_⟩)⟩,rn,e1,e2⟩
 exact (kB (h.kd _ _ e1) (h.words _ _ e1) (h'.kd _ _ e2) (h'.words _ _ e2)).symm.trans hs.2
theorem Po (h:tK ps qs E) (h':tK ps' qs' E') {S T:List Pr}(hS:∀x,x∈S↔Reach ps ps' x) (hT:∀x,x∈T↔Reach qs qs' x) {k:Bool}{x:Pr}(hx:x∈eF ps ps' k S):∃y∈eF qs qs' k T,Reach qs qs' y∧E x.1 y.1∧E' x.2 y.2:=by
 obtain ⟨m,s⟩:=gC.mp hx
 refine fU (Cm h h' ((hS x).mp m)) fun y ry e e'=>?_
 exact ⟨y,gC.mpr ⟨(hT y).mpr ry,(kB (h.kd _ _ e) (h.words _ _ e) (h'.kd _ _ e') (h'.words _ _ e')).symm.trans s⟩,ry,e,e'⟩
theorem Pp (h:tK ps qs E) (h':tK ps' qs' E') {S T:List Pr}(hS:∀x,x∈S↔Reach ps ps' x) (hT:∀x,x∈T↔Reach qs qs' x) {k:Bool}{v w:V}(hv:ES (Cr ps ps' k S) (eF ps ps' k S) v) (hw:ES (Cr qs qs' k T) (eF qs qs' k T) w):v=w:=by
 refine ES.uniq (B:=fun x y=>Reach ps ps' x∧Reach qs qs' y∧E x.1 y.1∧E' x.2 y.2) ?_ ?_ ?_ ?_ hv hw
 ·intro x y b x' hx
  refine Jp (Pn h h' hT b.2.1 b.2.2.1 b.2.2.2 x' hx) fun y' hy ry e e'=>?_
  exact ⟨y',hy,(hS _).mp (gC.mp (bD (List.mem_filter.mp hx).2)).1,ry,e,e'⟩
 ·intro x y b y' hy
  refine Jp (Pn h.flip h'.flip hS b.1 b.2.2.1 b.2.2.2 y' hy) fun x' hx rx e e'=>?_
  exact ⟨x',hx,rx,(hT _).mp (gC.mp (bD (List.mem_filter.mp hy).2)).1,e,e'⟩
 ·intro x hx
  refine Jp (Po h h' hS hT hx) fun y hy ry e e'=>?_
  exact ⟨y,hy,(hS _).mp (gC.mp hx).1,ry,e,e'⟩
 ·intro y hy
  refine Jp (Po h.flip h'.flip hT hS hy) fun x hx rx e e'=>?_
  exact ⟨x,hx,rx,(hT _).mp (gC.mp hy).1,e,e'⟩
end
end
section
noncomputable def vR (g:Pr→List Pr) (x:Pr):Int:=@dite _ (∃n,qQ g x n) (Classical.propDecidable _) (fun h=>Classical.choose h) fun _=>0
theorem Zx {g:Pr→List Pr}{x:Pr}{n:Int}(h:qQ g x n):vR g x=n:=by
 unfold vR
 refine rl (dif_pos ⟨n,h⟩) ?_
 exact (Classical.choose_spec (⟨n,h⟩:∃n,qQ g x n)).uniq h
noncomputable def Jj (g:Pr→List Pr) (ks:List Pr):V:=@ite _ (∀x∈ks,∃n,qQ g x n) (Classical.propDecidable _) (.int (maxD 0 (ks.map (vR g)))) .none
theorem Pq {g:Pr→List Pr}{ks:List Pr}(h:∀x∈ks,qQ g x (vR g x)):Jj g ks=.int (maxD 0 (ks.map (vR g))):=if_pos fun x hx=>⟨_,h x hx⟩
theorem Zy {g:Pr→List Pr}{ks:List Pr}{x:Pr}(hx:x∈ks) (h:∀n,¬qQ g x n):Jj g ks=.none:=if_neg fun q=>(q x hx).elim h
theorem Zz {g:Pr→List Pr}{ks:List Pr}(n:Nat):(Jj g ks).ok n=true:=by
 unfold Jj
 split <;> rfl
theorem Fg {g:Pr→List Pr}{ks:List Pr}:ES g ks (Jj g ks):=by
 by_cases h:∀x∈ks,∃n,qQ g x n
 ·have h':∀x∈ks,qQ g x (vR g x):=fun x hx=>(h x hx).elim fun n hn=>(Zx hn).symm ▸ hn
  refine rl (Pq h') ?_
  exact .all _ h'
 ·have:∃x,x∈ks∧∀n,¬qQ g x n:=bK fun q=>h fun x hx=>bK fun q2=>q ⟨x,hx,fun n hn=>q2 ⟨n,hn⟩⟩
  refine dF this fun x hx hn=>?_
  refine rl (Zy hx hn) ?_
  exact .no hx hn
theorem nG {f:Pr→V}{x:Pr}:∀{ks:List Pr},x∈ks→dfind (ks.map kv) (ks.map f) (kv x)=some (f x)
 |[],h=>nomatch h
 |y::ks,h=>by
  show (if kv y=kv x then some (f y) else dfind (ks.map kv) (ks.map f) (kv x))=_
  by_cases q:y=x
  ·exact rl (if_pos (by rw [q])) (rl q rfl)
  ·refine rl (if_neg fun e=>q (yU e)) ?_
   exact nG ((aZ.mp h).resolve_left fun e=>q e.symm)
theorem Mw {H:Hp}{j:Nat}{ks vs:List V}(h:H[j]? = some (.dct true ks vs)):nK .plain H (.ref j)=some ks:=cW (o:=H[j]?) h rfl
theorem Jk:∀is:List Int,fF intOf (is.map V.int)=some is
 |[]=>rfl
 |i::is=>by
  show ((fF intOf (is.map V.int)).map fun ys=>i::ys)=_
  refine rl (Jk is) ?_;rfl
theorem AA {H:Hp}{is:List Int}(h:is.length≤1100000):dS H .maxD [.lst (is.map V.int),.int 0]=some (.int (maxD 0 is)):=
 show ((fF intOf (is.map V.int)).bind fun l=>gd (small (is.map V.int)) (some (V.int (maxD 0 l))))=_ from cW (Jk is) (dJ (dP (by refine rl (aA ..) ?_;exact h)) rfl)
noncomputable def PQ (j:Nat) (H:Hp) (many:Int) (o3:Option V):Loc:=[some (.ref j),some (.ref H.length),some (.int many),o3,none]
noncomputable def AN (g:Pr→List Pr) (H:Hp) (dn:List Pr):Hp:=H++[.dct true (dn.map kv) (dn.map fun x=>.int (vR g x))]
structure ET (g:Pr→List Pr) (ks dn:List Pr):Prop where
 nd:dn.Nodup
 k:∀x∈dn,x∈ks
 h:∀x∈dn,qQ g x (vR g x)
noncomputable def RH (g:Pr→List Pr) (ks dn:List Pr):Prop:=∀x∈ks,x∈dn∨∃y∈g x,y∉dn
section
variable {g:Pr→List Pr}{ks dn:List Pr}
theorem ET.add (h:ET g ks dn) {x:Pr}(hx:x∈ks) (hn:x∉dn) (ha:∀y∈g x,y∈dn):ET g ks (dn++[x])∧vR g x=1+maxD 0 ((g x).map (vR g)):=by
 have hh:qQ g x (1+maxD 0 ((g x).map (vR g))):=.mk _ fun y hy=>h.h y (ha y hy)
 have e:=Zx hh
 refine ⟨⟨cT.mpr ⟨h.nd,cA.mpr ⟨cE,cG⟩,fun a ha b hb q=>hn ((aG.mp hb) ▸ q ▸ ha)⟩,fun y hy=>?_,fun y hy=>?_⟩,e⟩
 ·rcases aY.mp hy with q | q
  ·exact h.k y q
  ·refine rl (aG.mp q) ?_;exact hx
 ·rcases aY.mp hy with q | q
  ·exact h.h y q
  ·refine rl (aG.mp q) (rl e ?_);exact hh
theorem RH.has (hc:RH g ks dn) (hg:∀x∈ks,∀y∈g x,y∈ks) {x:Pr}{n:Int}(h:qQ g x n):x∈ks→x∈dn:=by
 induction h with
 |@mk x f _ ih=>exact fun hx=>(hc x hx).elim id fun ⟨y,hy,hn⟩=>absurd (ih y hy (hg x hx y hy)) hn
end
section
variable {P:Nat→Option Fn}(gm:GM P) {fuel k:Nat}{H:Hp}{j:Nat}{g:Pr→List Pr}{ks:List Pr}
 (hj:H[j]? = some (.dct true (ks.map kv) (ks.map fun x=>.lst ((g x).map kv)))) (hks:ks.length≤144) (hg6:∀x∈ks,(g x).length≤6) (hg:∀x∈ks,∀y∈g x,y∈ks)
include hj
theorem zV {dn:List Pr}:(AN g H dn)[j]? = some (.dct true (ks.map kv) (ks.map fun x=>.lst ((g x).map kv))):=by
 unfold AN
 refine rl (bH (aS.mp hj).1) ?_
 exact hj
omit hj in
theorem zW {dn:List Pr}:(AN g H dn)[H.length]? = some (.dct true (dn.map kv) (dn.map fun x=>.int (vR g x))):=kA
include hks hg6 in
theorem EU {c:Ctx}{z:Option (V×Bool×Hp)}{dn:List Pr}(h:ET g ks dn) {x:Pr}(hx:x∈ks) {many:Int}{o3:Option V}{K:Loc→Hp→Option (V×Bool×Hp)}{L:V→Hp→Option (V×Bool×Hp)}
  (hK:∀dn',ET g ks dn'→(dn'=dn∧(x∈dn∨∃y∈g x,y∉dn)∨dn.length<dn'.length)→K (PQ j H many (some (kv x))) (AN g H dn')=z) :
  gJ (.slot 3) (fun ρ H K=>dG c uE.body.tl.tl.hd.inner.tl.hd.inner ρ H K L) (kv x) (PQ j H many o3) (AN g H dn) K=z:=by
 have hdl:=aD (gA h.nd h.k) hks
 have h6:=hg6 x hx
 have hsub:=pL (x:=x) (zV hj (dn:=dn)) (nG hx)
 refine dY (notin_dict (x:=x) zW) ?_
 by_cases hin:x∈dn
 ·refine dR (b:=!decide (kv x∈dn.map kv)) (by refine rl (aO (iD.mpr hin)) ?_;rfl) ?_
  refine dR (b:=!decide (kv x∈dn.map kv)) (by refine rl (aO (iD.mpr hin)) ?_;rfl) ?_
  exact hK dn h (.inl ⟨rfl,.inl hin⟩)
 ·refine eY (b:=!decide (kv x∈dn.map kv)) (by refine rl (aU fun m=>hin (iD.mp m)) ?_;rfl) ?_
  refine cX hsub ?_
  refine gX (a:=kv) (b:=fun y=>.bool (decide (kv y∈dn.map kv))) same_self (g x) [] (fun y _ K' hK'=>?_) (by show 0+_≤_;exact L1 (aW (aN _) h6)) ?_
  ·exact dY (Yu zW lK) hK'
  refine rl (List.nil_append ..) ?_
  refine dC (all_map (f:=fun y:Pr=>decide (kv y∈dn.map kv)) (xs:=g x)) ?_
  by_cases ha:∀y∈g x,y∈dn
  ·refine eY (b:=(g x).all fun y=>decide (kv y∈dn.map kv)) (bR.mpr fun y hy=>aO (iD.mpr (ha y hy))) ?_
   obtain ⟨hi,e⟩:=h.add hx hin ha
   refine cX hsub ?_
   refine gX (a:=kv) (b:=fun y=>.int (vR g y)) same_self (g x) [] (fun y hy K' hK'=>?_) (by show 0+_≤_;exact L1 (aW (aN _) h6)) ?_
   ·exact cX (pL (x:=y) zW (nG (f:=fun x=>.int (vR g x)) (ha y hy))) hK'
   refine rl (List.nil_append ..) (rl (show (g x).map (fun y=>V.int (vR g y))=((g x).map (vR g)).map V.int by rw [bJ];rfl) ?_)
   refine dC (AA (by refine rl (aA ..) ?_;exact L1 h6)) ?_
   refine lX ((set_dict zW hin (by exact L1 hdl)).trans (aQ some tI)) ?_
   have hk:=hK (dn++[x]) hi (.inr (by refine rl aE ?_;exact Nat.lt_succ_self _))
   unfold AN at hk
   rw [aM (f:=fun x=>V.int (vR g x))] at hk
   refine rl (show V.int (1+maxD 0 ((g x).map (vR g)))=V.int (vR g x) by rw [e]) ?_
   exact hk
  ·refine dR (b:=(g x).all fun y=>decide (kv y∈dn.map kv)) (Bool.eq_false_iff.mpr fun q=>ha fun y hy=>iD.mp (bD (bR.mp q y hy))) ?_
   refine hK dn h (.inl ⟨rfl,.inr ?_⟩)
   exact bK fun q=>ha fun y hy=>bK fun q2=>q ⟨y,hy,q2⟩
include gm hks hg6 hg in
theorem Fh (hn:ks.Nodup) (hfu:146≤fuel):F P fuel (k+1) 71 [.ref j] H=some (Jj g ks,false,H):=by
 refine eV gm.longest rfl fun c hF hfuel=>?_
 have hkn:∀dn,ET g ks dn→dn.length≤ks.length:=fun dn h=>gA h.nd h.k
 refine yX (Z:=fun o=>o=(some (Jj g ks,false,H):Option (V×Bool×Hp))) (T:=List Pr×Int×Option V) (fun t=>PQ j H t.2.1 t.2.2) (fun t=>AN g H t.1) (fun t=>(144-t.2.1).toNat) (fun t=>ET g ks t.1∧t.2.1≤t.1.length∧(t.2.1<t.1.length∨RH g ks t.1)) ?_ c.fuel ([],-1,none) ⟨⟨cG,fun _ h=>(nomatch h),fun _ h=>(nomatch h)⟩,by decide,.inl (by decide)⟩ (by show (144-(-1:Int)).toNat<_;exact aR (N3 hfu) (A0 hfuel))
 rintro ⟨dn,many,o3⟩ K1 ⟨h,hm,hc⟩ hK1
 change ET g ks dn at h
 dsimp only at hm hc hK1 ⊢
 have hdl:=hkn dn h
 obtain ⟨nI,en,hlen⟩:∃nI:Int,nI=dn.length∧dS (AN g H dn) .len [.ref H.length]=some (.int nI):=⟨_,rfl,(tH zW (by refine rl (aA ..) ?_;exact L1 (aD hdl hks))).trans (by exact rl (aA ..) rfl)⟩
 refine dC hlen ?_
 by_cases q:many<nI
 ·refine eY (b:=decide (many<nI)) (aO q) ?_
  refine dC hlen ?_
  refine jE (Mw (zV hj)) ?_
  refine Ro (G:=some j) (H0:=AN g H dn) (a:=kv) (fun (_:List Pr) o3=>PQ j H nI o3) (fun dn _=>AN g H dn) (fun xs dn' _=>ET g ks dn'∧dn.length≤dn'.length∧(∀x∈xs,x∈ks)∧(dn.length<dn'.length∨(dn'=dn∧∀x∈ks,x∈xs∨x∈dn∨∃y∈g x,y∉dn))) (fun dn' _=>aO ((zV hj).trans (zV hj).symm)) ?_ ?_ ks dn o3 ⟨h,aN _,fun _ h=>h,.inr ⟨rfl,fun x hx=>.inl hx⟩⟩
  ·intro x xs dn' o3 K' hi hK'
   refine LY hi fun h1 h2 h3 h4=>?_
   refine EU hj hks hg6 h1 (h3 x aH) fun dn'' h5 h6=>hK' dn'' _ ⟨h5,?_,fun y hy=>h3 y (aT _ hy),?_⟩
   ·rcases h6 with h6 | h6
    ·refine rl h6.1 ?_;exact h2
    ·exact aD h2 (cI h6)
   ·rcases h6 with h6 | h6
    ·refine rl h6.1 ?_
     refine h4.imp_right fun h4=>⟨h4.1,fun y hy=>?_⟩
     rcases h4.2 y hy with q | q
     ·rcases aZ.mp q with q | q
      ·refine rl q (rr h4.1 ?_);exact .inr h6.2
      ·exact .inl q
     ·exact .inr q
    ·exact .inl (by exact cR h2 h6)
  ·intro dn' o3 hi
   refine LY hi fun h1 h2 h3 h4=>?_
   have:=hkn dn' h1
   refine hK1 (dn',nI,o3) ⟨h1,by show nI≤dn'.length;exact bI (cO en) (Bc h2),?_⟩ ?_
   ·rcases h4 with h4 | h4
    ·exact .inl (show nI<dn'.length by exact Int.lt_of_le_of_lt (cO en) (FG h4))
    ·refine .inr fun x hx=>?_
     refine rl h4.1 ?_
     exact (h4.2 x hx).resolve_left fun e=>nomatch e
   ·show (144-nI).toNat<(144-many).toNat
    exact QB q en h2 this hks
 ·refine dR (b:=decide (many<nI)) (aU q) ?_
  have hc:=hc.resolve_left (by exact QA q en)
  refine dC hlen ?_
  refine dC (v:=.int (ks.length:Int)) ((tH (zV hj) (by refine rl (aA ..) ?_;exact L1 hks)).trans (by exact rl (aA ..) rfl)) ?_
  by_cases q2:dn.length<ks.length
  ·refine eY (b:=decide (nI<(ks.length:Int))) (aO (by exact Int.lt_of_le_of_lt (cO en) (FG q2))) ?_
   have:∃x,x∈ks∧x∉dn:=bK fun q3=>by
    have:=gA hn fun x hx=>bK fun q4=>q3 ⟨x,hx,q4⟩
    omega
   refine dF this fun x hx hxn=>?_
   refine rl (Zy hx fun n hh=>hxn (hc.has hg hh hx)) ?_
   exact kM (v:=.none) rfl
  ·refine dR (b:=decide (nI<(ks.length:Int))) (aU (by exact PZ en q2)) ?_
   have hsub:∀x∈ks,x∈dn:=fun x hx=>bK fun q3=>by
    have hnd:(x::dn).Nodup:=cA.mpr ⟨q3,h.nd⟩
    have:=gA hnd fun y hy=>(aZ.mp hy).elim (fun e=>e ▸ hx) (h.k y)
    rw [bF] at this
    omega
   refine jE (Mw zW) ?_
   refine gX (a:=kv) (b:=fun y=>.int (vR g y)) same_self dn [] (fun y hy K' hK'=>?_) (by show 0+_≤_;exact L1 (aW (aN _) (aD hdl hks))) ?_
   ·exact cX (pL (x:=y) zW (nG (f:=fun x=>.int (vR g x)) hy)) hK'
   refine rl (List.nil_append ..) (rl (show dn.map (fun y=>V.int (vR g y))=(dn.map (vR g)).map V.int by rw [bJ];rfl) ?_)
   refine dC (AA (by refine rl (aA ..) ?_;exact L1 (aD hdl hks))) ?_
   refine rl (Pq fun x hx=>h.h x (hsub x hx)) ?_
   rw [Ff (xs:=dn.map (vR g)) (ys:=ks.map (vR g)) (fun z hz=>by refine dF (aJ.mp hz) fun x' hx e_e=>?_;subst e_e;exact (h.h x' hx).pos) fun z=>⟨fun hz=>by refine dF (aJ.mp hz) fun x hx e_e=>?_;subst e_e;exact aJ.mpr ⟨x,h.k x hx,rfl⟩,fun hz=>by refine dF (aJ.mp hz) fun x hx e_e=>?_;subst e_e;exact aJ.mpr ⟨x,hsub x hx,rfl⟩⟩]
   exact kM (v:=.int _) rfl
end
end
section
noncomputable def bN:Bool→Nat
 |false=>0
 |true=>1
noncomputable def upd (D:Bool→V) (h:Bool) (v:V) (b:Bool):V:=if b=h then v else D b
noncomputable def oE (H:Hp) (D:Bool→V) (L:Hp):Hp:=H++(D false::D true::L)
section
variable {H L:Hp}{D:Bool→V}{h:Bool}{v:V}{i:Nat}
theorem oF:(oE H D L)[H.length+bN h]? = some (D h):=by cases h;exact dX (j:=0);exact dX (j:=1)
theorem LM:(oE H D L).set (H.length+bN h) v=oE H (upd D h v) L:=by cases h;exact fZ (j:=0);exact fZ (j:=1)
theorem zX:(oE H D L)[H.length+(i+2)]? = L[i]?:=dX (j:=i+2)
theorem Fi:(oE H D L).set (H.length+(i+2)) v=oE H D (L.set i v):=fZ (j:=i+2)
theorem Fj:oE H D L++[v]=oE H D (L++[v]):=bC _ _ _
theorem Mx:(oE H D L).length=H.length+(L.length+2):=aE
theorem wR {A B:Hp}:(A++v::B)[A.length]? = some v:=by refine rl (bO (aN _)) (rl (Nat.sub_self ..) ?_);rfl
theorem Ps {A B:Hp}{w:V}:(A++v::B).set A.length w=A++w::B:=by refine rl (List.set_append_right _ _ (aN _)) (rl (Nat.sub_self ..) ?_);rfl
end
noncomputable def dD (one other:List dB) (n:Nat) (ρ:Pr→Nat) (dn:List Pr) (h:Bool):V:=.dct true ((eF one other h dn).map kv) ((eF one other h dn).map fun x=>.ref (n+(ρ x+2)))
noncomputable def LN (one other:List dB) (dn:List Pr) (ρ:Pr→Nat) (L:Hp):Prop:=∀x∈dn,(Aq one other x).isSome=true→L[ρ x]? = some (.lst ((AM one other x).map kv))
noncomputable def Cs (v1 v2:V) (H:Hp) (o3 o4 o5 o6 o7 o8 o9 o10:Option V):Loc:=[some v1,some v2,some (.tup [.ref H.length,.ref (H.length+1)]),o3,o4,o5,o6,o7,o8,o9,o10]
section
variable {one other:List dB}{dn:List Pr}{ρ:Pr→Nat}{n:Nat}{h:Bool}{x:Pr}
theorem Tj (hs:Aq one other x=some h):eF one other h (dn++[x])=eF one other h dn++[x]:=by
 unfold eF
 refine rl (List.filter_append ..) (rl List.filter_cons (rl (if_pos (aO hs)) ?_));rfl
theorem Ct (hs:Aq one other x≠some h):eF one other h (dn++[x])=eF one other h dn:=by
 unfold eF
 refine rl (List.filter_append ..) (rl List.filter_cons (rl (if_neg (by rw [aU hs];decide)) ?_));exact bV _
theorem zY:(eF one other h dn).length≤dn.length:=List.length_filter_le _ _
theorem EV (hs:Aq one other x=none):dD one other n ρ (dn++[x])=dD one other n ρ dn:=funext fun b=>by
 unfold dD
 rw [Ct (by rw [hs];exact fun e=>nomatch e)]
noncomputable def Jl (ρ:Pr→Nat) (x:Pr) (m:Nat) (y:Pr):Nat:=if y=x then m else ρ y
theorem EW (hs:Aq one other x=some h) (hx:x∉dn) (m:Nat):upd (dD one other n ρ dn) h (.dct true ((eF one other h dn).map kv++[kv x]) (((eF one other h dn).map fun x=>.ref (n+(ρ x+2)))++[.ref (n+(m+2))]))=dD one other n (Jl ρ x m) (dn++[x]):=funext fun b=>by
 have old:∀b,((eF one other b dn).map fun y=>V.ref (n+(Jl ρ x m y+2)))=(eF one other b dn).map fun y=>V.ref (n+(ρ y+2)):=fun b=>List.map_congr_left fun y hy=>by
  have:y≠x:=fun e=>hx (e ▸ (gC.mp hy).1)
  unfold Jl
  exact rl (if_neg this) rfl
 unfold upd
 by_cases q:b=h
 ·refine rl (if_pos q) (rl q ?_)
  unfold dD
  refine rl (Tj hs) (rl aM (rl aM (rl (old ..) ?_)))
  show V.dct true _ _=V.dct true _ (_++[V.ref (n+(Jl ρ x m x+2))])
  unfold Jl
  refine rl (if_pos rfl) ?_;rfl
 ·refine rl (if_neg q) ?_
  unfold dD
  exact rl (Ct (by rw [hs];exact fun e=>q (aB e).symm)) (rl (old ..) rfl)
theorem EX {p q:dB}{n m:Int}(hp:eI n p) (hq:eI m q) {h:Bool}(hs:eD p q=some h):∃w ws,dZ p q=w::ws:=by
 have go:∀{p:dB}{n:Int},eI n p→p.isSend=true→∃w ws,p.words=w::ws:=fun {p n} hp h=>by
  cases p with
  |fin=>exact fT h
  |go b ys=>
   cases ys with
   |nil=>exact absurd (eA.lo hp) (by decide)
   |cons y ys=>exact ⟨y.1,ys.map (·.1),rfl⟩
 unfold dZ
 refine rl hs ?_
 unfold eD at hs
 split at hs
 ·next e=>obtain rfl:=aB hs;exact go hp (aF.mp (aF.mp e).1).1
 ·split at hs
  ·next e=>obtain rfl:=aB hs;exact go hq (aF.mp (aF.mp e).1).1
  ·exact nS hs
end
theorem HR {β:Type}{H:Hp}{a k d:V}{v:V×Hp}{f:V×Hp→Option β}{z:Option β}(h:kJ H a k d=some v) (q:f v=z):(kJ H a k d).bind f=z:=cW h q
section
variable {P:Nat→Option Fn}{fuel k:Nat}{H:Hp}{one other:List dB}{v1 v2:V}{dn:List Pr}{ρ:Pr→Nat}{L:Hp}{x:Pr}{h:Bool}{c:Ctx}{z:Option (V×Bool×Hp)}{K:Loc→Hp→Option (V×Bool×Hp)}{Lr:V→Hp→Option (V×Bool×Hp)}{o3 o4 o5 o6 o7 o8 o9 o10:Option V}
theorem LO {l:List Pr}{f:Pr→V}(hx:x∉l):dfind (l.map kv) (l.map f) (kv x)=none:=by
 induction l with
 |nil=>rfl
 |cons y l ih=>
  show (if kv y=kv x then some (f y) else dfind (l.map kv) (l.map f) (kv x))=_
  rw [if_neg fun e=>hx (by refine rl (yU e) ?_;exact aH)]
  exact ih fun m=>hx (aT _ m)
theorem AB (hs:Aq one other x=some h) (hx:x∉dn) (hl:dn.length≤144) {w:Str}{y:Pr}
  (hK:K (Cs v1 v2 H o3 (some (.int (bN h))) (some (.str w)) (some (kv y)) o7 o8 o9 o10) (oE H (dD one other H.length (Jl ρ x L.length) (dn++[x])) (L++[.lst [kv y]]))=z) (ho:o3=some (kv x)) :
  gJ (.tup [4,5,6]) (fun ρ H K=>dG c dT.body.tl.tl.hd.inner.hd.inner ρ H K Lr) (.tup [.int (bN h),.str w,kv y]) (Cs v1 v2 H o3 o4 o5 o6 o7 o8 o9 o10) (oE H (dD one other H.length ρ dn) L) K=z:=by
 subst ho
 have hr:(eF one other h dn).length≤144:=aD zY hl
 have hsub:∀H',fH H' (.tup [.ref H.length,.ref (H.length+1)]) (.int (bN h))=some (.ref (H.length+bN h)):=fun H'=>by cases h <;> rfl
 refine cX (hsub _) ?_
 refine dJ (Es oF) ?_
 refine HR (v:=(.ref (H.length+(L.length+2)),oE H (dD one other H.length (Jl ρ x L.length) (dn++[x])) (L++[.lst []]))) ?_ ?_
 ·show kJ (oE H (dD one other H.length ρ dn) L++[.lst []]) (.ref (H.length+bN h)) (kv x) (.ref (oE H (dD one other H.length ρ dn) L).length)=_
  refine rl Mx (rl Fj ?_)
  refine (zH oF (by refine rl (aA ..) ?_;exact L1 hr) lK (LO fun m=>hx (gC.mp m).1)).trans ?_
  exact rl LM (rl (EW hs hx ..) rfl)
 have hg:(oE H (dD one other H.length (Jl ρ x L.length) (dn++[x])) (L++[.lst []]))[H.length+(L.length+2)]? = some (.lst []):=zX.trans kA
 refine dJ (eR hg) ?_
 refine eH ((fO hg (by decide)).trans (aQ some (aQ (Prod.mk _) (Fi.trans (aQ _ tI))))) ?_
 exact hK
theorem EY (hs:Aq one other x=some h) (hl:dn.length≤144) {w:Str}{y:Pr}{ys:List Pr}{J:Hp}{m:Nat}(hm:m=L.length) (hy:ys.length≤10)
  (hK:K (Cs v1 v2 H o3 (some (.int (bN h))) (some (.str w)) (some (kv y)) o7 o8 o9 o10) (oE H (dD one other H.length (Jl ρ x m) (dn++[x])) (L++.lst ((ys++[y]).map kv)::(J++[.lst []])))=z) (ho:o3=some (kv x)) :
  gJ (.tup [4,5,6]) (fun ρ H K=>dG c dT.body.tl.tl.hd.inner.hd.inner ρ H K Lr) (.tup [.int (bN h),.str w,kv y]) (Cs v1 v2 H o3 o4 o5 o6 o7 o8 o9 o10) (oE H (dD one other H.length (Jl ρ x m) (dn++[x])) (L++.lst (ys.map kv)::J)) K=z:=by
 subst ho
 subst hm
 have hr:(eF one other h (dn++[x])).length≤145:=aD zY (by refine rl aE ?_;show _+1≤_;exact L1 (aW hl (aN _)))
 have hsub:∀H',fH H' (.tup [.ref H.length,.ref (H.length+1)]) (.int (bN h))=some (.ref (H.length+bN h)):=fun H'=>by cases h <;> rfl
 refine cX (hsub _) ?_
 refine dJ (Es oF) ?_
 have hx:x∈eF one other h (dn++[x]):=gC.mpr ⟨aY.mpr (.inr aH),hs⟩
 refine HR (v:=(.ref (H.length+(L.length+2)),oE H (dD one other H.length (Jl ρ x L.length) (dn++[x])) (L++(.lst (ys.map kv)::J++[.lst []])))) (Eq.trans (by exact rl Fj (rl (bC ..) rfl)) (zG oF (by refine rl (aA ..) ?_;exact L1 hr) lK ((nG (f:=fun y=>V.ref (H.length+(Jl ρ x L.length y+2))) hx).trans (by unfold Jl;exact rl (if_pos rfl) rfl)))) ?_
 have hg:(oE H (dD one other H.length (Jl ρ x L.length) (dn++[x])) (L++(.lst (ys.map kv)::J++[.lst []])))[H.length+(L.length+2)]? = some (.lst (ys.map kv)):=zX.trans wR
 refine dJ (eR hg) ?_
 refine eH ((fO hg (by refine rl (aA ..) ?_;exact L1 hy)).trans (aQ some (aQ (Prod.mk _) (Fi.trans (aQ _ Ps))))) ?_
 rw [aM] at hK
 exact hK
variable (f:GF P) (g1:dA one) (g2:dA other) (p1:dH H (one.map dB.v) v1) (p2:dH H (other.map dB.v) v2)
include f g1 g2 p1 p2
theorem EZ (hF:∀n args H,c.F n args H=F P fuel (k+6) n args H) (hx:Reach one other x) (hn:x∉dn) (hl:dn.length≤144) (hi:LN one other dn ρ L)
  (hK:∀ρ' L' o4 o5 o6,LN one other (dn++[x]) ρ' L'→K (Cs v1 v2 H (some (kv x)) o4 o5 o6 o7 o8 o9 o10) (oE H (dD one other H.length ρ' (dn++[x])) L')=z) :
  gJ (.slot 3) (fun ρ H K=>dG c dT.body.tl.tl.hd.inner ρ H K Lr) (kv x) (Cs v1 v2 H o3 o4 o5 o6 o7 o8 o9 o10) (oE H (dD one other H.length ρ dn) L) K=z:=by
 have hg:=pK g1 g2 hx
 have gp:=g1.stops _ (eQ hg.1.1 hg.1.2)
 have gq:=g2.stops _ (eQ hg.2.1 hg.2.2)
 refine cY ((hF _ _ _).trans (vG f (k:=k+2) (a:=x.1) (b:=x.2) (dW gp) (dW gq) (p1.app.at hg.1.1 hg.1.2 g1.hi) (p2.app.at hg.2.1 hg.2.2 g2.hi))) ?_
 cases hs:Aq one other x with
 |none=>
  have e:dZ (atS one x.1) (atS other x.2)=[]:=by unfold dZ;exact rl (show eD _ _=none from hs) rfl
  refine rl e ?_
  have hk:=hK ρ L o4 o5 o6 fun y hy hs'=>by
   rcases aY.mp hy with q | q
   ·exact hi y q hs'
   ·rw [aG.mp q,hs] at hs';exact fT hs'
  rw [EV hs] at hk
  exact hk
 |some h=>
  refine wU (EX gp gq hs) fun w ws ew=>?_
  have h6:(w::ws).length≤6:=by
   refine rr ew ?_
   unfold dZ
   refine rl (show eD _ _=some h from hs) ?_
   cases h
   ·exact (dW gp).2.1
   ·exact (dW gq).2.1
  have eh:lJ (atS one x.1) (atS other x.2)=(bN h:Int):=by unfold lJ;refine rl (show eD _ _=some h from hs) ?_;cases h <;> rfl
  have enx:AM one other x=(w::ws).map (vO (atS one x.1) (atS other x.2)):=by unfold AM;exact rl ew rfl
  refine rl ew (rl eh ?_)
  refine dJ rfl ?_
  refine AB (ρ:=ρ) hs hn hl ?_ rfl
  refine Xe (a:=yT (atS one x.1) (atS other x.2) (bN h)) (fun (_:List Str×Hp) o4 o5 o6=>Cs v1 v2 H (some (kv x)) o4 o5 o6 o7 o8 o9 o10) (fun t _ _ _=>oE H (dD one other H.length (Jl ρ x L.length) (dn++[x])) (L++.lst ((t.1.map (vO (atS one x.1) (atS other x.2))).map kv)::t.2)) (fun r t _ _ _=>t.1++r=w::ws) (fun _ _ _ _=>by rfl) ?_ ?_ ws ([w],[]) _ _ _ rfl
  ·intro u r t o4 o5 o6 K' hd hK'
   have hk:=hK' (t.1++[u],t.2++[.lst []]) (some (.int (bN h))) (some (.str u)) (some (kv (vO (atS one x.1) (atS other x.2) u))) ((bC _ _ _).trans hd)
   rw [aM (f:=vO (atS one x.1) (atS other x.2))] at hk
   refine EY hs hl rfl (by have:=aQ List.length hd;rw [aE] at this;refine rl (aA ..) ?_;exact QC this h6) hk rfl
  ·intro t o4 o5 o6 hd
   rw [bV] at hd
   refine hK _ _ o4 o5 o6 fun y hy hs'=>?_
   rcases aY.mp hy with q | q
   ·have hne:y≠x:=fun e=>hn (e ▸ q)
    have h1:=hi y q hs'
    unfold Jl
    refine rl (if_neg hne) (rl (bH (aS.mp h1).1) ?_)
    exact h1
   ·refine rl (aG.mp q) ?_
    unfold Jl
    refine rl (if_pos rfl) (rl enx (rr hd ?_))
    exact wR
end
end
section
theorem HS {α β:Type}(q:α→Bool) (f:α→β):∀xs:List α,xs.filterMap (fun x=>br (q x) (some (f x)) none)=(xs.filter q).map f
 |[]=>rfl
 |x::xs=>by
  refine rl List.filterMap_cons (rl List.filter_cons (rl (HS q f xs) ?_))
  cases q x <;> rfl
theorem LP {p q:dB}(hp:eP p) (hq:eP q):(dZ p q).length≤6:=by
 unfold dZ
 cases eD p q with
 |none=>exact aX _
 |some b=>cases b;exact hp.2.1;exact hq.2.1
section
variable {P:Nat→Option Fn}{fuel k:Nat}{H:Hp}{one other:List dB}{v1 v2:V}{S:List Pr}{ρ:Pr→Nat}{L J:Hp}{x:Pr}{h:Bool}{c:Ctx}{z:Option (V×Bool×Hp)}{K:Loc→Hp→Option (V×Bool×Hp)}{Lr:V→Hp→Option (V×Bool×Hp)}{o3 o4 o5 o6 o7 o8 o9 o10:Option V}
noncomputable def AO (one other:List dB) (h:Bool) (S dn:List Pr):V:=.dct true (dn.map kv) (dn.map fun x=>.lst ((Cr one other h S x).map kv))
theorem FA (hi:LN one other S ρ L) {M:Hp}(hM:L <+: M) {dn:List Pr}(hd:dn.length≤144) (hx:x∈eF one other h S) (hn:x∉dn) (h6:(AM one other x).length≤6)
  (hK:K (Cs v1 v2 H (some (kv x)) o4 o5 o6 o7 o8 o9 o10) (oE H (dD one other H.length ρ S) (M++[AO one other h S (dn++[x])]))=z) (h9:o9=some (.ref (H.length+bN h))) (h10:o10=some (.ref (H.length+(M.length+2)))) :
  gJ (.slot 3) (fun ρ H K=>dG c dT.body.tl.tl.tl.tl.hd.inner.tl.tl.hd.inner ρ H K Lr) (kv x) (Cs v1 v2 H o3 o4 o5 o6 o7 o8 o9 o10) (oE H (dD one other H.length ρ S) (M++[AO one other h S dn])) K=z:=by
 subst h9
 subst h10
 have hm:=gC.mp hx
 have hl:=hi x hm.1 (by refine rl hm.2 ?_;rfl)
 have hl':(M++[AO one other h S dn])[ρ x]? = some (.lst ((AM one other x).map kv)):=by
  obtain ⟨T,rfl⟩:=hM
  have:=(aS.mp hl).1
  refine rl (bC ..) (rl (bH this) ?_)
  exact hl
 refine cX (pL (x:=x) (keys:=eF one other h S) oF (nG (f:=fun y=>V.ref (H.length+(ρ y+2))) hx)) ?_
 refine jE (dH.ref (xs:=(AM one other x).map kv) _ (zX.trans hl')).iter ?_
 refine zU (a:=kv) (o:=fun y=>br (decide (y∈eF one other h S)) (some (kv y)) none) same_self (AM one other x) [] (fun y _ K' hK'=>?_) (by show 0+_≤_;exact L1 (aW (aN _) h6)) ?_
 ·refine dY (Yu oF lK) ?_
  by_cases q:y∈eF one other h S
  ·rw [aO q] at hK'
   exact eY (b:=decide (kv y∈(eF one other h S).map kv)) (aO (iD.mpr q)) hK'
  ·rw [aU q] at hK'
   exact dR (b:=decide (kv y∈(eF one other h S).map kv)) (aU fun m=>q (iD.mp m)) hK'
 refine rl (List.nil_append ..) (rl (HS ..) ?_)
 refine lX ((set_dict (zX.trans kA) hn (by exact L1 hd)).trans (aQ some (Fi.trans (aQ _ tI)))) ?_
 unfold AO at hK
 rw [aM (f:=fun x=>V.lst ((Cr one other h S x).map kv))] at hK
 exact hK
variable (gm:GM P) (g1:dA one) (g2:dA other) (hS:∀x,x∈S↔Reach one other x) (hnd:S.Nodup) (hl:S.length≤144)
include gm g1 g2 hS hnd hl
theorem Pt (hF:∀n args H,c.F n args H=F P fuel (k+6) n args H) (hfu:146≤fuel) (hi:LN one other S ρ L) {vs:List V}{kI:Int}(hk:1-kI=bN h) (hv:vs.length≤10)
  (hK:∀o3 o8 o9 o10,K (Cs v1 v2 H o3 o4 o5 o6 (some (.ref (H.length+(L.length+2)))) o8 o9 o10) (oE H (dD one other H.length ρ S) (L++.lst (vs++[Jj (Cr one other h S) (eF one other h S)])::(J++[AO one other h S (eF one other h S)])))=z) :
  gJ (.slot 8) (fun ρ H K=>dG c dT.body.tl.tl.tl.tl.hd.inner ρ H K Lr) (.int kI) (Cs v1 v2 H o3 o4 o5 o6 (some (.ref (H.length+(L.length+2)))) o8 o9 o10) (oE H (dD one other H.length ρ S) (L++.lst vs::J)) K=z:=by
 have h6:∀x∈eF one other h S,(AM one other x).length≤6:=fun x hx=>by
  have hg:=pK g1 g2 ((hS x).mp (gC.mp hx).1)
  unfold AM
  refine rl (aA ..) ?_
  exact LP (dW (g1.stops _ (eQ hg.1.1 hg.1.2))) (dW (g2.stops _ (eQ hg.2.1 hg.2.2)))
 have hrl:(eF one other h S).length≤144:=aD zY hl
 have hrn:(eF one other h S).Nodup:=hnd.sublist List.filter_sublist
 have hsub:∀H',fH H' (.tup [.ref H.length,.ref (H.length+1)]) (.int (1-kI))=some (.ref (H.length+bN h)):=fun H'=>by refine rl hk ?_;cases h <;> rfl
 obtain ⟨M,eM⟩:∃M,M=L++.lst vs::J:=⟨_,rfl⟩
 refine cX (hsub _) ?_
 have loop:dG c dT.body.tl.tl.tl.tl.hd.inner.tl.tl (Cs v1 v2 H o3 o4 o5 o6 (some (.ref (H.length+(L.length+2)))) (some (.int kI)) (some (.ref (H.length+bN h))) (some (.ref (H.length+(M.length+2))))) (oE H (dD one other H.length ρ S) (M++[AO one other h S []])) K Lr=z:=by
  refine jE (Mw (oF (h:=h))) ?_
  refine Ro (G:=some (H.length+bN h)) (H0:=oE H (dD one other H.length ρ S) (M++[AO one other h S []])) (a:=kv) (fun (_:List Pr) o3=>Cs v1 v2 H o3 o4 o5 o6 (some (.ref (H.length+(L.length+2)))) (some (.int kI)) (some (.ref (H.length+bN h))) (some (.ref (H.length+(M.length+2))))) (fun dn _=>oE H (dD one other H.length ρ S) (M++[AO one other h S dn])) (fun xs dn _=>dn++xs=eF one other h S) (fun _ _=>aO (oF.trans oF.symm)) ?_ ?_ _ [] o3 rfl
  ·intro x xs dn o3 K' hd hK'
   have hx:x∈eF one other h S:=by refine rr hd ?_;exact aY.mpr (.inr aH)
   have hn:x∉dn:=fun m=>by
    rw [←hd] at hrn
    exact (cT.mp hrn).2.2 x m x aH rfl
   have hdl:=aQ List.length hd
   rw [aE] at hdl
   exact FA hi (by refine rl eM ?_;exact List.prefix_append _ _) (by exact aD (aD (bW _ _) (bM hdl)) hrl) hx hn (h6 x hx) (hK' _ _ ((bC _ _ _).trans hd)) rfl rfl
  ·intro dn o3 hd
   rw [bV] at hd
   refine rl hd ?_
   have hf:∀x:V,(oE H (dD one other H.length ρ S) (M++[x]))[H.length+(L.length+2)]? = some (.lst vs):=fun x=>by
    refine zX.trans ?_
    refine rl eM (rl (bC ..) ?_)
    exact wR
   refine dJ (eR (hf _)) ?_
   refine cY ((hF _ _ _).trans (Fh gm (zX.trans kA) hrl (fun x hx=>aD (List.length_filter_le _ _) (h6 x hx)) (fun x _ y hy=>bD (List.mem_filter.mp hy).2) hrn hfu)) ?_
   refine eH ((fO (hf _) (by exact L1 hv)).trans (aQ some (aQ (Prod.mk _) Fi))) ?_
   refine rl eM (rl (bC ..) ?_)
   refine rl (show (L++((V.lst vs::J)++[AO one other h S (eF one other h S)])).set L.length (.lst (vs++[Jj (Cr one other h S) (eF one other h S)]))=L++.lst (vs++[Jj (Cr one other h S) (eF one other h S)])::(J++[AO one other h S (eF one other h S)]) from Ps) ?_
   exact hK _ _ _ _
 refine rr eM ?_
 refine Eq.trans ?_ loop
 show dG c dT.body.tl.tl.tl.tl.hd.inner.tl.tl (Cs v1 v2 H o3 o4 o5 o6 (some (.ref (H.length+(L.length+2)))) (some (.int kI)) (some (.ref (H.length+bN h))) (some (.ref (oE H (dD one other H.length ρ S) M).length))) (oE H (dD one other H.length ρ S) M++[.dct true [] []]) K Lr=_
 refine rl Mx (rl Fj ?_)
 rfl
end
end
section
theorem FB {c:Ctx}{i:Nat}{rest:S}{ρ:Loc}{H:Hp}{K:Loc→Hp→Option (V×Bool×Hp)}{L:V→Hp→Option (V×Bool×Hp)}{z:Option (V×Bool×Hp)}(hi:i<ρ.length) (h:dG c rest (ρ.set i (some (.ref H.length))) (H++[.lst []]) K L=z):dG c (.seq (.assign (.slot i) (.box (.disp .nil))) rest) ρ H K L=z:=cW (o:=qR (.slot i) (.ref H.length) ρ) (hU hi rfl) h
noncomputable def qY (one other:List dB) (S:List Pr):V:=.tup [Jj (Cr one other true S) (eF one other true S),Jj (Cr one other false S) (eF one other false S)]
section
variable {P:Nat→Option Fn}(g:Gen P) (gx:GX P) (f:GF P) (gm:GM P) {fuel k:Nat}{H:Hp}{one other:List dB}{v1 v2:V}
include g gx f gm
theorem Cu (hfu:146≤fuel) (g1:dA one) (g2:dA other) (p1:dH H (one.map dB.v) v1) (p2:dH H (other.map dB.v) v2) (hb:pJ one other=true):F P fuel (k+7) 72 [v1,v2] H=some (qY one other (mY one other 144).1,false,H):=by
 refine fU (Eg g1 g2) fun S hS ri hk=>?_
 refine rr hS ?_
 have hl:=ri.len144 g1 g2
 refine eV gm.most_letters rfl fun c hF _=>?_
 refine cY ((hF _ _ _).trans (mZ g gx f (by exact N2 hfu) g1 g2 p1 p2)) ?_
 refine rl hb ?_
 have tail:∀(ρ:Pr→Nat) (L:Hp) (o3 o4 o5 o6:Option V),LN one other S.1 ρ L→dG c dT.body.tl.tl.tl.tl (Cs v1 v2 H o3 o4 o5 o6 (some (.ref (H.length+(L.length+2)))) none none none) (oE H (dD one other H.length ρ S.1) (L++[.lst []])) (fun _ H1=>finish H H1 .none) (fun v H1=>finish H H1 v)=some (qY one other S.1,false,H):=by
  intro ρ L o3 o4 o5 o6 hi
  refine dJ rfl ?_
  refine Pt (kI:=0) (h:=true) (J:=[]) (vs:=[]) gm g1 g2 hk ri.nd hl hF hfu hi rfl (by decide) fun o3 o8 o9 o10=>?_
  refine dJ rfl ?_
  refine Pt (kI:=1) (h:=false) gm g1 g2 hk ri.nd hl hF hfu hi rfl (by show 1≤10;decide) fun o3 o8 o9 o10=>?_
  refine dJ rfl ?_
  have hf:∀(D:Bool→V) (a b:V) (J:Hp),(oE H D (L++.lst [a,b]::J))[H.length+(L.length+2)]? = some (.lst [a,b]):=fun D a b J=>zX.trans wR
  refine cX ((dH.ref _ (hf _ _ _ _)).sub (i:=0) rfl (by show 2≤_;decide)) ?_
  refine cX ((dH.ref _ (hf _ _ _ _)).sub (i:=1) rfl (by show 2≤_;decide)) ?_
  refine kM (v:=qY one other S.1) ?_
  show (_&&(_&&true))=true
  refine rl (Zz ..) (rl (Zz ..) ?_);rfl
 have l2:∀ρ0:Pr→Nat,dG c dT.body.tl.tl (Cs v1 v2 H none none none none none none none none) (oE H (dD one other H.length ρ0 []) []) (fun _ H1=>finish H H1 .none) (fun v H1=>finish H H1 v)=some (qY one other S.1,false,H):=by
  intro ρ0
  refine cY ((hF _ _ _).trans (yV f (k:=k+1) g1 g2 p1.app p2.app (by exact N2 hfu) hS)) ?_
  refine OM (G:=none) (H0:=oE H (dD one other H.length ρ0 []) []) (a:=kv) (fun (_:List Pr×(Pr→Nat)×Hp) o3 o4 o5 o6=>Cs v1 v2 H o3 o4 o5 o6 none none none none) (fun t _ _ _ _=>oE H (dD one other H.length t.2.1 t.1) t.2.2) (fun xs t _ _ _ _=>t.1++xs=S.1∧LN one other t.1 t.2.1 t.2.2) (fun _ _ _ _ _=>by rfl) ?_ ?_ S.1 ([],ρ0,[]) none none none none ⟨rfl,fun x hx=>nomatch hx⟩
  ·intro x xs t o3 o4 o5 o6 K' hi hK'
   have hx:x∈S.1:=by refine rr hi.1 ?_;exact aY.mpr (.inr aH)
   have hn:x∉t.1:=fun m=>by
    have hrn:=ri.nd
    rw [←hi.1] at hrn
    exact (cT.mp hrn).2.2 x m x aH rfl
   have hdl:=aQ List.length hi.1
   rw [aE] at hdl
   exact EZ f g1 g2 p1 p2 hF ((hk x).mp hx) hn (by exact aD (aD (bW _ _) (bM hdl)) hl) hi.2 fun ρ' L' o4 o5 o6 h'=>hK' (t.1++[x],ρ',L') _ _ _ _ ⟨(bC _ _ _).trans hi.1,h'⟩
  ·rintro ⟨t1,ρ,L⟩ o3 o4 o5 o6 ⟨h1,h2⟩
   have e:t1=S.1:=(bV _).symm.trans h1
   change LN one other t1 ρ L at h2
   rw [e] at h2
   have eL:(Cs v1 v2 H o3 o4 o5 o6 none none none none).set 7 (some (.ref (oE H (dD one other H.length ρ t1) L).length))=Cs v1 v2 H o3 o4 o5 o6 (some (.ref (H.length+(L.length+2)))) none none none:=by refine rl Mx ?_;rfl
   refine FB (rest:=dT.body.tl.tl.tl.tl) (i:=7) (ρ:=Cs v1 v2 H o3 o4 o5 o6 none none none none) (H:=oE H (dD one other H.length ρ t1) L) (by show 7<11;decide) ?_
   refine rl eL (rl Fj (rl e ?_))
   exact tail ρ L o3 o4 o5 o6 h2
 refine Eq.trans ?_ (l2 fun _=>0)
 show dG c dT.body.tl.tl [some v1,some v2,some (.tup [.ref H.length,.ref (H++[V.dct true [] []]).length]),none,none,none,none,none,none,none,none] (H++[V.dct true [] []]++[V.dct true [] []]) _ _=_
 refine rl aE (rl (bC ..) ?_)
 rfl
end
end
section
theorem Tk {ps qs ps' qs':List dB}{E E':Int→Int→Prop}(h:tK ps qs E) (h':tK ps' qs' E') (g1:dA ps) (g2:dA ps') (g3:dA qs) (g4:dA qs'):qY ps ps' (mY ps ps' 144).1=qY qs qs' (mY qs qs' 144).1:=by
 refine fU (Eg g1 g2) fun S hS _ hk=>?_
 refine fU (Eg g3 g4) fun T hT _ hk'=>?_
 rw [←hS,←hT]
 unfold qY
 rw [Pp h h' hk hk' (Fg (g:=Cr ps ps' true S.1)) (Fg (g:=Cr qs qs' true T.1)),Pp h h' hk hk' (Fg (g:=Cr ps ps' false S.1)) (Fg (g:=Cr qs qs' false T.1))]
theorem HT {g:Pr→List Pr}{ks:List Pr}:∃d,(∀H k,gO H (k+1) (Jj g ks)=some d)∧d.canLay0=true∧d.depth≤1:=by
 unfold Jj
 split
 ·exact ⟨.int _,fun _ _=>rfl,rfl,cD rfl⟩
 ·exact ⟨.none,fun _ _=>rfl,rfl,cD rfl⟩
theorem FC {H:Hp}{one other:List dB}{S:List Pr}:fV H .Eq (qY one other S) (qY one other S)=some true:=by
 refine fU (HT (g:=Cr one other true S) (ks:=eF one other true S)) fun d h1 h2 h3=>?_
 refine fU (HT (g:=Cr one other false S) (ks:=eF one other false S)) fun e k1 k2 k3=>?_
 have hd:gO H 12 (qY one other S)=some (.tuple [d,e]):=by
  show (fF (gO H 11) [_,_]).map PyData.tuple=_
  rw [show fF (gO H 11) [Jj (Cr one other true S) (eF one other true S),Jj (Cr one other false S) (eF one other false S)]=some [d,e] from cW (h1 H 10) (by rw [show fF (gO H 11) [Jj (Cr one other false S) (eF one other false S)]=some [e] from cW (k1 H 10) rfl];rfl)]
  rfl
 refine Ic hd hd (aF.mpr ⟨?_,aO ?_⟩)
 ·show (d.canLay0&&(e.canLay0&&true))=true
  refine rl h2 (rl k2 ?_);rfl
 ·show max d.depth (max e.depth 0)+1≤64
  omega
theorem FD {H:Hp}{b:Bool}:fV H .NotEq (.lst [.bool b,.bool b,.bool b,.bool b]) (.lst [.bool b,.bool b,.bool b,.bool b])=some false:=Ei (a:=.lst [.bool b,.bool b,.bool b,.bool b]) (b:=.lst [.bool b,.bool b,.bool b,.bool b]) (d:=.list [.bool b,.bool b,.bool b,.bool b]) rfl rfl (by cases b <;> rfl)
theorem FE {H:Hp}{ps:List dB}(h:dA ps):fV H .NotEq (.lst (ps.map dB.v)) (.lst (ps.map dB.v))=some false:=by
 have hd:gO H 12 (.lst (ps.map dB.v))=some (.list (ps.map dB.d)):=by show (fF (gO H 11) (ps.map dB.v)).map PyData.list=_;refine rl (Ci ..) ?_;rfl
 have:=Yd h
 exact Ei hd hd (aF.mpr ⟨this.1,aO (aD this.2 (by decide))⟩)
section
variable {P:Nat→Option Fn}(g:Gen P) (g8:G8 P) (f:GF P) (fn:GN P) (ft:GT P) (gk:GK P) (gs:GS P) (ga:GA P) (gm:GM P) (gx:GX P) {k fuel:Nat}(hfu:23100≤fuel)
include fn in
theorem Pu {H:Hp}{b:Bool}:F P fuel (k+1) 27 [.bool b,.bool b] H=some (.bool true,false,H):=by
 refine eV fn.law_is rfl fun c _ _=>?_
 cases b <;> exact gE (b:=true)
variable {cx:Ctx}(hF:∀n args H,cx.F n args H=F P fuel (k+7) n args H) {one oth:List dB}(h1:dA one) (h2:dA oth) {o0 o1 o3 o5 o8 o9:Option V}{R:List Row}(hR:gF R)
noncomputable def PF (o0 o1:Option V) (one:List dB) (o3:Option V) (oth:List dB) (o5:Option V) (R:List Row) (o8 o9:Option V):Loc:=[o0,o1,some (.lst (one.map dB.v)),o3,some (.lst (oth.map dB.v)),o5,some (.lst ((iS one).map dB.v)),some (.lst (R.map Row.v)),o8,o9]
include g f gx gs gm hfu hF h1 h2
theorem FF:dG cx vE.body.tl.tl.tl.tl.tl.tl.tl.tl.tl.tl.tl.tl (PF o0 o1 one o3 oth o5 R o8 o9) [] (fun _ H1=>finish [] H1 .none) (fun v H1=>finish [] H1 v)=some (.bool true,false,[]):=by
 have a1:=nD h1
 have a2:=nD h2
 have s1:=iT h1
 have s2:=iT h2
 have f1:=mZ g gx f (fuel:=fuel) (k:=k+1) (H:=[]) (by exact N2 hfu) h1 h2 .lst .lst
 have f2:=mZ g gx f (fuel:=fuel) (k:=k+1) (H:=[]) (by exact N2 hfu) s1 h2 .lst .lst
 have f3:=mZ g gx f (fuel:=fuel) (k:=k+1) (H:=[]) (by exact N2 hfu) h1 s2 .lst .lst
 have f4:=mZ g gx f (fuel:=fuel) (k:=k+1) (H:=[]) (by exact N2 hfu) s2 s1 .lst .lst
 rw [←tM a1 (tK.refl h2)] at f2
 rw [←tM (tK.refl h1) a2] at f3
 rw [Tc,←tM a1 a2] at f4
 have hm:=fun (hb:pJ one oth=true)=>Cu g gx f gm (fuel:=fuel) (k:=k) (H:=[]) (by exact N2 hfu) h1 h2 .lst .lst hb
 have hm2:=fun (hb:pJ one oth=true)=>Cu g gx f gm (fuel:=fuel) (k:=k) (H:=[]) (by exact N2 hfu) s1 s2 .lst .lst (by refine rr (tM a1 a2) ?_;exact hb)
 rw [←Tk a1 a2 h1 h2 s1 s2] at hm2
 have hsm:=rR (fuel:=fuel) (k:=k+2) (H:=[]) g gx f gs (by exact N2 hfu) h2 .lst
 generalize pJ one oth=b at f1 f2 f3 f4 hm hm2
 refine cY ((hF _ _ _).trans f1) ?_
 refine cY ((hF _ _ _).trans f2) ?_
 refine cY ((hF _ _ _).trans hsm) ?_
 refine cY ((hF _ _ _).trans f3) ?_
 refine cY ((hF _ _ _).trans hsm) ?_
 refine cY ((hF _ _ _).trans f4) ?_
 show dG cx vE.body.tl.tl.tl.tl.tl.tl.tl.tl.tl.tl.tl.tl.tl (PF o0 o1 one o3 oth o5 R o8 (some (.lst [.bool b,.bool b,.bool b,.bool b]))) [] _ _=_
 have hsub:fH [] (.lst [.bool b,.bool b,.bool b,.bool b]) (.int 0)=some (.bool b):=rfl
 have hne:=FD (H:=[]) (b:=b)
 obtain ⟨T,eT⟩:∃T:V,T=.lst [.bool b,.bool b,.bool b,.bool b]:=⟨_,rfl⟩
 have hne:fV [] .NotEq T (.lst [.bool b,.bool b,.bool b,.bool b])=some false:=by refine rl eT ?_;exact hne
 rw [←eT] at hsub ⊢
 refine cX hsub ?_
 refine dY hne ?_
 refine cX hsub ?_
 cases b with
 |false=>exact (rfl:finish [] [] (V.bool true)=some (V.bool true,false,[]))
 |true=>
  refine cY ((hF _ _ _).trans (hm rfl)) ?_
  refine cY ((hF _ _ _).trans hsm) ?_
  refine cY ((hF _ _ _).trans (hm2 rfl)) ?_
  refine dY FC ?_
  exact eN (v:=.bool true) rfl
end
end
section
section
variable {P:Nat→Option Fn}(g:Gen P) (g8:G8 P) (f:GF P) (fn:GN P) (ft:GT P) (gk:GK P) (gs:GS P) (ga:GA P) (gm:GM P) (gx:GX P) {k fuel:Nat}(hfu:23100≤fuel)
variable {cx:Ctx}(hF:∀n args H,cx.F n args H=F P fuel (k+7) n args H) {one oth:List dB}(h1:dA one) (h2:dA oth) {o0 o1 o3 o5 o8 o9:Option V}{R:List Row}(hR:gF R)
include g g8 f gk gs gm gx hfu hF h1 h2
theorem LQ:dG cx vE.body.tl.tl.tl.tl.tl.tl.tl.tl.tl.tl.tl (PF o0 o1 one o3 oth o5 R o8 o9) [] (fun _ H1=>finish [] H1 .none) (fun v H1=>finish [] H1 v)=some (.bool true,false,[]):=by
 have s1:=iT h1
 have a1:=nD h1
 have k1:=qE g gx f g8 gk (k:=k+1) (H:=[]) s1 (nF h1) hfu
 have k2:=qE g gx f g8 gk (k:=k+1) (H:=[]) h1 (nF s1) hfu
 rw [←a1.keeps h1 s1,jP.mpr (Jb h1)] at k1
 rw [a1.keeps h1 s1,jP.mpr (Jb s1)] at k2
 refine cY ((hF _ _ _).trans (qX g gx h1)) ?_
 refine cY ((hF _ _ _).trans k1) ?_
 refine cY ((hF _ _ _).trans (qX g gx s1)) ?_
 refine cY ((hF _ _ _).trans k2) ?_
 exact FF g f gs gm gx hfu hF h1 h2
include fn hR
theorem AC:dG cx vE.body.tl.tl.tl.tl.tl.tl.tl.tl.tl (PF o0 o1 one o3 oth o5 R o8 o9) [] (fun _ H1=>finish [] H1 .none) (fun v H1=>finish [] H1 v)=some (.bool true,false,[]):=by
 have s1:=iT h1
 have a1:=nD h1
 have k1:=qE g gx f g8 gk (k:=k+1) (H:=[]) h1 hR hfu
 have k2:=qE g gx f g8 gk (k:=k+1) (H:=[]) s1 hR hfu
 have k3:=zA g gx f g8 gk (k:=k+2) (H:=[]) s1 hR hfu
 refine fU k3 fun v e _ k3=>?_
 rw [←a1.keeps h1 s1] at k2 e
 have rest:=LQ g g8 f gk gs gm gx hfu hF h1 h2 (o0:=o0) (o1:=o1) (o3:=o3) (o5:=o5) (o8:=some (.bool (pO R one))) (o9:=o9) (R:=R)
 generalize pO R one=b at k1 k2 e rest
 refine cY ((hF _ _ _).trans k1) ?_
 refine cY ((hF _ _ _).trans k2) ?_
 refine cY ((hF _ _ _).trans (Pu fn)) ?_
 refine cY ((hF _ _ _).trans k3) ?_
 have h27:cx.F 27 [.bool b,.bool (isNone v)] []=some (.bool true,false,[]):=by refine rl e ?_;exact (hF _ _ _).trans (Pu fn)
 refine cY h27 ?_
 exact rest
include ft ga
theorem Tl (ht:dA (one.map dB.turn)):dG cx vE.body.tl.tl.tl.tl.tl.tl.tl.tl (PF o0 o1 one o3 oth o5 R o8 o9) [] (fun _ H1=>finish [] H1 .none) (fun v H1=>finish [] H1 v)=some (.bool true,false,[]):=by
 have s1:=iT h1
 have st:=iT ht
 have t1:=pS g gx ft (fuel:=fuel) (k:=k+2) (H:=[]) s1 .lst
 rw [←Mi] at t1
 refine cY ((hF _ _ _).trans (Mk g gx f ga (by exact N2 hfu) h1 s1 .lst .lst (nD h1))) ?_
 refine cY ((hF _ _ _).trans t1) ?_
 refine cY ((hF _ _ _).trans (pS g gx ft h1 .lst)) ?_
 refine cY ((hF _ _ _).trans (rR g gx f gs (by exact N2 hfu) ht .lst)) ?_
 refine dY (FE st) ?_
 exact AC g g8 f fn gk gs gm gx hfu hF h1 h2 hR
variable {is:List Int}(hlen:is.length≤1048576) (hb:∀i∈is,intBits i≤1048576)
omit hR hF h1 h2
include hF hb hlen in
theorem AD {ws:List Str}(hw:iP ws) (w1:jY ws one) (w2:jY ws oth) {way:Int}:dG cx vE.body.tl.tl.tl.tl.tl [some (.lst (is.map V.int)),some (.lst (ws.map V.str)),some (.lst (one.map dB.v)),some (.int way),some (.lst (oth.map dB.v)),o5,none,none,none,none] [] (fun _ H1=>finish [] H1 .none) (fun v H1=>finish [] H1 v)=some (.bool true,false,[]):=by
 have b3:=tB hb 3
 have rest:=fun (R:List Row) (hR:gF R)=>Tl g g8 f fn ft gk gs ga gm gx hfu hF w1.good w2.good hR (Xs w1).good (o0:=some (.lst (is.map V.int))) (o1:=some (.lst (ws.map V.str))) (o3:=some (.int way)) (o5:=o5) (o8:=none) (o9:=none)
 have hp:=EI hw w1 (c:=is.getD 3 0)
 have h3:cx.F 7 [.lst (is.map V.int),.int 3] []=some (.int (is.getD 3 0),false,[]):=(hF _ _ _).trans (pY g hlen (j:=3) (by decide))
 generalize is.getD 3 0=c3 at b3 h3 hp
 refine cY ((hF _ _ _).trans (rR g gx f gs (by exact N2 hfu) w1.good .lst)) ?_
 refine cY h3 ?_
 refine cY ((hF _ _ _).trans (Fd g gx hw w1 b3)) ?_
 generalize rU one ws c3 one.length=R at hp
 refine Sh (b:=((way.fdiv 3).fmod 2 == 1)) (fun _=>?_) fun q=>?_
 ·refine dF (Ti gx (fuel:=fuel) (k:=k+6) (H:=[]) hw (c:=way.fdiv 6) hp) fun R' hR' e=>?_
  refine cY ((hF _ _ _).trans e) ?_
  exact rest R' hR'
 ·exact rest R hp
end
end
section
section
variable {P:Nat→Option Fn}(g:Gen P) (g8:G8 P) (f:GF P) (fn:GN P) (ft:GT P) (gk:GK P) (gs:GS P) (ga:GA P) (gm:GM P) (gx:GX P) {k fuel:Nat}(hfu:23100≤fuel) {is:List Int}(hlen:is.length≤1048576) (hb:∀i∈is,intBits i≤1048576)
include g g8 f fn ft gk gs ga gm gx hfu hlen hb
theorem AE:F P fuel (k+8) 14 [.lst (is.map V.int)] []=some (.bool true,false,[]):=by
 refine eV gx.law rfl fun cx hF _=>?_
 have b0:=tB hb 0
 have b1:=tB hb 1
 have b2:=tB hb 2
 refine cY ((hF _ _ _).trans (pY g hlen (j:=0) (by decide))) ?_
 refine cY ((hF _ _ _).trans (Ln g (by exact L1 b0))) ?_
 refine cY ((hF _ _ _).trans (pY g hlen (j:=1) (by decide))) ?_
 have hw:=Rw (is.getD 0 0)
 generalize wordsOf (is.getD 0 0)=ws at hw
 refine cY ((hF _ _ _).trans (Sb g (by exact L1 b1) hw)) ?_
 have w1:=JX (is.getD 1 0) hw
 generalize nZ (is.getD 1 0) ws=one at w1
 refine cY ((hF _ _ _).trans (pY g hlen (j:=2) (by decide))) ?_
 generalize is.getD 2 0=way at b2
 refine cY ((hF _ _ _).trans (pS g gx ft w1.good .lst)) ?_
 have w2:=Xs w1
 have rest:=fun (oth:List dB) (h:jY ws oth) o5=>AD g g8 f fn ft gk gs ga gm gx hfu hF hlen hb hw w1 h (way:=way) (o5:=o5)
 generalize one.map dB.turn=oth at w2
 have e3:=dE way (d:=3) (by decide)
 refine kG (n:=way.fmod 3) e3.1 (by exact L2 (Z5 e3.2)) ?_
 refine Ro (G:=none) (H0:=[]) (a:=fun (t:Nat)=>V.int (t:Int)) (fun (ps:List dB) o5=>[some (.lst (is.map V.int)),some (.lst (ws.map V.str)),some (.lst (one.map dB.v)),some (.int way),some (.lst (ps.map dB.v)),o5,none,none,none,none]) (fun _ _=>[]) (fun r ps _=>jY ws ps∧∀t∈r,t<3) (fun _ _=>rfl) ?_ ?_ _ oth none ⟨w2,fun t ht=>by have:=List.mem_range.mp ht;exact N1 (aD (cI this) (A6 (Z5 e3.2)))⟩
 ·intro t r ps o5 K' hi hK'
  have ht:=hi.2 t aH
  refine cY ((hF _ _ _).trans (lG g (by exact L1 b2) (Int.natCast_nonneg t) (by exact Z1 (Bc (N4 ht))))) ?_
  refine qZ (Sq fn (k:=k+6) (fuel:=fuel) (H:=[]) (c:=Dy way t) hw hi.1) fun ps' fr hp' e=>?_
  refine cY ((hF _ _ _).trans e) ?_
  exact hK' ps' _ ⟨hp',fun y hy=>hi.2 y (aT _ hy)⟩
 ·intro ps o5 hi
  exact rest ps hi.1 o5
end
theorem PG:Gen Ob:=⟨rfl,rfl,rfl,rfl,rfl,rfl,rfl,rfl⟩
theorem clean14:∀is:List Int,is.length≤1048576→(∀i∈is,intBits i≤1048576)→∃fr,F Ob 30000 100 14 [.lst (is.map V.int)] []=some (.bool true,fr,[]):=
 fun is hl hb=>⟨false,AE PG QQ QR QS QT QU QV QW QX QY (k:=92) (by decide) hl hb⟩
end
section
open PySem PySem.W PyProof.Rows
noncomputable def RJ (p:Pos):Bool:=([(67,15),(68,16),(79,14),(80,12),(88,12),(109,12),(117,12),(118,14),(131,12),(144,13),(144,17),(147,43),(148,12),(151,15),(180,15),(181,11),(196,13),(197,9),(208,41),(222,12),(223,14),(238,13),(243,14),(261,12),(262,14),(284,16),(286,19),(302,21),(318,16),(319,18),(330,21),(335,25),(341,21),(374,16)]:List (Nat×Nat)).contains (p.line,p.col)
noncomputable def RL (p:Pos):Bool:=([(216,12),(131,12),(144,13),(144,17),(151,15)]:List (Nat×Nat)).contains (p.line,p.col)
noncomputable def LR:List Nat:=[0,1,2,3,4,15,16,17,5,6,34,35,18,19,20,21,22,71,72,40,41,65,66,67,68,69,70,63,64,30,7,8,9,10,11,50,51,53,26,27,14]
noncomputable def PH:Glob where
 fn:=(HF q14 LR).filter fun p=>(Ob p.2).isSome
 gc:=[("LETTERS",.str "abcdefghijklmnopqrstuvwxyz"),("MOST_SIGNS",.int 8),("MOST_STOPS",.int 12),("MOST_WAYS",.int 6),("MOST_ROWS",.int 240)]
 bn:=["len","isinstance","all","tuple","list","sorted","set","int","min","max","range","enumerate","dict","bool","str"]
 bx:=RJ
 rx:=RL
set_option maxRecDepth 100000 in
theorem names14:namesOk q14 (looseW q14 []) PH.bn=true:=by decide +kernel
set_option maxRecDepth 100000 in
theorem consts14:sP q14 PH.gc:=by unfold sP;kernel_rfl
set_option maxRecDepth 100000 in
theorem look14:PH.fn.lookup (Str.ofString "law")=some 14:=by decide +kernel
set_option maxRecDepth 100000 in
theorem LS:(recsOf q14).map (fun d=>QP PH 200 d.params d.scope d.body)=LR.map Ob:=by kernel_rfl
end
end Mine
namespace Mine
open PySem PySem.W PyProof.Rows
theorem clean_of:Xb q14 LR PH 200 Ob where
 fn:=rfl
 defs:=LS
end Mine
open PySem PySem.W PyProof.Rows in
set_option Elab.async false in
set_option maxRecDepth 100000 in
set_option maxHeartbeats 8000000 in
theorem PySem.Challenge.cw_uf010020_14_holds : PySem.Challenge.rw_uf010020_14.Holds := by
 w_on
 refine holds_law Mine.said14 fun said=>?_
 refine holds_open (q:=Mine.q14) (loose:=[]) (Xt:=fun s=>xlAt Mine.q14 [] s&&recOk (RowW.records (OpenRow.toRowW PySem.Challenge.rw_uf010020_14.row)) s) (XP:=XL Mine.q14 []) (Yf:=Hook.obs Hook.none) (Ya:=Hook.val Hook.none) (YP:=Hook.says Hook.none) (N:=4000) ?hl (Hook.of Hook.none) (Hook.keeps Hook.none) (fun s e=>xl_of s (Bool.and_eq_true_iff.mp e).1) XL.keeps (by rfl) (by rfl) (by rfl) (fun s e=>recFacts_of (Bool.and_eq_true_iff.mp e).2) (by rfl) (by first | assumption | decide +kernel) (by decide +kernel) ⟨rfl,rfl,rfl,rfl,rfl,by decide +kernel⟩ ?hw ?hc
 case hl=>exact Mine.hl14
 case hw=>w_witness2
 case hc=>exact Mine.walk_law Mine.names14 Mine.consts14 Mine.clean_of Mine.look14 Mine.clean14
